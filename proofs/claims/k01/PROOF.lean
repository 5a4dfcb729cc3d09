import PyProof.Rows.All
import Wide.All
import OpenK.AllK
import Wide.FinOn
import KE.KStateDown
import Lean
import HandS.ForMost
import HandS.WordsExc
import HandS.IsInst
import HandS.Conv
import HandS.Wide
import HandS.SortInts
import HandS.TupLe
import HandS.Walk
import HandS.Zip
import HandS.Defaults
import HandS.EndBits
import HandS.Head0
import HandS.Head1
import HandS.Head2
import HandS.HeadEnd
import HandS.HeadHook1
import HandS.HeadHook2
import HandS.ExcOwn
import HandS.ExcIs
import HandS.SetFor
import PySem.Challenge.RW_spotsums_k01_what_is_refused
set_option Elab.async false
set_option linter.all false
set_option maxRecDepth 100000
set_option maxHeartbeats 0
namespace Sp
open PySem PySem.Spec PyProof.Rows L2
/-! ### readings by short names -/
abbrev rAdd : R2 := rI0 fun i j => .int (i + j)
abbrev rSub : R2 := rI0 fun i j => .int (i - j)
abbrev rMul : R2 := rI CMul fun i j => .int (i * j)
abbrev rMulB : R2 := rI IntMulOk fun i j => .int (i * j)
abbrev rDiv : R2 := rI CDiv fun i j => .int (i / j)
abbrev rDivW : R2 := rI CDivW fun i j => .int (i / j)
abbrev rMod : R2 := rI (fun _ j => 0 < j) fun i j => .int (i % j)
abbrev rPow : R2 := rI CPow fun i j => .int (i ^ j.toNat)
abbrev rLt : R2 := rI0 fun i j => .bl (decide (i < j))
abbrev rLe : R2 := rI0 fun i j => .bl (decide (i ≤ j))
abbrev rGt : R2 := rI0 fun i j => .bl (decide (j < i))
abbrev rGe : R2 := rI0 fun i j => .bl (decide (j ≤ i))
abbrev rIsN : R2 := fun x y H Q => y = .non ∧ Q (.bl (decide (x = .non))) H
abbrev rNotN : R2 := fun x y H Q => y = .non ∧ Q (.bl (!decide (x = .non))) H
abbrev rLen (K : PySem.W.Frag) : List V → Hp → VK → Prop := fun xs H Q => ∃ p ys, xs = [.ref p] ∧ (SqL K H p ys ∨ SqT K H p ys) ∧ Q (.int ys.length) H
abbrev rList (K : PySem.W.Frag) : List V → Hp → VK → Prop := fun xs H Q => ∃ p ys, xs = [.ref p] ∧ (SqL K H p ys ∨ SqT K H p ys) ∧ ∀ l, H l = none → Q (.ref l) (upd H l (.lst ys))
abbrev rTuple (K : PySem.W.Frag) : List V → Hp → VK → Prop := fun xs H Q => ∃ p ys, xs = [.ref p] ∧ ((SqL K H p ys ∧ ∀ l, H l = none → Q (.ref l) (upd H l (.tup ys))) ∨ (SqT K H p ys ∧ Q (.ref p) H))
abbrev rMax2 : List V → Hp → VK → Prop := fun xs H Q => ∃ i j, xs = [.int i, .int j] ∧ Q (.int (if j > i then j else i)) H
abbrev rMin2 : List V → Hp → VK → Prop := fun xs H Q => ∃ i j, xs = [.int i, .int j] ∧ Q (.int (if j < i then j else i)) H
theorem op_mulB {X : Cx} : OpR X (binaryOp .Mult) rMulB := opI fun _ _ _ _ _ _ _ hc q => mul_int q hc
/-! ### a def as a caller takes it -/
structure Df (P : Program) (w : World) (K : PySem.W.Frag) (mg : Str → Option Value) (base : Heap) (k : Nat) (x : Str) (ps : List Str) (sp : Sp) : Prop where
  ex : ∃ (f : Addr) (fd : FuncData), FnOk P w K mg base CX0 k f fd ps sp ∧ mg x = some (.ref f) ∧ PySem.W.keepIn K (.ref f) = true ∧ Binds K fd ps []
theorem pe_cd {X : Cx} {k : Nat} {x : Str} {ps : List Str} {sp : Sp} {e : Expr} {es : List Expr} {t : TA} {p pos : Pos} (D : Df X.prog X.w X.K X.mg X.base k x ps sp) (hr : Room k X.A) (hg : Gl X x) (ha : PA X (e :: es) t)
    (hdb : (x == ("__debug__" : Str)) = false := by decide) (he : starEach (e :: es) X.env = (false, eval e X.env) :: starEach es X.env := by rfl) (hpl : (backTo pos (starEach es X.env)).any (·.1) = false := by rfl) :
    PE X (.Call (.Name x p) (e :: es) [] pos) (tCall sp [] E0 t) := by
  obtain ⟨f, fd, F, g, kp, b⟩ := D.ex
  exact pe_call F hr hg g kp b .nil pass0 ha hdb he hpl
/-- the built-in names that no name of the module hides -/
structure Blt (mg : Str → Option Value) : Prop where
  len : mg "len" = none
  range : mg "range" = none
  list : mg "list" = none
  sum : mg "sum" = none
  all : mg "all" = none
  any : mg "any" = none
  max : mg "max" = none
  min : mg "min" = none
  isinstance : mg "isinstance" = none
  int : mg "int" = none
  bool : mg "bool" = none
  tuple : mg "tuple" = none
  sorted : mg "sorted" = none
  enumerate : mg "enumerate" = none
  set : mg "set" = none
/-! ### a word between two statements -/
def tMid (t u : TS) : TS := fun D σ H => ∃ M : L2.St → Hp → Prop, t { D with nx := M } σ H ∧ ∀ σ' H', M σ' H' → u D σ' H'
theorem pss_mid {X : Cx} {st : Stmt} {rest : List Stmt} {t u : TS} (h1 : PS X st t) (h2 : PSs X rest u) : PSs X (st :: rest) (tMid t u) := by
  refine ⟨fun pins s σ H D I h => ?_⟩
  obtain ⟨M, hm, hu⟩ := h
  have run := h1.run pins s σ H { D with nx := M } I hm
  refine wpAny_execs_cons (thn run fun f s1 q => ?_)
  cases f with
  | next =>
    obtain ⟨σ1, H1, I1, q1⟩ := q
    exact h2.run pins s1 σ1 H1 D I1 (hu σ1 H1 q1)
  | brk => exact q
  | cont => exact q
  | ret v => exact q
/-- a law's end by the head's facts, the script's bits told -/
theorem walk_bits {l : PySem.W.OpenLaw} {n k : Nat} {q : Program} {loose : List Str} {XP : (Str → Option Value) → Heap → Prop} {YP : World → Heap → Prop} {d : DefRec} {CX : CXT} {x : Str}
    (hn : l.most = some n) (hn2 : n ≤ sizeLine) (hdf : d.params.defaults = []) (hr : Room k callerA)
    (F : ∀ (w : World) (mg : Str → Option Value) (fa : Addr) (h : Heap), YP w h → h.Ns mainGlobals mg → mg d.name = some (.ref fa) →
      ∃ (K : PySem.W.Frag) (fd : FuncData) (sp : Sp), K.In h ∧ (∀ (s : Shared) (u : Value), BindsTo s fd ⟨[u], []⟩ [(x, u)]) ∧
        (∀ (H : Hp) (a : Addr) (ns : List Int), ns.length ≤ n → (∀ z ∈ ns, Builtin.Int.intBits z ≤ 1048576) → Only H → SqL K H a (ns.map V.int) → sp [.ref a] H (fun v _ => v = .bl true) fun _ _ _ => False) ∧
        ∀ base : Heap, K.In base → base.Ns mainGlobals mg → FnOk l.prog w K mg base CX k fa fd [x] sp)
    (hCX : ∀ (H : Hp) (s : Shared) (e : Value) (s' : Shared), CX [] H s (fun _ _ _ => False) e s' → False) :
    PySem.W.WalkO q loose XP YP l.row.toRowW d [] (fun f vs => PySem.call f vs) := by
  refine Att.attach_callB hn hdf fun w _ s1 mg _ fa _ _ _ _ a vs ns G Y _ _ _ hmg hobj hints hlen hbits hg => ?_
  obtain ⟨K, fd, sp, KX, hb, hsp, hF⟩ := F w mg fa s1.heap Y G.T.g hmg
  exact law_call KX G.T.g G.T.b G.T.builtins G.T.nolimit hg hobj hints (Nat.le_trans hlen hn2) hr hF hb (fun H hO hS => hsp H a ns hlen hbits hO hS) fun H e s' z => hCX H s1 e s' z
/-! ### heaps -/
theorem same_new {H : Hp} {p : Addr} {o : HO} (h : H p = none) : Same H (upd H p o) := fun b x e => by
  rw [upd_ne (ne_of_none e h)]
  exact e
theorem _root_.L2.Same.new {H H1 : Hp} {p : Addr} {o : HO} (s : Same H H1) (h : H1 p = none) : Same H (upd H1 p o) := s.trans (same_new h)
/-- what H doesn't know may change -/
theorem _root_.L2.Same.mut {H H1 : Hp} {p : Addr} {o : HO} (s : Same H H1) (h : H p = none) : Same H (upd H1 p o) := fun b x e => by
  rw [upd_ne (ne_of_none e h)]
  exact s b x e
theorem line_le {n : Nat} (h : n ≤ 100000) : n ≤ sizeLine := Nat.le_trans h (by rw [sizeLine_eq]; decide)
theorem line_lt {n : Nat} (h : n < 100000) : n < sizeLine := Nat.lt_of_lt_of_le h (by rw [sizeLine_eq]; decide)
/-! ### numbers as values -/
abbrev nv (n : Nat) : V := .int (n : Int)
def nvs (l : List Nat) : List V := l.map nv
theorem nvs_int (l : List Nat) : nvs l = (l.map fun n : Nat => (n : Int)).map V.int := by
  rw [List.map_map]
  rfl
theorem nvs_length (l : List Nat) : (nvs l).length = l.length := List.length_map ..
theorem nvs_append (l m : List Nat) : nvs (l ++ m) = nvs l ++ nvs m := List.map_append
theorem nvs_get {l : List Nat} {i n : Nat} (h : l[i]? = some n) : (nvs l)[i]? = some (nv n) := by
  unfold nvs
  rw [List.getElem?_map, h]
  rfl
theorem nvs_at {l : List Nat} {i n : Nat} (h : l[i]? = some n) : atI (nvs l) (i : Int) = some (nv n) := atI_nat (nvs_get h)
theorem nv_inj {a b : Nat} (h : nv a = nv b) : a = b := Int.ofNat.inj (V.int.inj h)
theorem inV_int (x : Int) (xs : List Int) : inV (.int x) (xs.map V.int) = decide (x ∈ xs) := by
  unfold inV
  rw [List.any_map]
  rw [Bool.eq_iff_iff, List.any_eq_true, decide_eq_true_iff]
  constructor
  · rintro ⟨y, hy, e⟩
    have e2 : (y == x) = true := e
    rw [beq_iff_eq] at e2
    rw [← e2]
    exact hy
  · intro h
    exact ⟨x, h, show (x == x) = true from beq_self_eq_true x⟩
theorem inV_nv (x : Nat) (xs : List Nat) : inV (nv x) (nvs xs) = decide (x ∈ xs) := by
  rw [nvs_int, inV_int]
  rw [Bool.eq_iff_iff, decide_eq_true_iff, decide_eq_true_iff]
  constructor
  · intro h
    obtain ⟨y, hy, e⟩ := List.mem_map.mp h
    rw [← Int.ofNat.inj e]
    exact hy
  · exact fun h => List.mem_map.mpr ⟨x, h, rfl⟩
theorem flat_nvs (l : List Nat) : (nvs l).all flatV = true := by
  rw [List.all_eq_true]
  intro v hv
  obtain ⟨n, _, rfl⟩ := List.mem_map.mp hv
  rfl
theorem sum_nat (l : List Nat) : (l.map fun n : Nat => (n : Int)).sum = ((l.sum : Nat) : Int) := by
  induction l with
  | nil => rfl
  | cons a r ih =>
    rw [List.map_cons, List.sum_cons, List.sum_cons, ih]
    omega
/-! ### comprehensions -/
section
variable {K : PySem.W.Frag} {α : Type} {tt : TT} {te : TE} {σ : L2.St} {H : Hp} {j : Nat} {P : Addr → Hp → Prop}
theorem wipe1 (σ : L2.St) (j : Nat) (x : V) : wipe ((wipe σ [j]).set j (some x)) [j] = wipe σ [j] := by
  show ((σ.set j none).set j (some x)).set j none = σ.set j none
  rw [List.set_set, List.set_set]
theorem wipe1b (σ : L2.St) (j : Nat) (x : V) : (wipe σ [j]).set j (some x) = σ.set j (some x) := by
  show (σ.set j none).set j (some x) = σ.set j (some x)
  rw [List.set_set]
/-- [e for x in xs if t]: values, the source a list -/
theorem lcL {a : Addr} (ds : List α) (enc : α → V) (f : α → Bool) (v : α → V) (hs : SqL K H a (ds.map enc)) (hz : ds.length ≤ 40000)
    (step : ∀ d ∈ ds, ∀ (H1 : Hp) (Qy : VK) (Qf : Hp → Prop), Same H H1 → (f d = true → ∀ H2, Same H1 H2 → Qy (v d) H2) → (f d = false → ∀ H2, Same H1 H2 → Qf H2) →
      tt (σ.set j (some (enc d))) H1 fun b H2 => if b = true then te (σ.set j (some (enc d))) H2 Qy else Qf H2)
    (done : ∀ D H1, H D = none → Same H H1 → H1 D = some (.lst ((ds.filter f).map v)) → P D H1) :
    ∀ D, H D = none → ∃ W : Nat → Nat → Hp → Prop, (∃ m, W 0 m (upd H D (.lst []))) ∧ ∀ i m H, W i m H →
      ((Itl K a).stop i H ∧ P D H) ∨ ((Itl K a).go i H ∧ ∃ Nx : Hp → Prop, (∀ H', Nx H' → ∃ m', m' < m ∧ W (i + 1) m' H') ∧ ∀ x H', (Itl K a).yld i H x H' → gName j x (wipe σ [j]) H' fun σ2 H2 => wipe σ2 [j] = wipe σ [j] ∧ tt σ2 H2 fun b H3 =>
        if b = true then te σ2 H3 fun y H4 => ∃ acc, H4 D = some (.lst acc) ∧ acc.length < sizeLine ∧ Nx (upd H4 D (.lst (acc ++ [y]))) else Nx H3) := by
  intro D hD
  refine lc_list (xs := ds.map enc) (fun i H' => Same H H' ∧ H' D = some (.lst (((ds.take i).filter f).map v))) ⟨same_new hD, upd_same⟩ (fun i H' _ p => p.1.seq hs) (fun i x H' hi p => ?_) (fun H' p => ?_)
  · rw [List.getElem?_map] at hi
    cases hd : ds[i]? with
    | none => rw [hd] at hi; cases hi
    | some d =>
      rw [hd] at hi
      have ex : enc d = x := Option.some.inj hi
      subst ex
      show wipe ((wipe σ [j]).set j (some (enc d))) [j] = wipe σ [j] ∧ tt ((wipe σ [j]).set j (some (enc d))) H' _
      refine ⟨wipe1 _ _ _, ?_⟩
      rw [wipe1b]
      have et : ds.take (i + 1) = ds.take i ++ [d] := by
        rw [List.take_add_one, hd]
        rfl
      refine step d (List.mem_of_getElem? hd) H' _ _ p.1 (fun hf H2 s2 => ?_) (fun hf H2 s2 => ?_)
      · refine ⟨_, s2 D _ p.2, line_lt ?_, (p.1.trans s2).mut hD, ?_⟩
        · rw [List.length_map]
          have h1 := List.length_filter_le f (ds.take i)
          have h2 : (ds.take i).length ≤ ds.length := by rw [List.length_take]; omega
          omega
        · rw [upd_same, et, List.filter_append, List.map_append, List.filter_cons, if_pos hf]
          rfl
      · refine ⟨p.1.trans s2, ?_⟩
        rw [et, List.filter_append, List.filter_cons, if_neg (by rw [hf]; exact Bool.false_ne_true), List.filter_nil, List.append_nil]
        exact s2 D _ p.2
  · rw [List.length_map, List.take_length] at p
    exact done D H' hD p.1 p.2
/-- the same, the source a range from 0 -/
theorem lcR {n : Nat} (f : Nat → Bool) (v : Nat → V) (hz : n ≤ 40000)
    (step : ∀ i < n, ∀ (H1 : Hp) (Qy : VK) (Qf : Hp → Prop), Same H H1 → (f i = true → ∀ H2, Same H1 H2 → Qy (v i) H2) → (f i = false → ∀ H2, Same H1 H2 → Qf H2) →
      tt (σ.set j (some (nv i))) H1 fun b H2 => if b = true then te (σ.set j (some (nv i))) H2 Qy else Qf H2)
    (done : ∀ D H1, H D = none → Same H H1 → H1 D = some (.lst (((List.range n).filter f).map v)) → P D H1) :
    ∀ D, H D = none → ∃ W : Nat → Nat → Hp → Prop, (∃ m, W 0 m (upd H D (.lst []))) ∧ ∀ i m H, W i m H →
      ((Itr 0 n).stop i H ∧ P D H) ∨ ((Itr 0 n).go i H ∧ ∃ Nx : Hp → Prop, (∀ H', Nx H' → ∃ m', m' < m ∧ W (i + 1) m' H') ∧ ∀ x H', (Itr 0 n).yld i H x H' → gName j x (wipe σ [j]) H' fun σ2 H2 => wipe σ2 [j] = wipe σ [j] ∧ tt σ2 H2 fun b H3 =>
        if b = true then te σ2 H3 fun y H4 => ∃ acc, H4 D = some (.lst acc) ∧ acc.length < sizeLine ∧ Nx (upd H4 D (.lst (acc ++ [y]))) else Nx H3) := by
  intro D hD
  refine lc_range (fun i H' => Same H H' ∧ H' D = some (.lst (((List.range i).filter f).map v))) ⟨same_new hD, upd_same⟩ (fun i H' hi p => ?_) (fun H' p => done D H' hD p.1 p.2)
  show wipe ((wipe σ [j]).set j (some (.int ((0 : Int) + (i : Int))))) [j] = wipe σ [j] ∧ tt ((wipe σ [j]).set j (some (.int ((0 : Int) + (i : Int))))) H' _
  rw [Int.zero_add]
  refine ⟨wipe1 _ _ _, ?_⟩
  rw [wipe1b]
  refine step i hi H' _ _ p.1 (fun hf H2 s2 => ?_) (fun hf H2 s2 => ?_)
  · refine ⟨_, s2 D _ p.2, line_lt ?_, (p.1.trans s2).mut hD, ?_⟩
    · rw [List.length_map]
      have h1 := List.length_filter_le f (List.range i)
      rw [List.length_range] at h1
      omega
    · rw [upd_same, List.range_succ, List.filter_append, List.map_append, List.filter_cons, if_pos hf]
      rfl
  · refine ⟨p.1.trans s2, ?_⟩
    rw [List.range_succ, List.filter_append, List.filter_cons, if_neg (by rw [hf]; exact Bool.false_ne_true), List.filter_nil, List.append_nil]
    exact s2 D _ p.2
end
/-! ### lists of lists -/
/-- ps: lists of their own, of these contents -/
structure Rows (H : Hp) (ps : List Addr) (cs : List (List V)) : Prop where
  len : ps.length = cs.length
  at_ : ∀ (i : Nat) (p : Addr) (c : List V), ps[i]? = some p → cs[i]? = some c → H p = some (.lst c)
theorem Rows.same {H H1 : Hp} {ps : List Addr} {cs : List (List V)} (r : Rows H ps cs) (s : Same H H1) : Rows H1 ps cs := ⟨r.len, fun i p c h1 h2 => s p _ (r.at_ i p c h1 h2)⟩
theorem Rows.get {H : Hp} {ps : List Addr} {cs : List (List V)} (r : Rows H ps cs) {i : Nat} {c : List V} (h : cs[i]? = some c) : ∃ p, ps[i]? = some p ∧ H p = some (.lst c) := by
  have h1 : i < cs.length := (List.getElem?_eq_some_iff.mp h).1
  have h2 : i < ps.length := by rw [r.len]; exact h1
  exact ⟨ps[i], List.getElem?_eq_getElem h2, r.at_ i _ c (List.getElem?_eq_getElem h2) h⟩
/-- a web (a list of lists) of these rows: it stands at a -/
def Lol (H : Hp) (a : Addr) (cs : List (List V)) : Prop := ∃ ps : List Addr, H a = some (.lst (ps.map V.ref)) ∧ Rows H ps cs
theorem Lol.same {H H1 : Hp} {a : Addr} {cs : List (List V)} (r : Lol H a cs) (s : Same H H1) : Lol H1 a cs := let ⟨ps, h, q⟩ := r; ⟨ps, s _ _ h, q.same s⟩
/-- the same, every list of its own and new to H0 -/
def LolN (H0 H : Hp) (a : Addr) (cs : List (List V)) : Prop := ∃ ps : List Addr, H a = some (.lst (ps.map V.ref)) ∧ Rows H ps cs ∧ ps.Nodup ∧ a ∉ ps ∧ H0 a = none ∧ ∀ p ∈ ps, H0 p = none
theorem LolN.lol {H0 H : Hp} {a : Addr} {cs : List (List V)} (r : LolN H0 H a cs) : Lol H a cs := let ⟨ps, h, q, _⟩ := r; ⟨ps, h, q⟩
theorem LolN.same {H0 H H1 : Hp} {a : Addr} {cs : List (List V)} (r : LolN H0 H a cs) (s : Same H H1) : LolN H0 H1 a cs := let ⟨ps, h, q, x⟩ := r; ⟨ps, s _ _ h, q.same s, x⟩
theorem Lol.at_ {H : Hp} {a : Addr} {cs : List (List V)} (r : Lol H a cs) {i : Nat} {c : List V} (h : cs[i]? = some c) {ps : List Addr} (e : H a = some (.lst (ps.map V.ref))) : ∃ p, ps[i]? = some p ∧ H p = some (.lst c) := by
  obtain ⟨qs, e2, R⟩ := r
  rw [e] at e2
  have e3 : ps = qs := List.map_inj_right (fun _ _ z => V.ref.inj z) |>.mp (HO.lst.inj (Option.some.inj e2))
  subst e3
  exact R.get h
section
variable {K : PySem.W.Frag} {α : Type} {te : TE} {σ : L2.St} {H : Hp} {j : Nat} {P : Addr → Hp → Prop}
theorem rows_add {H H1 : Hp} {ps : List Addr} {cs : List (List V)} {p : Addr} {c : List V} (r : Rows H ps cs) (s : ∀ q ∈ ps, ∀ o, H q = some o → H1 q = some o) (hp : H1 p = some (.lst c)) : Rows H1 (ps ++ [p]) (cs ++ [c]) := by
  refine ⟨by rw [List.length_append, List.length_append, r.len]; rfl, fun i q d h1 h2 => ?_⟩
  by_cases hi : i < ps.length
  · rw [List.getElem?_append_left hi] at h1
    rw [List.getElem?_append_left (by rw [← r.len]; exact hi)] at h2
    exact s q (List.mem_of_getElem? h1) _ (r.at_ i q d h1 h2)
  · rw [List.getElem?_append_right (by omega)] at h1
    rw [List.getElem?_append_right (by rw [← r.len]; omega)] at h2
    rw [r.len] at h1
    cases e : i - cs.length with
    | zero =>
      rw [e] at h1 h2
      have e1 : p = q := Option.some.inj h1
      have e2 : c = d := Option.some.inj h2
      rw [← e1, ← e2]
      exact hp
    | succ k => rw [e] at h1; cases h1
/-- the turn of a comprehension that makes a new list each time -/
theorem lcN_turn {D : Addr} {H' H2 : Hp} {ps : List Addr} {cs : List (List V)} {p : Addr} {c : List V} (hD : H D = none) (s1 : Same H H') (hl : H' D = some (.lst (ps.map V.ref))) (R : Rows H' ps cs) (nd : ps.Nodup) (na : D ∉ ps) (hn : ∀ q ∈ ps, H q = none)
    (np : H' p = none) (s2 : Same H' H2) (hp : H2 p = some (.lst c)) :
    Same H (upd H2 D (.lst (ps.map V.ref ++ [V.ref p]))) ∧ upd H2 D (.lst (ps.map V.ref ++ [V.ref p])) D = some (.lst ((ps ++ [p]).map V.ref)) ∧ Rows (upd H2 D (.lst (ps.map V.ref ++ [V.ref p]))) (ps ++ [p]) (cs ++ [c]) ∧ (ps ++ [p]).Nodup ∧ D ∉ ps ++ [p] ∧ ∀ q ∈ ps ++ [p], H q = none := by
  have pD : p ≠ D := fun e => by rw [e, hl] at np; cases np
  have pps : p ∉ ps := fun h => by
    obtain ⟨i, hi⟩ := List.mem_iff_getElem?.mp h
    have h1 : i < cs.length := by rw [← R.len]; exact (List.getElem?_eq_some_iff.mp hi).1
    have := R.at_ i p _ hi (List.getElem?_eq_getElem h1)
    rw [np] at this
    cases this
  refine ⟨(s1.trans s2).mut hD, ?_, ?_, ?_, ?_, ?_⟩
  · rw [upd_same, List.map_append]
    rfl
  · refine rows_add R (fun q hq o e => ?_) ?_
    · have qD : q ≠ D := fun e => na (e ▸ hq)
      rw [upd_ne qD]
      exact s2 q o e
    · rw [upd_ne pD]
      exact hp
  · refine List.nodup_append.mpr ⟨nd, List.nodup_cons.mpr ⟨List.not_mem_nil, List.nodup_nil⟩, fun x hx y hy e => ?_⟩
    rw [List.mem_singleton.mp hy] at e
    exact pps (e ▸ hx)
  · intro h
    rcases List.mem_append.mp h with h | h
    · exact na h
    · exact pD (List.mem_singleton.mp h).symm
  · intro q hq
    rcases List.mem_append.mp hq with h | h
    · exact hn q h
    · rw [List.mem_singleton.mp h]
      exact s1.free np
/-- [<a new list> for x in xs] -/
theorem lcLN {a : Addr} (ds : List α) (enc : α → V) (c : α → List V) (hs : SqL K H a (ds.map enc)) (hz : ds.length ≤ 40000)
    (step : ∀ d ∈ ds, ∀ (H1 : Hp) (Qy : VK), Same H H1 → (∀ p H2, H1 p = none → Same H1 H2 → H2 p = some (.lst (c d)) → Qy (.ref p) H2) → te (σ.set j (some (enc d))) H1 Qy)
    (done : ∀ D H1, Same H H1 → LolN H H1 D (ds.map c) → P D H1) :
    ∀ D, H D = none → ∃ W : Nat → Nat → Hp → Prop, (∃ m, W 0 m (upd H D (.lst []))) ∧ ∀ i m H, W i m H →
      ((Itl K a).stop i H ∧ P D H) ∨ ((Itl K a).go i H ∧ ∃ Nx : Hp → Prop, (∀ H', Nx H' → ∃ m', m' < m ∧ W (i + 1) m' H') ∧ ∀ x H', (Itl K a).yld i H x H' → gName j x (wipe σ [j]) H' fun σ2 H2 => wipe σ2 [j] = wipe σ [j] ∧ tYes σ2 H2 fun b H3 =>
        if b = true then te σ2 H3 fun y H4 => ∃ acc, H4 D = some (.lst acc) ∧ acc.length < sizeLine ∧ Nx (upd H4 D (.lst (acc ++ [y]))) else Nx H3) := by
  intro D hD
  refine lc_list (xs := ds.map enc) (fun i H' => Same H H' ∧ ∃ ps : List Addr, H' D = some (.lst (ps.map V.ref)) ∧ Rows H' ps ((ds.take i).map c) ∧ ps.Nodup ∧ D ∉ ps ∧ ∀ q ∈ ps, H q = none)
    ⟨same_new hD, [], upd_same, ⟨rfl, fun i p c h => by cases h⟩, List.nodup_nil, List.not_mem_nil, fun q h => by cases h⟩ (fun i H' _ p => p.1.seq hs) (fun i x H' hi p => ?_) (fun H' p => ?_)
  · rw [List.getElem?_map] at hi
    cases hd : ds[i]? with
    | none => rw [hd] at hi; cases hi
    | some d =>
      rw [hd] at hi
      have ex : enc d = x := Option.some.inj hi
      subst ex
      refine ⟨wipe1 _ _ _, ?_⟩
      show te ((wipe σ [j]).set j (some (enc d))) H' _
      rw [wipe1b]
      obtain ⟨s1, ps, hl, R, nd, na, hn⟩ := p
      have et : (ds.take (i + 1)).map c = (ds.take i).map c ++ [c d] := by
        rw [List.take_add_one, hd, List.map_append]
        rfl
      refine step d (List.mem_of_getElem? hd) H' _ s1 (fun p H2 np s2 hp => ⟨_, s2 D _ hl, line_lt ?_, ?_⟩)
      · rw [List.length_map, R.len, List.length_map, List.length_take]
        omega
      · obtain ⟨z1, z2, z3, z4, z5, z6⟩ := lcN_turn hD s1 hl R nd na hn np s2 hp
        exact ⟨z1, ps ++ [p], z2, by rw [et]; exact z3, z4, z5, z6⟩
  · obtain ⟨s1, ps, hl, R, nd, na, hn⟩ := p
    rw [List.length_map, List.take_length] at R
    exact done D H' s1 ⟨ps, hl, R, nd, na, hD, hn⟩
/-- the same over a range from 0 -/
theorem lcRN {n : Nat} (c : Nat → List V) (hz : n ≤ 40000)
    (step : ∀ i < n, ∀ (H1 : Hp) (Qy : VK), Same H H1 → (∀ p H2, H1 p = none → Same H1 H2 → H2 p = some (.lst (c i)) → Qy (.ref p) H2) → te (σ.set j (some (nv i))) H1 Qy)
    (done : ∀ D H1, Same H H1 → LolN H H1 D ((List.range n).map c) → P D H1) :
    ∀ D, H D = none → ∃ W : Nat → Nat → Hp → Prop, (∃ m, W 0 m (upd H D (.lst []))) ∧ ∀ i m H, W i m H →
      ((Itr 0 n).stop i H ∧ P D H) ∨ ((Itr 0 n).go i H ∧ ∃ Nx : Hp → Prop, (∀ H', Nx H' → ∃ m', m' < m ∧ W (i + 1) m' H') ∧ ∀ x H', (Itr 0 n).yld i H x H' → gName j x (wipe σ [j]) H' fun σ2 H2 => wipe σ2 [j] = wipe σ [j] ∧ tYes σ2 H2 fun b H3 =>
        if b = true then te σ2 H3 fun y H4 => ∃ acc, H4 D = some (.lst acc) ∧ acc.length < sizeLine ∧ Nx (upd H4 D (.lst (acc ++ [y]))) else Nx H3) := by
  intro D hD
  refine lc_range (fun i H' => Same H H' ∧ ∃ ps : List Addr, H' D = some (.lst (ps.map V.ref)) ∧ Rows H' ps ((List.range i).map c) ∧ ps.Nodup ∧ D ∉ ps ∧ ∀ q ∈ ps, H q = none)
    ⟨same_new hD, [], upd_same, ⟨rfl, fun i p c h => by cases h⟩, List.nodup_nil, List.not_mem_nil, fun q h => by cases h⟩ (fun i H' hi p => ?_) (fun H' p => ?_)
  · refine ⟨wipe1 _ _ _, ?_⟩
    show te ((wipe σ [j]).set j (some (.int ((0 : Int) + (i : Int))))) H' _
    rw [Int.zero_add, wipe1b]
    obtain ⟨s1, ps, hl, R, nd, na, hn⟩ := p
    have et : (List.range (i + 1)).map c = (List.range i).map c ++ [c i] := by
      rw [List.range_succ, List.map_append]
      rfl
    refine step i hi H' _ s1 (fun p H2 np s2 hp => ⟨_, s2 D _ hl, line_lt ?_, ?_⟩)
    · rw [List.length_map, R.len, List.length_map, List.length_range]
      omega
    · obtain ⟨z1, z2, z3, z4, z5, z6⟩ := lcN_turn hD s1 hl R nd na hn np s2 hp
      exact ⟨z1, ps ++ [p], z2, by rw [et]; exact z3, z4, z5, z6⟩
  · obtain ⟨s1, ps, hl, R, nd, na, hn⟩ := p
    exact done D H' s1 ⟨ps, hl, R, nd, na, hD, hn⟩
end
end Sp

namespace Sp
/-! ### numbers laid over one another -/
def xo : List Nat → Nat
  | [] => 0
  | a :: r => a ^^^ xo r
theorem xo_append : ∀ l m : List Nat, xo (l ++ m) = xo l ^^^ xo m
  | [], m => (Nat.zero_xor _).symm
  | a :: r, m => by
    show a ^^^ xo (r ++ m) = (a ^^^ xo r) ^^^ xo m
    rw [xo_append r m, Nat.xor_assoc]
theorem xo_perm {l m : List Nat} (h : l.Perm m) : xo l = xo m := by
  induction h with
  | nil => rfl
  | cons a _ ih => show a ^^^ xo _ = a ^^^ xo _; rw [ih]
  | swap a b r =>
    show b ^^^ (a ^^^ xo r) = a ^^^ (b ^^^ xo r)
    rw [← Nat.xor_assoc, ← Nat.xor_assoc, Nat.xor_comm b a]
  | trans _ _ h1 h2 => exact h1.trans h2
theorem xo_reverse (l : List Nat) : xo l.reverse = xo l := xo_perm (List.reverse_perm l)
theorem xo_single (a : Nat) : xo [a] = a := Nat.xor_zero a
theorem xo_twice (l : List Nat) : xo (l ++ l.reverse) = 0 := by rw [xo_append, xo_reverse, Nat.xor_self]
theorem xo_with (l : List Nat) : xo (l ++ [xo l]) = 0 := by rw [xo_append, xo_single, Nat.xor_self]
theorem xor_mod_two (a b : Nat) : (a ^^^ b) % 2 = (a % 2 + b % 2) % 2 := by
  have h := @Nat.xor_mod_two_pow a b 1
  rw [Nat.pow_one] at h
  rw [h]
  have ha : a % 2 = 0 ∨ a % 2 = 1 := by omega
  have hb : b % 2 = 0 ∨ b % 2 = 1 := by omega
  rcases ha with e | e <;> rcases hb with f | f <;> rw [e, f] <;> rfl
theorem xo_mod_two : ∀ l : List Nat, xo l % 2 = (l.map (· % 2)).sum % 2
  | [] => rfl
  | a :: r => by
    show (a ^^^ xo r) % 2 = _
    rw [xor_mod_two, xo_mod_two r, List.map_cons, List.sum_cons]
    omega
theorem xo_half : ∀ l : List Nat, xo ((l.filter fun n => decide (1 < n)).map (· / 2)) = xo l / 2
  | [] => rfl
  | a :: r => by
    show _ = (a ^^^ xo r) / 2
    rw [Nat.xor_div_two, ← xo_half r, List.filter_cons]
    by_cases h : 1 < a
    · rw [if_pos (decide_eq_true h)]
      rfl
    · rw [if_neg (by simpa using h)]
      have e : a / 2 = 0 := by omega
      rw [e, Nat.zero_xor]
theorem xo_lt : ∀ {l : List Nat} {k : Nat}, (∀ x ∈ l, x < 2 ^ k) → xo l < 2 ^ k
  | [], k, _ => Nat.two_pow_pos k
  | a :: r, k, h => Nat.xor_lt_two_pow (h a (List.mem_cons_self ..)) (xo_lt fun x hx => h x (List.mem_cons_of_mem _ hx))
theorem bit_of (x k : Nat) : x / 2 ^ k % 2 = if x.testBit k then 1 else 0 := by
  rw [Nat.testBit_eq_decide_div_mod_eq]
  by_cases h : x / 2 ^ k % 2 = 1
  · rw [if_pos (decide_eq_true h), h]
  · rw [if_neg (by simpa using h)]
    omega
theorem xor_bit (a b k : Nat) : (a ^^^ b) / 2 ^ k % 2 = (a / 2 ^ k % 2 + b / 2 ^ k % 2) % 2 := by
  rw [bit_of, bit_of, bit_of, Nat.testBit_xor]
  cases a.testBit k <;> cases b.testBit k <;> rfl
theorem xo_bit : ∀ (l : List Nat) (k : Nat), xo l / 2 ^ k % 2 = (l.filter fun n => decide (n / 2 ^ k % 2 = 1)).length % 2
  | [], k => by
    show 0 / 2 ^ k % 2 = 0
    rw [Nat.zero_div]
  | a :: r, k => by
    show (a ^^^ xo r) / 2 ^ k % 2 = _
    rw [xor_bit, xo_bit r k, List.filter_cons]
    by_cases h : a / 2 ^ k % 2 = 1
    · rw [if_pos (decide_eq_true h), List.length_cons, h]
      omega
    · rw [if_neg (by simpa using h)]
      have e : a / 2 ^ k % 2 = 0 := by omega
      rw [e]
      omega
theorem mod_step (x k : Nat) : x % 2 ^ (k + 1) = x % 2 ^ k + 2 ^ k * (x / 2 ^ k % 2) := Nat.mod_pow_succ
end Sp

namespace Sp
open PySem PySem.Spec PyProof.Rows L2
/-! ### data: lists of numbers, webs, moves -/
def dNs (l : List Nat) : PyData := .list (l.map fun n : Nat => .int (n : Int))
def dWeb (W : List (List Nat)) : PyData := .list (W.map dNs)
/-- data of one depth below d that can be laid -/
theorem lay_all {α : Type} (f : α → PyData) : ∀ l : List α, (∀ x ∈ l, (f x).canLay0 = true) → PyData.canLayAll0 (l.map f) = true
  | [], _ => rfl
  | a :: r, h => by
    show ((f a).canLay0 && PyData.canLayAll0 (r.map f)) = true
    rw [h a (List.mem_cons_self ..), lay_all f r fun x hx => h x (List.mem_cons_of_mem _ hx)]
    rfl
theorem depth_all {α : Type} (f : α → PyData) (d : Nat) : ∀ l : List α, (∀ x ∈ l, (f x).depth ≤ d) → PyData.depthAll (l.map f) ≤ d
  | [], _ => Nat.zero_le _
  | a :: r, h => by
    show max (f a).depth (PyData.depthAll (r.map f)) ≤ d
    exact Nat.max_le.mpr ⟨h a (List.mem_cons_self ..), depth_all f d r fun x hx => h x (List.mem_cons_of_mem _ hx)⟩
/-- data that can be compared, d deep -/
def Flt (d : Nat) (x : PyData) : Prop := x.canLay0 = true ∧ x.depth ≤ d
theorem Flt.shaped {d : Nat} {x : PyData} (h : Flt d x) (hd : d ≤ 64) : SeqAt.shaped x = true := by
  unfold SeqAt.shaped
  rw [h.1, decide_eq_true (Nat.le_trans h.2 hd)]
  rfl
theorem Flt.refl {d : Nat} {x : PyData} (h : Flt d x) : PyData.eqv x x = true := SeqAt.eqv_refl x h.1
theorem flt_int (n : Int) : Flt 1 (.int n) := ⟨rfl, Nat.le_of_ble_eq_true rfl⟩
theorem flt_bool (n : Bool) : Flt 1 (.bool n) := ⟨rfl, Nat.le_of_ble_eq_true rfl⟩
theorem flt_list {α : Type} {d : Nat} (f : α → PyData) (l : List α) (h : ∀ x ∈ l, Flt d (f x)) : Flt (d + 1) (.list (l.map f)) := by
  refine ⟨lay_all f l fun x hx => (h x hx).1, ?_⟩
  have h1 := depth_all f d l fun x hx => (h x hx).2
  show PyData.depthAll (l.map f) + 1 ≤ d + 1
  omega
theorem flt_tup {α : Type} {d : Nat} (f : α → PyData) (l : List α) (h : ∀ x ∈ l, Flt d (f x)) : Flt (d + 1) (.tuple (l.map f)) := by
  refine ⟨lay_all f l fun x hx => (h x hx).1, ?_⟩
  have h1 := depth_all f d l fun x hx => (h x hx).2
  show PyData.depthAll (l.map f) + 1 ≤ d + 1
  omega
theorem flt_ns (l : List Nat) : Flt 2 (dNs l) := flt_list _ l fun n _ => flt_int n
theorem flt_web (W : List (List Nat)) : Flt 3 (dWeb W) := flt_list _ W fun r _ => flt_ns r
theorem eqv_all {α : Type} [DecidableEq α] (f : α → PyData) (hf : ∀ a b, PyData.eqv (f a) (f b) = decide (a = b)) : ∀ l m : List α, PyData.eqvAll (l.map f) (m.map f) = decide (l = m)
  | [], [] => rfl
  | [], b :: m => rfl
  | a :: l, [] => rfl
  | a :: l, b :: m => by
    show (PyData.eqv (f a) (f b) && PyData.eqvAll (l.map f) (m.map f)) = _
    rw [hf, eqv_all f hf l m, Bool.eq_iff_iff, Bool.and_eq_true, decide_eq_true_iff, decide_eq_true_iff, decide_eq_true_iff, List.cons.injEq]
theorem eqv_ns (l m : List Nat) : PyData.eqv (dNs l) (dNs m) = decide (l = m) :=
  eqv_all (fun n : Nat => PyData.int (n : Int)) (fun a b => by
    show ((a : Int) == (b : Int)) = decide (a = b)
    rw [Bool.eq_iff_iff, beq_iff_eq, decide_eq_true_iff]
    exact Int.ofNat_inj) l m
theorem eqv_web (l m : List (List Nat)) : PyData.eqv (dWeb l) (dWeb m) = decide (l = m) := eqv_all dNs eqv_ns l m
section
variable {K : PySem.W.Frag} {H : Hp} {a b : Addr} {Q : VK}
theorem dpAll_map {α : Type} (e : α → V) (f : α → PyData) : ∀ l : List α, (∀ x ∈ l, Dp K H (e x) (f x)) → DpAll K H (l.map e) (l.map f)
  | [], _ => .nil
  | x :: r, h => .cons (h x (List.mem_cons_self ..)) (dpAll_map e f r fun y hy => h y (List.mem_cons_of_mem _ hy))
theorem dp_ns {l : List Nat} (h : SqL K H a (nvs l)) : Dp K H (.ref a) (dNs l) := .lst h (dpAll_map nv _ l fun n _ => .int n)
theorem dpAll_rows : ∀ {ps : List Addr} {W : List (List Nat)}, Rows H ps (W.map nvs) → DpAll K H (ps.map V.ref) (W.map dNs)
  | [], [], _ => .nil
  | [], _ :: _, r => by have := r.len; simp at this
  | _ :: _, [], r => by have := r.len; simp at this
  | p :: ps, w :: W, r => by
    refine .cons (dp_ns (.of (r.at_ 0 p _ rfl rfl))) (dpAll_rows ⟨?_, fun i q c h1 h2 => r.at_ (i + 1) q c h1 h2⟩)
    have := r.len
    simpa using this
theorem dp_web {W : List (List Nat)} (h : Lol H a (W.map nvs)) : Dp K H (.ref a) (dWeb W) := let ⟨ps, e, r⟩ := h; .lst (.of e) (dpAll_rows r)
theorem eq_dp {d : Nat} {x y : V} {dx dy : PyData} (hx : Dp K H x dx) (hy : Dp K H y dy) (fx : Flt d dx) (fy : Flt d dy) (hd : d ≤ 64) (q : Q (.bl (PyData.eqv dx dy)) H) : rEqD K x y H Q := ⟨dx, dy, hx, hy, fx.shaped hd, fy.shaped hd, q⟩
theorem ne_dp {d : Nat} {x y : V} {dx dy : PyData} (hx : Dp K H x dx) (hy : Dp K H y dy) (fx : Flt d dx) (fy : Flt d dy) (hd : d ≤ 64) (q : Q (.bl (!PyData.eqv dx dy)) H) : rNeD K x y H Q := ⟨dx, dy, hx, hy, fx.shaped hd, fy.shaped hd, q⟩
theorem ne_ns {l m : List Nat} (ha : SqL K H a (nvs l)) (hb : SqL K H b (nvs m)) (q : Q (.bl (!decide (l = m))) H) : rNeD K (.ref a) (.ref b) H Q := ne_dp (dp_ns ha) (dp_ns hb) (flt_ns l) (flt_ns m) (by decide) (by rw [eqv_ns]; exact q)
theorem eq_ns {l m : List Nat} (ha : SqL K H a (nvs l)) (hb : SqL K H b (nvs m)) (q : Q (.bl (decide (l = m))) H) : rEqD K (.ref a) (.ref b) H Q := eq_dp (dp_ns ha) (dp_ns hb) (flt_ns l) (flt_ns m) (by decide) (by rw [eqv_ns]; exact q)
theorem ne_web {l m : List (List Nat)} (ha : Lol H a (l.map nvs)) (hb : Lol H b (m.map nvs)) (q : Q (.bl (!decide (l = m))) H) : rNeD K (.ref a) (.ref b) H Q := ne_dp (dp_web ha) (dp_web hb) (flt_web l) (flt_web m) (by decide) (by rw [eqv_web]; exact q)
theorem eq_web {l m : List (List Nat)} (ha : Lol H a (l.map nvs)) (hb : Lol H b (m.map nvs)) (q : Q (.bl (decide (l = m))) H) : rEqD K (.ref a) (.ref b) H Q := eq_dp (dp_web ha) (dp_web hb) (flt_web l) (flt_web m) (by decide) (by rw [eqv_web]; exact q)
/-! ### isinstance: the kinds -/
theorem kII : kitB "int" "int" = some true := by decide +kernel
theorem kIB : kitB "int" "bool" = some false := by decide +kernel
theorem kIL : kitB "int" "list" = some false := by decide +kernel
theorem kBB : kitB "bool" "bool" = some true := by decide +kernel
theorem kBI : kitB "bool" "int" = some true := by decide +kernel
theorem kLL : kitB "list" "list" = some true := by decide +kernel
theorem kTT : kitB "tuple" "tuple" = some true := by decide +kernel
theorem sh_ns (l : List Nat) : SeqAt.shaped (dNs l) = true := (flt_ns l).shaped (by decide)
theorem sh_web (l : List (List Nat)) : SeqAt.shaped (dWeb l) = true := (flt_web l).shaped (by decide)
theorem ns_refl (l : List Nat) : PyData.eqv (dNs l) (dNs l) = true := (flt_ns l).refl
theorem web_refl (l : List (List Nat)) : PyData.eqv (dWeb l) (dWeb l) = true := (flt_web l).refl
theorem notT {b : Bool} (h : b = true) : V.bl (!b) = V.bl false := by rw [h]; rfl
theorem blT {b : Bool} (h : b = true) : V.bl b = V.bl true := by rw [h]
end
/-! ### slices -/
theorem cut_map {α : Type} (f : α → V) (l : List α) (lo hi : Option Int) : cutV (l.map f) lo hi = ((l.drop (HT.sIx l.length 0 lo)).take (HT.sIx l.length l.length hi - HT.sIx l.length 0 lo)).map f := by
  unfold cutV
  rw [List.length_map, ← List.map_drop, ← List.map_take]
theorem cut_to {α : Type} (f : α → V) (l : List α) (k : Nat) : cutV (l.map f) none (some (k : Int)) = (l.take k).map f := by
  rw [cut_map, HT.sIx_none, HT.sIx_nat, List.drop_zero, Nat.sub_zero]
  congr 1
  by_cases h : k ≤ l.length
  · rw [Nat.min_eq_left h]
  · rw [Nat.min_eq_right (by omega), List.take_length, List.take_of_length_le (by omega)]
theorem cut_from {α : Type} (f : α → V) (l : List α) (k : Nat) : cutV (l.map f) (some (k : Int)) none = (l.drop k).map f := by
  rw [cut_map, HT.sIx_none, HT.sIx_nat]
  congr 1
  by_cases h : k ≤ l.length
  · rw [Nat.min_eq_left h]
    exact List.take_of_length_le (by rw [List.length_drop]; omega)
  · rw [Nat.min_eq_right (by omega), List.drop_length, List.drop_of_length_le (by omega), List.take_nil]
theorem cut_mid {α : Type} (f : α → V) (l : List α) (i k : Nat) (h : i ≤ k) : cutV (l.map f) (some (i : Int)) (some (k : Int)) = ((l.drop i).take (k - i)).map f := by
  rw [cut_map, HT.sIx_nat, HT.sIx_nat]
  congr 1
  by_cases h1 : k ≤ l.length
  · rw [Nat.min_eq_left h1, Nat.min_eq_left (by omega)]
  · by_cases h2 : i ≤ l.length
    · rw [Nat.min_eq_right (by omega), Nat.min_eq_left h2, List.take_of_length_le (by rw [List.length_drop]; omega), List.take_of_length_le (by rw [List.length_drop]; omega)]
    · rw [Nat.min_eq_right (by omega), Nat.min_eq_right (by omega), List.drop_of_length_le (Nat.le_refl _), List.drop_of_length_le (by omega), List.take_nil, List.take_nil]
theorem all_id {α : Type} (l : List α) : (l.map fun _ => true).all id = true := by
  rw [List.all_map, List.all_eq_true]
  exact fun _ _ => rfl
end Sp

namespace Sp
/-! ### webs as lists of rows -/
def row (W : List (List Nat)) (s : Nat) : List Nat := W.getD s []
theorem row_of {W : List (List Nat)} {s : Nat} {r : List Nat} (h : W[s]? = some r) : row W s = r := by
  unfold row
  rw [List.getD_eq_getElem?_getD, h]
  rfl
theorem row_get {W : List (List Nat)} {s : Nat} (h : s < W.length) : W[s]? = some (row W s) := by
  unfold row
  rw [List.getD_eq_getElem?_getD, List.getElem?_eq_getElem h]
  rfl
theorem row_nil {W : List (List Nat)} {s : Nat} (h : W.length ≤ s) : row W s = [] := by
  unfold row
  rw [List.getD_eq_getElem?_getD, List.getElem?_eq_none h]
  rfl
theorem row_mem {W : List (List Nat)} {s : Nat} (h : s < W.length) : row W s ∈ W := List.mem_of_getElem? (row_get h)
structure Form (W : List (List Nat)) : Prop where
  pos : 1 ≤ W.length
  le : W.length ≤ 200
  nd : ∀ s, (row W s).Nodup
  lt : ∀ s, ∀ x ∈ row W s, x < W.length
def Ranked (W : List (List Nat)) (rk : Nat → Nat) : Prop := ∀ s, ∀ x ∈ row W s, rk x < rk s
def Good (W : List (List Nat)) : Prop := Form W ∧ ∃ rk, Ranked W rk
/-- none twice, all below n: at most n -/
theorem nodup_len : ∀ (n : Nat) (l : List Nat), l.Nodup → (∀ x ∈ l, x < n) → l.length ≤ n
  | 0, [], _, _ => Nat.le_refl _
  | 0, a :: r, _, h => absurd (h a (List.mem_cons_self ..)) (Nat.not_lt_zero a)
  | n + 1, l, nd, h => by
    have h1 : (l.erase n).length ≤ n := nodup_len n (l.erase n) (nd.erase n) fun x hx => by
      have h2 : x ∈ l := List.mem_of_mem_erase hx
      have h3 : x ≠ n := fun e => nd.not_mem_erase (e ▸ hx)
      have := h x h2
      omega
    by_cases hm : n ∈ l
    · have := List.length_erase_of_mem hm
      have : l.length ≠ 0 := fun e => by
        have := List.eq_nil_of_length_eq_zero e
        rw [this] at hm
        cases hm
      omega
    · rw [List.erase_of_not_mem hm] at h1
      omega
theorem nodup_full {n : Nat} {l : List Nat} (nd : l.Nodup) (h : ∀ x ∈ l, x < n) (all : ∀ x < n, x ∈ l) : l.length = n := by
  refine Nat.le_antisymm (nodup_len n l nd h) ?_
  have hp : ∀ (m : Nat) (k : List Nat), k.Nodup → (∀ x < m, x ∈ k) → m ≤ k.length := by
    intro m
    induction m with
    | zero => intro k _ _; exact Nat.zero_le _
    | succ m ih =>
      intro k nk hk
      have hm := hk m (Nat.lt_succ_self m)
      have h1 := ih (k.erase m) (nk.erase m) fun x hx => (List.mem_erase_of_ne (show x ≠ m by omega)).mpr (hk x (by omega))
      have h2 := List.length_erase_of_mem hm
      have h3 : 0 < k.length := List.length_pos_of_mem hm
      omega
  exact hp n l nd all
theorem Form.row_len {W : List (List Nat)} (F : Form W) (s : Nat) : (row W s).length ≤ 200 := Nat.le_trans (nodup_len _ _ (F.nd s) (F.lt s)) F.le
/-! ### the order of play -/
structure PO (W : List (List Nat)) (o : List Nat) : Prop where
  nd : o.Nodup
  lt : ∀ x ∈ o, x < W.length
  top : ∀ i s, o[i]? = some s → ∀ t ∈ row W s, t ∈ o.take i
  clo : ∀ s < W.length, (∀ t ∈ row W s, t ∈ o) → s ∈ o
theorem PO.len {W : List (List Nat)} {o : List Nat} (p : PO W o) : o.length ≤ W.length := nodup_len _ _ p.nd p.lt
theorem PO.full {W : List (List Nat)} {o : List Nat} (p : PO W o) (g : Good W) : ∀ s < W.length, s ∈ o := by
  obtain ⟨F, rk, hr⟩ := g
  have h : ∀ (n s : Nat), rk s < n → s < W.length → s ∈ o := by
    intro n
    induction n with
    | zero => intro s h; exact absurd h (Nat.not_lt_zero _)
    | succ n ih => exact fun s h hs => p.clo s hs fun t ht => ih t (Nat.lt_of_lt_of_le (hr s t ht) (Nat.le_of_lt_succ h)) (F.lt s t ht)
  exact fun s hs => h _ s (Nat.lt_succ_self _) hs
theorem PO.length {W : List (List Nat)} {o : List Nat} (p : PO W o) (g : Good W) : o.length = W.length := nodup_full p.nd p.lt (p.full g)
/-- how many moves lead to spots that are not in o -/
def cnt (W : List (List Nat)) (o : List Nat) (s : Nat) : Nat := ((row W s).filter fun t => decide (t ∉ o)).length
theorem cnt_nil (W : List (List Nat)) (s : Nat) : cnt W [] s = (row W s).length := by
  unfold cnt
  rw [List.filter_eq_self.mpr]
  intro a _
  simp
theorem cnt_zero {W : List (List Nat)} {o : List Nat} {s : Nat} : cnt W o s = 0 ↔ ∀ t ∈ row W s, t ∈ o := by
  unfold cnt
  rw [List.length_eq_zero_iff, List.filter_eq_nil_iff]
  constructor
  · intro h t ht
    have := h t ht
    simpa using this
  · intro h t ht
    simpa using h t ht
theorem filter_snoc : ∀ (l o : List Nat) (s : Nat), l.Nodup → s ∉ o → (l.filter fun t => decide (t ∉ o ++ [s])).length + (if s ∈ l then 1 else 0) = (l.filter fun t => decide (t ∉ o)).length
  | [], o, s, _, _ => rfl
  | a :: r, o, s, nd, ho => by
    have ih := filter_snoc r o s (List.nodup_cons.mp nd).2 ho
    have ha := (List.nodup_cons.mp nd).1
    rw [List.filter_cons, List.filter_cons]
    by_cases e : a = s
    · subst e
      have h1 : ¬ (decide (a ∉ o ++ [a]) = true) := by simp
      have h2 : decide (a ∉ o) = true := by simpa using ho
      rw [if_neg h1, if_pos h2, List.length_cons, if_pos (List.mem_cons_self ..)]
      rw [if_neg ha] at ih
      omega
    · have h3 : (s ∈ a :: r) ↔ s ∈ r := by
        rw [List.mem_cons]
        constructor
        · rintro (h | h)
          · exact absurd h.symm e
          · exact h
        · exact .inr
      have h4 : (if s ∈ a :: r then 1 else 0) = (if s ∈ r then 1 else 0) := by simp only [h3]
      rw [h4]
      by_cases ho2 : a ∈ o
      · have h1 : ¬ (decide (a ∉ o ++ [s]) = true) := by simp [ho2]
        have h2 : ¬ (decide (a ∉ o) = true) := by simp [ho2]
        rw [if_neg h1, if_neg h2]
        exact ih
      · have h1 : decide (a ∉ o ++ [s]) = true := by simp [ho2, e]
        have h2 : decide (a ∉ o) = true := by simp [ho2]
        rw [if_pos h1, if_pos h2, List.length_cons, List.length_cons]
        omega
theorem cnt_snoc {W : List (List Nat)} (F : Form W) {o : List Nat} {s : Nat} (h : s ∉ o) (t : Nat) : cnt W (o ++ [s]) t + (if s ∈ row W t then 1 else 0) = cnt W o t := filter_snoc _ _ _ (F.nd t) h
/-- the spots from which a move leads to s -/
def comeL (W : List (List Nat)) (s : Nat) : List Nat := (List.range W.length).filter fun t => decide (s ∈ row W t)
theorem mem_comeL {W : List (List Nat)} {s t : Nat} : t ∈ comeL W s ↔ t < W.length ∧ s ∈ row W t := by
  unfold comeL
  rw [List.mem_filter, List.mem_range, decide_eq_true_iff]
theorem nodup_comeL (W : List (List Nat)) (s : Nat) : (comeL W s).Nodup := List.nodup_range.filter _
structure PInv (W : List (List Nat)) (o w : List Nat) : Prop where
  nd : (o ++ w).Nodup
  lt : ∀ x ∈ o ++ w, x < W.length
  zero : ∀ s < W.length, s ∈ o ++ w ↔ cnt W o s = 0
  top : ∀ i s, o[i]? = some s → ∀ t ∈ row W s, t ∈ o.take i
theorem PInv.start (W : List (List Nat)) : PInv W [] ((List.range W.length).filter fun s => decide ((row W s).length = 0)) where
  nd := by
    rw [List.nil_append]
    exact List.nodup_range.filter _
  lt := fun x hx => List.mem_range.mp (List.mem_filter.mp hx).1
  zero := fun s hs => by
    rw [List.nil_append, List.mem_filter, List.mem_range, decide_eq_true_iff, cnt_nil]
    exact ⟨fun h => h.2, fun h => ⟨hs, h⟩⟩
  top := fun i s h => by cases h
theorem PInv.stop {W : List (List Nat)} {o : List Nat} (p : PInv W o []) : PO W o where
  nd := by have := p.nd; rwa [List.append_nil] at this
  lt := fun x hx => p.lt x (List.mem_append_left _ hx)
  top := p.top
  clo := fun s hs h => by
    have := (p.zero s hs).mpr (cnt_zero.mpr h)
    rwa [List.append_nil] at this
theorem PInv.turn {W : List (List Nat)} (F : Form W) {o w : List Nat} {s : Nat} (p : PInv W o (w ++ [s])) : PInv W (o ++ [s]) (w ++ (comeL W s).filter fun t => decide (cnt W (o ++ [s]) t = 0)) := by
  have nd0 := p.nd
  have hso : s ∉ o := fun h => by
    have := (List.nodup_append.mp nd0).2.2 s h s (List.mem_append_right _ (List.mem_cons_self ..))
    exact this rfl
  have ndw : (w ++ [s]).Nodup := (List.nodup_append.mp nd0).2.1
  have hsw : s ∉ w := fun h => (List.nodup_append.mp ndw).2.2 s h s (List.mem_cons_self ..) rfl
  have hs : s < W.length := p.lt s (List.mem_append_right _ (List.mem_append_right _ (List.mem_cons_self ..)))
  have old : ∀ t, t ∈ o ++ [s] ++ w ↔ t ∈ o ++ (w ++ [s]) := fun t => by
    simp only [List.mem_append, List.mem_singleton]
    constructor
    · rintro ((h | h) | h)
      · exact .inl h
      · exact .inr (.inr h)
      · exact .inr (.inl h)
    · rintro (h | h | h)
      · exact .inl (.inl h)
      · exact .inr h
      · exact .inl (.inr h)
  have newpos : ∀ t ∈ comeL W s, cnt W o t ≠ 0 := fun t ht e => by
    have := cnt_snoc F hso t
    rw [if_pos (mem_comeL.mp ht).2] at this
    omega
  refine ⟨?_, ?_, ?_, ?_⟩
  · rw [← List.append_assoc]
    refine List.nodup_append.mpr ⟨?_, (nodup_comeL W s).filter _, fun a ha b hb e => ?_⟩
    · refine List.nodup_append.mpr ⟨List.nodup_append.mpr ⟨(List.nodup_append.mp nd0).1, List.nodup_cons.mpr ⟨List.not_mem_nil, List.nodup_nil⟩, fun a ha b hb e => ?_⟩, (List.nodup_append.mp ndw).1, fun a ha b hb e => ?_⟩
      · rw [List.mem_singleton.mp hb] at e
        exact hso (e ▸ ha)
      · subst e
        rcases List.mem_append.mp ha with h | h
        · exact (List.nodup_append.mp nd0).2.2 a h a (List.mem_append_left _ hb) rfl
        · rw [List.mem_singleton.mp h] at hb
          exact hsw hb
    · subst e
      have hb1 := (List.mem_filter.mp hb).1
      have h1 := (p.zero a (mem_comeL.mp hb1).1).mp ((old a).mp ha)
      exact newpos a hb1 h1
  · intro x hx
    rw [← List.append_assoc] at hx
    rcases List.mem_append.mp hx with h | h
    · exact p.lt x ((old x).mp h)
    · exact (mem_comeL.mp (List.mem_filter.mp h).1).1
  · intro t ht
    rw [← List.append_assoc, List.mem_append, old, p.zero t ht, List.mem_filter, mem_comeL, decide_eq_true_iff]
    have h1 := cnt_snoc F hso t
    by_cases hm : s ∈ row W t
    · rw [if_pos hm] at h1
      constructor
      · rintro (h | h)
        · omega
        · exact h.2
      · exact fun h => .inr ⟨⟨ht, hm⟩, h⟩
    · rw [if_neg hm] at h1
      constructor
      · rintro (h | h)
        · omega
        · exact h.2
      · exact fun h => .inl (by omega)
  · intro i t hi u hu
    by_cases hlt : i < o.length
    · rw [List.getElem?_append_left hlt] at hi
      rw [List.take_append_of_le_length (Nat.le_of_lt hlt)]
      exact p.top i t hi u hu
    · rw [List.getElem?_append_right (by omega)] at hi
      have hi0 : i - o.length = 0 := by
        cases e : i - o.length with
        | zero => rfl
        | succ k => rw [e] at hi; cases hi
      rw [hi0] at hi
      have e : s = t := Option.some.inj hi
      subst e
      have h0 : cnt W o s = 0 := (p.zero s hs).mp (List.mem_append_right _ (List.mem_append_right _ (List.mem_cons_self ..)))
      have h1 := cnt_zero.mp h0 u hu
      have h2 : i = o.length := by omega
      rw [h2, List.take_left]
      exact h1
/-! ### a value for each spot, from those of its moves -/
def vals (l r : List Nat) : List Nat := r.map fun t => l.getD t 0
structure IsF (F : List Nat → Nat) (W : List (List Nat)) (l : List Nat) : Prop where
  len : l.length = W.length
  at_ : ∀ s < W.length, l.getD s 0 = F (vals l (row W s))
theorem ext_getD {l m : List Nat} (h : l.length = m.length) (e : ∀ s < l.length, l.getD s 0 = m.getD s 0) : l = m := by
  apply List.ext_getElem h
  intro i h1 h2
  have := e i h1
  rw [List.getD_eq_getElem?_getD, List.getD_eq_getElem?_getD, List.getElem?_eq_getElem h1, List.getElem?_eq_getElem h2] at this
  exact this
theorem vals_congr {l m r : List Nat} (h : ∀ t ∈ r, l.getD t 0 = m.getD t 0) : vals l r = vals m r := List.map_congr_left h
theorem IsF.uniq {F : List Nat → Nat} {W : List (List Nat)} {l m : List Nat} (g : Good W) (a : IsF F W l) (b : IsF F W m) : l = m := by
  obtain ⟨fo, rk, hr⟩ := g
  have h : ∀ (n s : Nat), rk s < n → s < W.length → l.getD s 0 = m.getD s 0 := by
    intro n
    induction n with
    | zero => intro s h; exact absurd h (Nat.not_lt_zero _)
    | succ n ih =>
      intro s h hs
      rw [a.at_ s hs, b.at_ s hs]
      exact congrArg F (vals_congr fun t ht => ih t (Nat.lt_of_lt_of_le (hr s t ht) (Nat.le_of_lt_succ h)) (fo.lt s t ht))
  exact ext_getD (a.len.trans b.len.symm) fun s hs => h _ s (Nat.lt_succ_self _) (by rw [← a.len]; exact hs)
structure PartF (F : List Nat → Nat) (W : List (List Nat)) (o : List Nat) (i : Nat) (l : List Nat) : Prop where
  len : l.length = W.length
  at_ : ∀ s ∈ o.take i, l.getD s 0 = F (vals l (row W s))
  no : ∀ s, s ∉ o.take i → l.getD s 0 = 0
theorem PartF.start (F : List Nat → Nat) (W : List (List Nat)) (o : List Nat) : PartF F W o 0 (List.replicate W.length 0) where
  len := List.length_replicate
  at_ := fun s h => by cases h
  no := fun s _ => by
    rw [List.getD_eq_getElem?_getD, List.getElem?_replicate]
    split <;> rfl
theorem getD_set {l : List Nat} {s t v : Nat} (h : s < l.length) : (l.set s v).getD t 0 = if s = t then v else l.getD t 0 := by
  rw [List.getD_eq_getElem?_getD, List.getElem?_set, List.getD_eq_getElem?_getD]
  by_cases e : s = t
  · rw [if_pos e, if_pos h, if_pos e]
    rfl
  · rw [if_neg e, if_neg e]
theorem take_succ_mem {o : List Nat} {i s t : Nat} (h : o[i]? = some s) : t ∈ o.take (i + 1) ↔ t ∈ o.take i ∨ t = s := by
  rw [List.take_add_one, h, List.mem_append]
  simp
theorem not_take {o : List Nat} (nd : o.Nodup) {i s : Nat} (h : o[i]? = some s) : s ∉ o.take i := fun hm => by
  obtain ⟨j, hj, e⟩ := List.mem_take_iff_getElem.mp hm
  obtain ⟨hi, e2⟩ := List.getElem?_eq_some_iff.mp h
  have := (List.getElem_inj nd (h₀ := by omega) (h₁ := hi)).mp (e.trans e2.symm)
  omega
theorem PartF.turn {F : List Nat → Nat} {W : List (List Nat)} {o : List Nat} {i s : Nat} {l : List Nat} (p : PO W o) (h : PartF F W o i l) (hs : o[i]? = some s) : PartF F W o (i + 1) (l.set s (F (vals l (row W s)))) := by
  have hlt : s < l.length := by rw [h.len]; exact p.lt s (List.mem_of_getElem? hs)
  have hno := not_take p.nd hs
  have keep : ∀ r : List Nat, (∀ t ∈ r, t ∈ o.take i) → ∀ v, vals (l.set s v) r = vals l r := fun r hr v => vals_congr fun t ht => by
    rw [getD_set hlt, if_neg]
    intro e
    exact hno (e ▸ hr t ht)
  refine ⟨by rw [List.length_set]; exact h.len, fun t ht => ?_, fun t ht => ?_⟩
  · rw [getD_set hlt]
    by_cases e : s = t
    · subst e
      rw [if_pos rfl, keep _ (p.top i s hs)]
    · rw [if_neg e]
      have ht2 := ((take_succ_mem hs).mp ht).resolve_right (fun z => e z.symm)
      rw [h.at_ t ht2]
      obtain ⟨j, hj, ej⟩ := List.mem_take_iff_getElem.mp ht2
      rw [keep (row W t) fun u hu => ?_]
      have h1 := p.top j t (by rw [List.getElem?_eq_getElem (by omega), ej]) u hu
      obtain ⟨k, hk, ek⟩ := List.mem_take_iff_getElem.mp h1
      exact List.mem_take_iff_getElem.mpr ⟨k, by omega, ek⟩
  · have h1 : ¬ (t ∈ o.take i ∨ t = s) := fun z => ht ((take_succ_mem hs).mpr z)
    rw [getD_set hlt, if_neg (fun e => h1 (.inr e.symm))]
    exact h.no t fun z => h1 (.inl z)
theorem PartF.stop {F : List Nat → Nat} {W : List (List Nat)} {o l : List Nat} (g : Good W) (p : PO W o) (h : PartF F W o o.length l) : IsF F W l :=
  ⟨h.len, fun s hs => h.at_ s (by rw [List.take_length]; exact p.full g s hs)⟩
end Sp

namespace Sp
/-! ### the least missing number; the longest play -/
theorem range_le : ∀ (m : Nat) (l : List Nat), (∀ x < m, x ∈ l) → m ≤ l.length
  | 0, _, _ => Nat.zero_le _
  | m + 1, l, h => by
    have hm := h m (Nat.lt_succ_self m)
    have h1 := range_le m (l.erase m) fun x hx => (List.mem_erase_of_ne (show x ≠ m by omega)).mpr (h x (by omega))
    have h2 := List.length_erase_of_mem hm
    have h3 : 0 < l.length := List.length_pos_of_mem hm
    omega
structure IsMex (xs : List Nat) (m : Nat) : Prop where
  no : m ∉ xs
  all : ∀ k < m, k ∈ xs
theorem IsMex.uniq {xs : List Nat} {m k : Nat} (a : IsMex xs m) (b : IsMex xs k) : m = k := by
  rcases Nat.lt_trichotomy m k with h | h | h
  · exact absurd (b.all m h) a.no
  · exact h
  · exact absurd (a.all k h) b.no
def mexAux (xs : List Nat) : Nat → Nat → Nat
  | 0, k => k
  | f + 1, k => if k ∈ xs then mexAux xs f (k + 1) else k
def mex (xs : List Nat) : Nat := mexAux xs (xs.length + 1) 0
theorem mexAux_is (xs : List Nat) : ∀ (f k : Nat), f + k = xs.length + 1 → (∀ j < k, j ∈ xs) → IsMex xs (mexAux xs f k)
  | 0, k, e, h => by
    have := range_le k xs h
    omega
  | f + 1, k, e, h => by
    unfold mexAux
    by_cases hk : k ∈ xs
    · rw [if_pos hk]
      exact mexAux_is xs f (k + 1) (by omega) fun j hj => by
        by_cases e : j = k
        · exact e ▸ hk
        · exact h j (by omega)
    · rw [if_neg hk]
      exact ⟨hk, h⟩
theorem mex_is (xs : List Nat) : IsMex xs (mex xs) := mexAux_is xs _ 0 rfl fun j hj => absurd hj (Nat.not_lt_zero j)
theorem mex_le (xs : List Nat) : mex xs ≤ xs.length := range_le _ _ (mex_is xs).all
/-- 0 of none, else one more than the greatest -/
def lenF : List Nat → Nat
  | [] => 0
  | a :: r => max (1 + a) (lenF r)
theorem lenF_le {m : Nat} : ∀ {xs : List Nat}, (∀ x ∈ xs, x ≤ m) → lenF xs ≤ 1 + m
  | [], _ => Nat.zero_le _
  | a :: r, h => Nat.max_le.mpr ⟨Nat.add_le_add_left (h a (List.mem_cons_self ..)) 1, lenF_le fun x hx => h x (List.mem_cons_of_mem _ hx)⟩
theorem lenF_ge {m : Nat} : ∀ {xs : List Nat}, m ∈ xs → 1 + m ≤ lenF xs
  | a :: r, h => by
    rcases List.mem_cons.mp h with e | h
    · subst e
      exact Nat.le_max_left ..
    · exact Nat.le_trans (lenF_ge h) (Nat.le_max_right ..)
theorem lenF_max {m : Nat} {xs : List Nat} (h : m ∈ xs) (g : ∀ x ∈ xs, x ≤ m) : lenF xs = 1 + m := Nat.le_antisymm (lenF_le g) (lenF_ge h)
theorem lenF_mem : ∀ {xs : List Nat}, lenF xs = 0 ∨ ∃ x ∈ xs, lenF xs = 1 + x
  | [] => .inl rfl
  | a :: r => by
    refine .inr ?_
    show ∃ x ∈ a :: r, max (1 + a) (lenF r) = 1 + x
    rcases @lenF_mem r with h | ⟨x, hx, h⟩
    · exact ⟨a, List.mem_cons_self .., by rw [h]; exact Nat.max_eq_left (Nat.zero_le _)⟩
    · by_cases hl : 1 + x ≤ 1 + a
      · exact ⟨a, List.mem_cons_self .., by rw [h]; exact Nat.max_eq_left hl⟩
      · exact ⟨x, List.mem_cons_of_mem _ hx, by rw [h]; exact Nat.max_eq_right (by omega)⟩
theorem vals_length (l r : List Nat) : (vals l r).length = r.length := List.length_map ..
end Sp

namespace Sp
/-! ### rings -/
structure IsRing (W : List (List Nat)) (r : List Nat) : Prop where
  ne : r ≠ []
  nd : r.Nodup
  lt : ∀ x ∈ r, x < W.length
  mv : ∀ i < r.length, r.getD ((i + 1) % r.length) 0 ∈ row W (r.getD i 0)
structure Way (W : List (List Nat)) (R way : List Nat) : Prop where
  ne : way ≠ []
  nd : way.Nodup
  inR : ∀ x ∈ way, x ∈ R
  mv : ∀ i, i + 1 < way.length → way.getD (i + 1) 0 ∈ row W (way.getD i 0)
theorem Way.one {W : List (List Nat)} {R : List Nat} {x : Nat} (h : x ∈ R) : Way W R [x] := ⟨by simp, by simp, fun y hy => by rw [List.mem_singleton.mp hy]; exact h, fun i hi => by simp at hi⟩
theorem getD_app_left {l m : List Nat} {i : Nat} (h : i < l.length) : (l ++ m).getD i 0 = l.getD i 0 := by
  rw [List.getD_eq_getElem?_getD, List.getD_eq_getElem?_getD, List.getElem?_append_left h]
theorem getD_snoc (l : List Nat) (x : Nat) : (l ++ [x]).getD l.length 0 = x := by
  rw [List.getD_eq_getElem?_getD, List.getElem?_append_right (Nat.le_refl _), Nat.sub_self]
  rfl
theorem Way.more {W : List (List Nat)} {R way : List Nat} {x : Nat} (w : Way W R way) (hx : x ∈ R) (hn : x ∉ way) (hm : x ∈ row W (way.getD (way.length - 1) 0)) : Way W R (way ++ [x]) := by
  refine ⟨by simp, ?_, fun y hy => ?_, fun i hi => ?_⟩
  · refine List.nodup_append.mpr ⟨w.nd, by simp, fun a ha b hb e => ?_⟩
    rw [List.mem_singleton.mp hb] at e
    exact hn (e ▸ ha)
  · rcases List.mem_append.mp hy with h | h
    · exact w.inR y h
    · rw [List.mem_singleton.mp h]
      exact hx
  · rw [List.length_append] at hi
    have hi2 : i + 1 < way.length + 1 := hi
    by_cases h : i + 1 < way.length
    · rw [getD_app_left h, getD_app_left (by omega)]
      exact w.mv i h
    · have e : i + 1 = way.length := by omega
      rw [getD_app_left (by omega), e, getD_snoc]
      have e2 : i = way.length - 1 := by omega
      rw [e2]
      exact hm
theorem getD_drop (l : List Nat) (j i : Nat) : (l.drop j).getD i 0 = l.getD (j + i) 0 := by
  rw [List.getD_eq_getElem?_getD, List.getD_eq_getElem?_getD, List.getElem?_drop]
theorem Way.ring {W : List (List Nat)} {R way : List Nat} {j : Nat} (w : Way W R way) (hR : ∀ x ∈ R, x < W.length) (hj : j < way.length) (hm : way.getD j 0 ∈ row W (way.getD (way.length - 1) 0)) : IsRing W (way.drop j) := by
  have hl : (way.drop j).length = way.length - j := List.length_drop
  refine ⟨fun e => ?_, w.nd.sublist (List.drop_sublist _ _), fun x hx => hR x (w.inR x (List.mem_of_mem_drop hx)), fun i hi => ?_⟩
  · rw [e] at hl
    have : 0 = way.length - j := hl
    omega
  · rw [hl] at hi ⊢
    rw [getD_drop, getD_drop]
    by_cases h : i + 1 < way.length - j
    · rw [Nat.mod_eq_of_lt h]
      exact w.mv (j + i) (by omega)
    · have e : i + 1 = way.length - j := by omega
      rw [e, Nat.mod_self, Nat.add_zero]
      have e2 : j + i = way.length - 1 := by omega
      rw [e2]
      exact hm
theorem IsRing.not_good {W : List (List Nat)} {r : List Nat} (h : IsRing W r) : ¬ ∃ rk, Ranked W rk := by
  rintro ⟨rk, hr⟩
  have hpos : 0 < r.length := List.length_pos_iff.mpr h.ne
  have low : ∀ n i, i < r.length → rk (r.getD i 0) < n → False := by
    intro n
    induction n with
    | zero => intro i _ hn; exact absurd hn (Nat.not_lt_zero _)
    | succ n ih =>
      intro i hi hn
      refine ih ((i + 1) % r.length) (Nat.mod_lt _ hpos) ?_
      have := hr _ _ (h.mv i hi)
      omega
  exact low _ 0 hpos (Nat.lt_succ_self _)
/-! ### the spots that no play order holds -/
def restL (W : List (List Nat)) (o : List Nat) : List Nat := (List.range W.length).filter fun x => decide (x ∉ o)
theorem restL_lt {W : List (List Nat)} {o : List Nat} : ∀ x ∈ restL W o, x < W.length := fun x hx => List.mem_range.mp (List.mem_filter.mp hx).1
theorem restL_not {W : List (List Nat)} {o : List Nat} {x : Nat} (h : x ∈ restL W o) : x ∉ o := of_decide_eq_true (List.mem_filter.mp h).2
theorem restL_len (W : List (List Nat)) (o : List Nat) : (restL W o).length ≤ W.length := by
  have := List.length_filter_le (fun x => decide (x ∉ o)) (List.range W.length)
  rw [List.length_range] at this
  exact this
theorem PO.ahead {W : List (List Nat)} {o : List Nat} (F : Form W) (p : PO W o) {s : Nat} (h : s ∈ restL W o) : ∃ t ∈ row W s, t ∈ restL W o := by
  refine Classical.byContradiction fun hn => restL_not h (p.clo s (restL_lt s h) fun t ht => ?_)
  refine Classical.byContradiction fun hto => hn ⟨t, ht, List.mem_filter.mpr ⟨List.mem_range.mpr (F.lt s t ht), decide_eq_true hto⟩⟩
theorem PO.rank {W : List (List Nat)} {o : List Nat} (F : Form W) (p : PO W o) (h : restL W o = []) : Ranked W (fun s => o.idxOf s) ∧ ∀ s < W.length, o.idxOf s < W.length := by
  have full : ∀ s < W.length, s ∈ o := fun s hs => Classical.byContradiction fun hn => by
    have : s ∈ restL W o := List.mem_filter.mpr ⟨List.mem_range.mpr hs, decide_eq_true hn⟩
    rw [h] at this
    cases this
  refine ⟨fun s x hx => ?_, fun s hs => Nat.lt_of_lt_of_le (List.idxOf_lt_length_iff.mpr (full s hs)) p.len⟩
  have hs : s < W.length := Nat.lt_of_not_le fun hle => by
    rw [row_nil hle] at hx
    cases hx
  have hi := List.idxOf_lt_length_iff.mpr (full s hs)
  have hg : o[o.idxOf s]? = some s := by
    rw [List.getElem?_eq_getElem hi, List.getElem_idxOf]
  have ht := p.top _ _ hg x hx
  obtain ⟨k, hk⟩ := List.mem_iff_getElem?.mp ht
  rw [List.getElem?_take] at hk
  split at hk
  · rename_i hlt
    refine Nat.lt_of_le_of_lt ?_ hlt
    obtain ⟨hkl, ek⟩ := List.getElem?_eq_some_iff.mp hk
    have hx2 : x ∈ o := ek ▸ List.getElem_mem hkl
    have hi2 := List.idxOf_lt_length_iff.mpr hx2
    have e2 : o[o.idxOf x] = o[k] := (List.getElem_idxOf hi2).trans ek.symm
    exact Nat.le_of_eq ((List.getElem_inj p.nd).mp e2)
  · cases hk
end Sp

namespace Sp
/-! ### numbers laid over one another, and moves -/
theorem lt_of_bit {n m k : Nat} (h0 : n.testBit k = false) (h1 : m.testBit k = true) (h : ∀ j, k < j → n.testBit j = m.testBit j) : n < m := by
  have up : n / 2 ^ (k + 1) = m / 2 ^ (k + 1) := Nat.eq_of_testBit_eq fun i => by
    rw [Nat.testBit_div_two_pow, Nat.testBit_div_two_pow]
    exact h _ (by omega)
  have b0 := bit_of n k
  have b1 := bit_of m k
  rw [h0] at b0
  rw [h1] at b1
  rw [Nat.pow_succ, ← Nat.div_div_eq_div_mul, ← Nat.div_div_eq_div_mul] at up
  refine Nat.lt_of_not_le fun hle => ?_
  have := Nat.div_le_div_right (c := 2 ^ k) hle
  have e0 : n / 2 ^ k % 2 = 0 := b0
  have e1 : m / 2 ^ k % 2 = 1 := b1
  omega
theorem top_bit : ∀ (d : Nat), d ≠ 0 → ∃ k, d.testBit k = true ∧ ∀ j, k < j → d.testBit j = false := by
  intro d
  induction d using Nat.strongRecOn with
  | ind d ih =>
    intro hd
    by_cases h : d / 2 = 0
    · have e : d = 1 := by omega
      subst e
      refine ⟨0, rfl, fun j hj => ?_⟩
      obtain ⟨i, rfl⟩ : ∃ i, j = i + 1 := ⟨j - 1, by omega⟩
      rw [← Nat.testBit_div_two]
      exact Nat.zero_testBit i
    · obtain ⟨k, h1, h2⟩ := ih (d / 2) (by omega) h
      refine ⟨k + 1, by rw [← Nat.testBit_div_two]; exact h1, fun j hj => ?_⟩
      obtain ⟨i, rfl⟩ : ∃ i, j = i + 1 := ⟨j - 1, by omega⟩
      rw [← Nat.testBit_div_two]
      exact h2 i (by omega)
theorem xor_cancel (a b : Nat) : a ^^^ b ^^^ b = a := by rw [Nat.xor_assoc, Nat.xor_self, Nat.xor_zero]
theorem xor_inj {a b c : Nat} (h : a ^^^ c = b ^^^ c) : a = b := by rw [← xor_cancel a c, h, xor_cancel]
theorem xor_zero_iff {a b : Nat} : a ^^^ b = 0 ↔ a = b := by
  constructor
  · intro h
    have := xor_cancel a b
    rw [h, Nat.zero_xor] at this
    exact this.symm
  · intro h
    rw [h, Nat.xor_self]
theorem xor_less {a d k : Nat} (h1 : d.testBit k = true) (h2 : ∀ j, k < j → d.testBit j = false) (ha : a.testBit k = true) : a ^^^ d < a :=
  lt_of_bit (k := k) (by rw [Nat.testBit_xor, h1, ha]; rfl) ha fun j hj => by rw [Nat.testBit_xor, h2 j hj, Bool.xor_false]
/-- the number of two games at once is that of both laid over -/
theorem mex_xor {xs ys : List Nat} {a b : Nat} (ha : IsMex xs a) (hb : IsMex ys b) : IsMex (xs.map (fun x => x ^^^ b) ++ ys.map fun y => a ^^^ y) (a ^^^ b) := by
  refine ⟨fun h => ?_, fun c hc => ?_⟩
  · rcases List.mem_append.mp h with h | h
    · obtain ⟨x, hx, e⟩ := List.mem_map.mp h
      exact ha.no (xor_inj e ▸ hx)
    · obtain ⟨y, hy, e⟩ := List.mem_map.mp h
      have e2 : y ^^^ a = b ^^^ a := by rw [Nat.xor_comm y a, Nat.xor_comm b a]; exact e
      exact hb.no (xor_inj e2 ▸ hy)
  · have hd : c ^^^ (a ^^^ b) ≠ 0 := fun z => by
      have := xor_zero_iff.mp z
      omega
    obtain ⟨k, h1, h2⟩ := top_bit _ hd
    have agree : ∀ j, k < j → c.testBit j = (a ^^^ b).testBit j := fun j hj => by
      have := h2 j hj
      rw [Nat.testBit_xor] at this
      cases e1 : c.testBit j <;> cases e2 : (a ^^^ b).testBit j <;> rw [e1, e2] at this <;> first | rfl | cases this
    have hs : (a ^^^ b).testBit k = true := by
      cases e : (a ^^^ b).testBit k with
      | true => rfl
      | false =>
        have hck : c.testBit k = true := by
          rw [Nat.testBit_xor, e, Bool.xor_false] at h1
          exact h1
        have := lt_of_bit e hck fun j hj => (agree j hj).symm
        omega
    generalize hg : c ^^^ (a ^^^ b) = d at *
    have back : d ^^^ (a ^^^ b) = c := by rw [← hg, xor_cancel]
    rw [Nat.testBit_xor] at hs
    cases e : a.testBit k with
    | true =>
      have hlt := xor_less h1 h2 e
      refine List.mem_append_left _ (List.mem_map.mpr ⟨a ^^^ d, ha.all _ hlt, ?_⟩)
      show a ^^^ d ^^^ b = c
      rw [← back, Nat.xor_comm a d, Nat.xor_assoc]
    | false =>
      rw [e, Bool.false_xor] at hs
      have hlt := xor_less h1 h2 hs
      refine List.mem_append_right _ (List.mem_map.mpr ⟨b ^^^ d, hb.all _ hlt, ?_⟩)
      show a ^^^ (b ^^^ d) = c
      rw [← back, Nat.xor_comm b d, ← Nat.xor_assoc, Nat.xor_comm a d, Nat.xor_assoc]
/-! ### rows of numbers -/
theorem xo_set : ∀ {l : List Nat} {i x : Nat} (y : Nat), l[i]? = some x → xo (l.set i y) = xo l ^^^ x ^^^ y
  | a :: r, 0, x, y, h => by
    have e : a = x := Option.some.inj h
    subst e
    show y ^^^ xo r = a ^^^ xo r ^^^ a ^^^ y
    rw [Nat.xor_comm a (xo r), xor_cancel, Nat.xor_comm]
  | a :: r, i + 1, x, y, h => by
    show a ^^^ xo (r.set i y) = a ^^^ xo r ^^^ x ^^^ y
    rw [xo_set (l := r) (i := i) y h, Nat.xor_assoc, Nat.xor_assoc, Nat.xor_assoc]
theorem xo_testBit : ∀ {l : List Nat} {k : Nat}, (xo l).testBit k = true → ∃ (i x : Nat), l[i]? = some x ∧ x.testBit k = true
  | [], k, h => by
    rw [show xo [] = 0 from rfl, Nat.zero_testBit] at h
    cases h
  | a :: r, k, h => by
    cases e : a.testBit k with
    | true => exact ⟨0, a, rfl, e⟩
    | false =>
      have h2 : (xo r).testBit k = true := by
        rw [show xo (a :: r) = a ^^^ xo r from rfl, Nat.testBit_xor, e, Bool.false_xor] at h
        exact h
      obtain ⟨i, x, h3, h4⟩ := xo_testBit h2
      exact ⟨i + 1, x, h3, h4⟩
/-- where the number is not 0, one game may be brought to less so that it is -/
theorem xo_move {l : List Nat} (h : xo l ≠ 0) : ∃ (i x : Nat), l[i]? = some x ∧ x ^^^ xo l < x := by
  obtain ⟨k, h1, h2⟩ := top_bit _ h
  obtain ⟨i, x, h3, h4⟩ := xo_testBit h1
  exact ⟨i, x, h3, xor_less h1 h2 h4⟩
theorem xo_set_zero {l : List Nat} {i x y : Nat} (h : l[i]? = some x) : xo (l.set i y) = 0 ↔ y = x ^^^ xo l := by
  rw [xo_set y h, xor_zero_iff, Nat.xor_comm (xo l) x]
  exact eq_comm
/-- in a web: a row is lost just where each move leads to one that is not -/
theorem lost_iff {W : List (List Nat)} {g R : List Nat} (hg : IsF mex W g) (hR : ∀ x ∈ R, x < W.length) : xo (vals g R) = 0 ↔ ∀ (p s : Nat), R[p]? = some s → ∀ t ∈ row W s, xo (vals g (R.set p t)) ≠ 0 := by
  have vset : ∀ p t, vals g (R.set p t) = (vals g R).set p (g.getD t 0) := fun p t => by unfold vals; rw [List.map_set]
  have vget : ∀ {p s : Nat}, R[p]? = some s → (vals g R)[p]? = some (g.getD s 0) := fun {p s} h => by unfold vals; rw [List.getElem?_map, h]; rfl
  constructor
  · intro h0 p s hp t ht z
    rw [vset, xo_set_zero (vget hp), h0, Nat.xor_zero] at z
    have hs := hg.at_ s (hR s (List.mem_of_getElem? hp))
    have := (mex_is (vals g (row W s))).no
    rw [← hs, ← z] at this
    exact this (List.mem_map.mpr ⟨t, ht, rfl⟩)
  · intro h
    refine Classical.byContradiction fun hne => ?_
    obtain ⟨p, x, hp, hlt⟩ := xo_move hne
    have hp2 := hp
    unfold vals at hp
    rw [List.getElem?_map] at hp
    cases e : R[p]? with
    | none => rw [e] at hp; cases hp
    | some s =>
      rw [e] at hp
      have ex : g.getD s 0 = x := Option.some.inj hp
      have hs := hg.at_ s (hR s (List.mem_of_getElem? e))
      rw [← ex, hs] at hlt
      obtain ⟨t, ht, et⟩ := List.mem_map.mp ((mex_is _).all _ hlt)
      refine h p s e t ht ?_
      rw [vset, xo_set_zero hp2, et, ← hs, ex]
/-! ### a web cut to its first spots -/
def cutW (c : Nat) (W : List (List Nat)) : List (List Nat) := (W.take c).map fun r => r.filter fun x => decide (x < c)
theorem cutW_len (c : Nat) (W : List (List Nat)) : (cutW c W).length = min c W.length := by rw [cutW, List.length_map, List.length_take]
theorem cutW_row (c : Nat) (W : List (List Nat)) (s : Nat) : row (cutW c W) s = if s < c then (row W s).filter (fun x => decide (x < c)) else [] := by
  by_cases h : s < c
  · rw [if_pos h]
    by_cases h2 : s < W.length
    · refine row_of ?_
      rw [cutW, List.getElem?_map, List.getElem?_take, if_pos h, row_get h2]
      rfl
    · rw [row_nil (W := W) (by omega), row_nil (by rw [cutW_len]; omega)]
      rfl
  · rw [if_neg h]
    exact row_nil (by rw [cutW_len]; omega)
theorem cutW_good {c : Nat} {W : List (List Nat)} (G : Good W) (hc : 1 ≤ c) : Good (cutW c W) := by
  obtain ⟨F, rk, hr⟩ := G
  have h1 := F.pos
  have h2 := F.le
  refine ⟨⟨by rw [cutW_len]; omega, by rw [cutW_len]; omega, fun s => ?_, fun s x hx => ?_⟩, rk, fun s x hx => ?_⟩
  · rw [cutW_row]
    split
    · exact (F.nd s).filter _
    · exact List.nodup_nil
  · rw [cutW_row] at hx
    split at hx
    · have h3 := F.lt s x (List.mem_filter.mp hx).1
      have h4 := of_decide_eq_true (List.mem_filter.mp hx).2
      rw [cutW_len]
      omega
    · cases hx
  · rw [cutW_row] at hx
    split at hx
    · exact hr s x (List.mem_filter.mp hx).1
    · cases hx
end Sp

namespace Sp
/-! ### webs joined, webs paired -/
def joinW (W V : List (List Nat)) : List (List Nat) := W ++ V.map fun r => r.map fun x => W.length + x
theorem joinW_len (W V : List (List Nat)) : (joinW W V).length = W.length + V.length := by rw [joinW, List.length_append, List.length_map]
theorem joinW_left {W V : List (List Nat)} {s : Nat} (h : s < W.length) : row (joinW W V) s = row W s := row_of (by rw [joinW, List.getElem?_append_left h, row_get h])
theorem joinW_right (W V : List (List Nat)) (t : Nat) : row (joinW W V) (W.length + t) = (row V t).map fun x => W.length + x := by
  by_cases h : t < V.length
  · refine row_of ?_
    rw [joinW, List.getElem?_append_right (by omega), Nat.add_sub_cancel_left, List.getElem?_map, row_get h]
    rfl
  · rw [row_nil (W := V) (by omega), row_nil (by rw [joinW_len]; omega)]
    rfl
theorem nat_split (n s : Nat) : s < n ∨ ∃ t, s = n + t := by
  by_cases h : s < n
  · exact .inl h
  · exact .inr ⟨s - n, by omega⟩
theorem joinW_form {W V : List (List Nat)} (F : Form W) (G : Form V) (h : W.length + V.length ≤ 200) : Form (joinW W V) := by
  have h1 := F.pos
  refine ⟨by rw [joinW_len]; omega, by rw [joinW_len]; exact h, fun s => ?_, fun s x hx => ?_⟩
  · rcases nat_split W.length s with hs | ⟨t, rfl⟩
    · rw [joinW_left hs]
      exact F.nd s
    · rw [joinW_right]
      exact List.pairwise_map.mpr ((G.nd t).imp fun hne e => hne (by omega))
  · rw [joinW_len]
    rcases nat_split W.length s with hs | ⟨t, rfl⟩
    · rw [joinW_left hs] at hx
      have := F.lt s x hx
      omega
    · rw [joinW_right] at hx
      obtain ⟨y, hy, rfl⟩ := List.mem_map.mp hx
      have := G.lt t y hy
      omega
theorem joinW_good {W V : List (List Nat)} (F : Good W) (G : Good V) (h : W.length + V.length ≤ 200) : Good (joinW W V) := by
  obtain ⟨F, rk, hr⟩ := F
  obtain ⟨G, rk2, hr2⟩ := G
  refine ⟨joinW_form F G h, fun s => if s < W.length then rk s else rk2 (s - W.length), fun s x hx => ?_⟩
  rcases nat_split W.length s with hs | ⟨t, rfl⟩
  · rw [joinW_left hs] at hx
    have := F.lt s x hx
    show (if x < W.length then rk x else rk2 (x - W.length)) < if s < W.length then rk s else rk2 (s - W.length)
    rw [if_pos hs, if_pos this]
    exact hr s x hx
  · rw [joinW_right] at hx
    obtain ⟨y, hy, rfl⟩ := List.mem_map.mp hx
    show (if W.length + y < W.length then rk (W.length + y) else rk2 (W.length + y - W.length)) < if W.length + t < W.length then rk (W.length + t) else rk2 (W.length + t - W.length)
    rw [if_neg (by omega), if_neg (by omega), Nat.add_sub_cancel_left, Nat.add_sub_cancel_left]
    exact hr2 t y hy
theorem getD_left {l m : List Nat} {s : Nat} (h : s < l.length) : (l ++ m).getD s 0 = l.getD s 0 := by
  rw [List.getD_eq_getElem?_getD, List.getD_eq_getElem?_getD, List.getElem?_append_left h]
theorem getD_right (l m : List Nat) (t : Nat) : (l ++ m).getD (l.length + t) 0 = m.getD t 0 := by
  rw [List.getD_eq_getElem?_getD, List.getD_eq_getElem?_getD, List.getElem?_append_right (by omega), Nat.add_sub_cancel_left]
theorem joinW_isF {F : List Nat → Nat} {W V : List (List Nat)} {a b : List Nat} (fw : Form W) (ha : IsF F W a) (hb : IsF F V b) : IsF F (joinW W V) (a ++ b) := by
  refine ⟨by rw [List.length_append, ha.len, hb.len, joinW_len], fun s hs => ?_⟩
  rw [joinW_len] at hs
  rcases nat_split W.length s with h | ⟨t, rfl⟩
  · rw [getD_left (by rw [ha.len]; exact h), joinW_left h, ha.at_ s h]
    exact congrArg F (vals_congr fun x hx => (getD_left (by rw [ha.len]; exact fw.lt s x hx)).symm)
  · rw [← ha.len, getD_right, ha.len, joinW_right, hb.at_ t (by omega)]
    refine congrArg F ?_
    unfold vals
    rw [List.map_map]
    refine List.map_congr_left fun x _ => ?_
    show b.getD x 0 = (a ++ b).getD (W.length + x) 0
    rw [← ha.len, getD_right]
/-! paired -/
def pairR (W V : List (List Nat)) (i k : Nat) : List Nat := ((row W i).map fun x => x * V.length + k) ++ (row V k).map fun y => i * V.length + y
def pairW (W V : List (List Nat)) : List (List Nat) := (List.range (W.length * V.length)).map fun s => pairR W V (s / V.length) (s % V.length)
theorem pairW_len (W V : List (List Nat)) : (pairW W V).length = W.length * V.length := by rw [pairW, List.length_map, List.length_range]
theorem pairW_row {W V : List (List Nat)} {s : Nat} (h : s < W.length * V.length) : row (pairW W V) s = pairR W V (s / V.length) (s % V.length) := row_of (by rw [pairW, List.getElem?_map, List.getElem?_range h]; rfl)
theorem pair_lt {i n k m : Nat} (hi : i < n) (hk : k < m) : i * m + k < n * m := by
  have h1 : (i + 1) * m ≤ n * m := Nat.mul_le_mul_right m hi
  rw [Nat.succ_mul] at h1
  omega
theorem pair_div {i k m : Nat} (hk : k < m) : (i * m + k) / m = i := by
  rw [Nat.mul_comm, Nat.mul_add_div (by omega), Nat.div_eq_of_lt hk, Nat.add_zero]
theorem pair_mod {i k m : Nat} (hk : k < m) : (i * m + k) % m = k := by
  rw [Nat.mul_comm, Nat.mul_add_mod, Nat.mod_eq_of_lt hk]
theorem pair_inj {i k i2 k2 m : Nat} (hk : k < m) (hk2 : k2 < m) (e : i * m + k = i2 * m + k2) : i = i2 ∧ k = k2 := by
  have h1 := pair_div (i := i) hk
  have h2 := pair_div (i := i2) hk2
  have h3 := pair_mod (i := i) hk
  have h4 := pair_mod (i := i2) hk2
  rw [e] at h1 h3
  exact ⟨h1.symm.trans h2, h3.symm.trans h4⟩
theorem pair_split {s n m : Nat} (h : s < n * m) : s / m < n ∧ s % m < m ∧ s = s / m * m + s % m := by
  have hm : 0 < m := by
    cases m with
    | zero => rw [Nat.mul_zero] at h; exact absurd h (Nat.not_lt_zero _)
    | succ m => omega
  refine ⟨(Nat.div_lt_iff_lt_mul hm).mpr h, Nat.mod_lt _ hm, ?_⟩
  rw [Nat.mul_comm]
  exact (Nat.div_add_mod s m).symm
theorem pairR_lt {W V : List (List Nat)} (F : Form W) (G : Form V) {i k : Nat} (hi : i < W.length) (hk : k < V.length) : ∀ x ∈ pairR W V i k, x < W.length * V.length := fun x hx => by
  rcases List.mem_append.mp hx with h | h
  · obtain ⟨y, hy, rfl⟩ := List.mem_map.mp h
    exact pair_lt (F.lt i y hy) hk
  · obtain ⟨y, hy, rfl⟩ := List.mem_map.mp h
    exact pair_lt hi (G.lt k y hy)
theorem pairW_good {W V : List (List Nat)} (F : Good W) (G : Good V) (h : W.length * V.length ≤ 200) : Good (pairW W V) := by
  obtain ⟨F, rk, hr⟩ := F
  obtain ⟨G, rk2, hr2⟩ := G
  have h1 := F.pos
  have h2 := G.pos
  refine ⟨⟨by rw [pairW_len]; exact Nat.mul_pos h1 h2, by rw [pairW_len]; exact h, fun s => ?_, fun s x hx => ?_⟩, fun s => rk (s / V.length) + rk2 (s % V.length), fun s x hx => ?_⟩
  · by_cases hs : s < W.length * V.length
    · obtain ⟨hi, hk, _⟩ := pair_split hs
      rw [pairW_row hs]
      refine List.nodup_append.mpr ⟨List.pairwise_map.mpr ((F.nd _).imp fun hne e => hne (pair_inj hk hk e).1), List.pairwise_map.mpr ((G.nd _).imp fun hne e => hne (by omega)), fun a ha b hb e => ?_⟩
      obtain ⟨y, hy, rfl⟩ := List.mem_map.mp ha
      obtain ⟨z, hz, rfl⟩ := List.mem_map.mp hb
      have e1 := (pair_inj hk (G.lt _ z hz) e).1
      have := hr _ y hy
      rw [e1] at this
      omega
    · rw [row_nil (by rw [pairW_len]; omega)]
      exact List.nodup_nil
  · by_cases hs : s < W.length * V.length
    · obtain ⟨hi, hk, _⟩ := pair_split hs
      rw [pairW_row hs] at hx
      rw [pairW_len]
      exact pairR_lt F G hi hk x hx
    · rw [row_nil (by rw [pairW_len]; omega)] at hx
      cases hx
  · by_cases hs : s < W.length * V.length
    · obtain ⟨hi, hk, _⟩ := pair_split hs
      rw [pairW_row hs] at hx
      rcases List.mem_append.mp hx with h | h
      · obtain ⟨y, hy, rfl⟩ := List.mem_map.mp h
        show rk ((y * V.length + s % V.length) / V.length) + rk2 ((y * V.length + s % V.length) % V.length) < rk (s / V.length) + rk2 (s % V.length)
        rw [pair_div hk, pair_mod hk]
        have := hr _ y hy
        omega
      · obtain ⟨y, hy, rfl⟩ := List.mem_map.mp h
        have hyl := G.lt _ y hy
        show rk ((s / V.length * V.length + y) / V.length) + rk2 ((s / V.length * V.length + y) % V.length) < rk (s / V.length) + rk2 (s % V.length)
        rw [pair_div hyl, pair_mod hyl]
        have := hr2 _ y hy
        omega
    · rw [row_nil (by rw [pairW_len]; omega)] at hx
      cases hx
/-- the values of a paired web, from both webs' values -/
def pairL (n m : Nat) (f : Nat → Nat → Nat) (a b : List Nat) : List Nat := (List.range (n * m)).map fun s => f (a.getD (s / m) 0) (b.getD (s % m) 0)
theorem pairL_getD {n m : Nat} {f : Nat → Nat → Nat} {a b : List Nat} {i k : Nat} (hi : i < n) (hk : k < m) : (pairL n m f a b).getD (i * m + k) 0 = f (a.getD i 0) (b.getD k 0) := by
  rw [pairL, List.getD_eq_getElem?_getD, List.getElem?_map, List.getElem?_range (pair_lt hi hk)]
  show f (a.getD ((i * m + k) / m) 0) (b.getD ((i * m + k) % m) 0) = _
  rw [pair_div hk, pair_mod hk]
theorem pair_isF {F : List Nat → Nat} {f : Nat → Nat → Nat} (hf : ∀ xs ys : List Nat, F ((xs.map fun x => f x (F ys)) ++ ys.map fun y => f (F xs) y) = f (F xs) (F ys))
    {W V : List (List Nat)} {a b : List Nat} (fw : Form W) (fv : Form V) (ha : IsF F W a) (hb : IsF F V b) : IsF F (pairW W V) (pairL W.length V.length f a b) := by
  refine ⟨by rw [pairL, List.length_map, List.length_range, pairW_len], fun s hs => ?_⟩
  rw [pairW_len] at hs
  obtain ⟨hi, hk, e⟩ := pair_split hs
  rw [pairW_row hs]
  have e1 : (pairL W.length V.length f a b).getD s 0 = f (a.getD (s / V.length) 0) (b.getD (s % V.length) 0) := by
    have := pairL_getD (f := f) (a := a) (b := b) hi hk
    rwa [← e] at this
  rw [e1, ha.at_ _ hi, hb.at_ _ hk, ← hf]
  refine congrArg F ?_
  unfold vals pairR
  rw [List.map_append, List.map_map, List.map_map, List.map_map, List.map_map]
  congr 1
  · refine List.map_congr_left fun x hx => ?_
    show f (a.getD x 0) _ = (pairL W.length V.length f a b).getD (x * V.length + s % V.length) 0
    rw [pairL_getD (fw.lt _ x hx) hk, hb.at_ _ hk]
    rfl
  · refine List.map_congr_left fun y hy => ?_
    show f _ (b.getD y 0) = (pairL W.length V.length f a b).getD (s / V.length * V.length + y) 0
    rw [pairL_getD hi (fv.lt _ y hy), ha.at_ _ hi]
    rfl
theorem mex_pair (xs ys : List Nat) : mex ((xs.map fun x => x ^^^ mex ys) ++ ys.map fun y => mex xs ^^^ y) = mex xs ^^^ mex ys := (mex_is _).uniq (mex_xor (mex_is xs) (mex_is ys))
theorem len_pair (xs ys : List Nat) : lenF ((xs.map fun x => x + lenF ys) ++ ys.map fun y => lenF xs + y) = lenF xs + lenF ys := by
  have up : ∀ z ∈ (xs.map fun x => x + lenF ys) ++ ys.map fun y => lenF xs + y, z + 1 ≤ lenF xs + lenF ys := fun z hz => by
    rcases List.mem_append.mp hz with h | h
    · obtain ⟨x, hx, rfl⟩ := List.mem_map.mp h
      have := lenF_ge hx
      omega
    · obtain ⟨y, hy, rfl⟩ := List.mem_map.mp h
      have := lenF_ge hy
      omega
  rcases @lenF_mem xs with hx | ⟨x, hx, ex⟩
  · rcases @lenF_mem ys with hy | ⟨y, hy, ey⟩
    · have e1 : xs = [] := by
        cases xs with
        | nil => rfl
        | cons a r => have := lenF_ge (xs := a :: r) (List.mem_cons_self ..); omega
      have e2 : ys = [] := by
        cases ys with
        | nil => rfl
        | cons a r => have := lenF_ge (xs := a :: r) (List.mem_cons_self ..); omega
      subst e1 e2
      rfl
    · have hm : lenF xs + y ∈ (xs.map fun x => x + lenF ys) ++ ys.map fun y => lenF xs + y := List.mem_append_right _ (List.mem_map.mpr ⟨y, hy, rfl⟩)
      rw [lenF_max hm fun z hz => by have := up z hz; omega]
      omega
  · have hm : x + lenF ys ∈ (xs.map fun x => x + lenF ys) ++ ys.map fun y => lenF xs + y := List.mem_append_left _ (List.mem_map.mpr ⟨x, hx, rfl⟩)
    rw [lenF_max hm fun z hz => by have := up z hz; omega]
    omega
end Sp

namespace Sp
open PySem PySem.Spec PyProof.Rows L2
/-! ### len(set(xs)) of ints -/
def ddN (ns : List Int) : Nat := (PyProof.Rows.firstMet (fun i => ns.getD i 0) ns.length).length
theorem ddN_nodup {ns : List Int} (h : ns.Nodup) : ddN ns = ns.length := by
  unfold ddN
  rw [RZ.firstMet_nodup h ns.length (Nat.le_refl _), List.take_length]
theorem first_le (f : Nat → Int) : ∀ i, (PyProof.Rows.firstMet f i).length ≤ i
  | 0 => Nat.le_refl _
  | i + 1 => by
    have ih := first_le f i
    rw [PyProof.Rows.firstMet_succ]
    unfold PyProof.Rows.step_dedup
    split
    · omega
    · rw [List.length_append]
      show _ + 1 ≤ i + 1
      omega
def tLenSetN (K : PySem.W.Frag) (ta : TE) : TE := fun σ H Q => ta σ H fun x H1 => ∃ (l : Addr) (ns : List Int), x = .ref l ∧ SqL K H1 l (ns.map V.int) ∧ ns.length ≤ 4000 ∧ Q (.int (ddN ns : Nat)) H1
theorem pe_lenSetN {X : Cx} {a : Expr} {ta : TE} {p p2 q pos : Pos} (hg : Gl X "len") (hm : X.mg "len" = none) (hg2 : Gl X "set") (hm2 : X.mg "set" = none) (ha : PE X a ta) (hc : X.calm = true := by rfl)
    (na : starEach [a] X.env = (false, eval a X.env) :: starEach [] X.env := by rfl) : PE X (.Call (.Name "len" p) [.Call (.Name "set" p2) [a] [] q] [] pos) (tLenSetN X.K ta) := by
  refine ⟨fun pins s σ H Q I h => ?_⟩
  refine Call_ (ld_blt I hg hm boot_len ?_)
  refine PyProof.Rows.callWith_builtin1 (PyProof.Rows.args_cons ?_ rfl) rfl rfl
  refine Call_ (ld_blt I hg2 hm2 boot_set ?_)
  have run := ha.run pins s σ H _ I h
  refine PyProof.Rows.callWith_type1 (PyProof.Rows.args_cons (thn run fun v s1 z => PyProof.Rows.args_nil ?_) na) na rfl
  obtain ⟨x, H1, I1, r1, l, ns, rfl, hq, hl, q1⟩ := z
  cases r1
  obtain ⟨its, r, pl, _⟩ := I1.list hq
  have hlen : its.toArray.size = ns.length := by rw [List.size_toArray, ← r.length, List.length_map]
  refine call_set_list (I1.ok.hd hc) pl.isList (by simpa using RZ.intsAre_vals r) (by rw [hlen]; unfold scanBound; omega) fun h' tk hS hk => ?_
  refine PyProof.Rows.args_nil ?_
  rw [hlen] at hS
  obtain ⟨o, es, ep, t, ho, hex, hd, _, _, _, hf, hn⟩ := hS
  have I2 : Inv X pins σ H1 { s1 with heap := h', toks := tk } := I1.kept fun b o e => hk b o (Heap.lt_size e) e
  have hle := first_le (fun i => ns.getD i 0) ns.length
  exact call_len_set ho hex hd hf (by rw [hn] <;> omega) ⟨.int (ddN ns : Nat), H1, I2.tok _, ⟨_, by rw [hn]; rfl⟩, q1⟩
end Sp

namespace Sp
open PySem PySem.Spec PyProof.Rows L2
/-! ### lists of lists by place -/
abbrev refs (n : Nat) (q : Nat → Addr) : List V := (List.range n).map fun i => V.ref (q i)
theorem refs_len (n : Nat) (q : Nat → Addr) : (refs n q).length = n := by rw [List.length_map, List.length_range]
theorem refs_get {n : Nat} {q : Nat → Addr} {i : Nat} (h : i < n) : (refs n q)[i]? = some (.ref (q i)) := by
  rw [List.getElem?_map, List.getElem?_range h]
  rfl
theorem refs_at {n : Nat} {q : Nat → Addr} {i : Nat} (h : i < n) : atI (refs n q) (i : Int) = some (.ref (q i)) := atI_nat (refs_get h)
/-- a list of n lists, to be read -/
structure LL (H : Hp) (a : Addr) (n : Nat) (q : Nat → Addr) (c : Nat → List V) : Prop where
  top : H a = some (.lst (refs n q))
  at_ : ∀ i < n, H (q i) = some (.lst (c i))
theorem LL.same {H H1 : Hp} {a : Addr} {n : Nat} {q : Nat → Addr} {c : Nat → List V} (l : LL H a n q c) (s : Same H H1) : LL H1 a n q c := ⟨s _ _ l.top, fun i h => s _ _ (l.at_ i h)⟩
theorem LL.congr {H : Hp} {a : Addr} {n : Nat} {q : Nat → Addr} {c d : Nat → List V} (l : LL H a n q c) (e : ∀ i < n, c i = d i) : LL H a n q d := ⟨l.top, fun i h => by rw [← e i h]; exact l.at_ i h⟩
/-- the same, each list of its own, new to H0 -/
structure Own (H0 H : Hp) (a : Addr) (n : Nat) (q : Nat → Addr) (c : Nat → List V) : Prop where
  ll : LL H a n q c
  inj : ∀ i j, i < n → j < n → q i = q j → i = j
  ne : ∀ i < n, q i ≠ a
  na : H0 a = none
  nq : ∀ i < n, H0 (q i) = none
section
variable {H0 H H1 : Hp} {a b : Addr} {n : Nat} {q : Nat → Addr} {c d : Nat → List V}
theorem Own.same (l : Own H0 H a n q c) (s : Same H H1) : Own H0 H1 a n q c := ⟨l.ll.same s, l.inj, l.ne, l.na, l.nq⟩
theorem Own.congr (l : Own H0 H a n q c) (e : ∀ i < n, c i = d i) : Own H0 H a n q d := ⟨l.ll.congr e, l.inj, l.ne, l.na, l.nq⟩
theorem Own.back {H00 : Hp} (l : Own H0 H a n q c) (s : Same H00 H0) : Own H00 H a n q c := ⟨l.ll, l.inj, l.ne, s.free l.na, fun i h => s.free (l.nq i h)⟩
/-- one of the lists changes -/
theorem Own.set (l : Own H0 H a n q c) {k : Nat} (hk : k < n) (x : List V) : Own H0 (upd H (q k) (.lst x)) a n q (fun i => if i = k then x else c i) := by
  refine ⟨⟨?_, fun i h => ?_⟩, l.inj, l.ne, l.na, l.nq⟩
  · rw [upd_ne (l.ne k hk).symm]
    exact l.ll.top
  · by_cases e : i = k
    · rw [e, upd_same, if_pos rfl]
    · rw [upd_ne (fun z => e (l.inj i k h hk z)), if_neg e]
      exact l.ll.at_ i h
/-- another object changes -/
theorem Own.other (l : Own H0 H a n q c) {o : HO} (h1 : b ≠ a) (h2 : ∀ i < n, b ≠ q i) : Own H0 (upd H b o) a n q c :=
  ⟨⟨by rw [upd_ne h1.symm]; exact l.ll.top, fun i h => by rw [upd_ne (h2 i h).symm]; exact l.ll.at_ i h⟩, l.inj, l.ne, l.na, l.nq⟩
theorem LL.other (l : LL H a n q c) {o : HO} (h1 : b ≠ a) (h2 : ∀ i < n, b ≠ q i) : LL (upd H b o) a n q c :=
  ⟨by rw [upd_ne h1.symm]; exact l.top, fun i h => by rw [upd_ne (h2 i h).symm]; exact l.at_ i h⟩
/-- from lists by addresses -/
theorem LolN.own {c : Nat → List V} (h : LolN H0 H a ((List.range n).map c)) : ∃ q, Own H0 H a n q c := by
  obtain ⟨ps, top, R, nd, na, h0, hn⟩ := h
  have hl : ps.length = n := by rw [R.len, List.length_map, List.length_range]
  have get : ∀ i (h : i < n), ps[i]? = some (ps.getD i 0) := fun i h => by rw [List.getD_eq_getElem?_getD, List.getElem?_eq_getElem (by omega)]; rfl
  have mem : ∀ i (h : i < n), ps.getD i 0 ∈ ps := fun i h => List.mem_of_getElem? (get i h)
  refine ⟨fun i => ps.getD i 0, ⟨?_, fun i h => ?_⟩, fun i j hi hj e => ?_, fun i h e => ?_, h0, fun i h => hn _ (mem i h)⟩
  · rw [top]
    congr 2
    apply List.ext_getElem?
    intro i
    by_cases hi : i < n
    · rw [refs_get hi, List.getElem?_map, get i hi]
      rfl
    · rw [List.getElem?_eq_none (by rw [List.length_map]; omega), List.getElem?_eq_none (by rw [refs_len]; omega)]
  · exact R.at_ i _ _ (get i h) (by rw [List.getElem?_map, List.getElem?_range h]; rfl)
  · have e1 := get i hi
    have e2 := get j hj
    rw [show ps.getD i 0 = ps.getD j 0 from e, ← e2] at e1
    obtain ⟨k1, _⟩ := List.getElem?_eq_some_iff.mp e2
    have h3 : ps[i]'(by omega) = ps[j]'k1 := by
      rw [List.getElem?_eq_getElem (by omega), List.getElem?_eq_getElem k1] at e1
      exact Option.some.inj e1
    exact (List.getElem_inj nd).mp h3
  · exact na (e ▸ mem i h)
end
/-! ### webs -/
abbrev wrow (W : List (List Nat)) : Nat → List V := fun i => nvs (row W i)
abbrev WebAt (H : Hp) (a : Addr) (W : List (List Nat)) (q : Nat → Addr) : Prop := LL H a W.length q (wrow W)
/-- a web stands at a -/
def Web (H : Hp) (a : Addr) (W : List (List Nat)) : Prop := ∃ q, WebAt H a W q
theorem Web.same {H H1 : Hp} {a : Addr} {W : List (List Nat)} (h : Web H a W) (s : Same H H1) : Web H1 a W := let ⟨q, l⟩ := h; ⟨q, l.same s⟩
/-- a web of its own, new to H0 -/
def WebN (H0 H : Hp) (a : Addr) (W : List (List Nat)) : Prop := ∃ q, Own H0 H a W.length q (wrow W)
theorem WebN.web {H0 H : Hp} {a : Addr} {W : List (List Nat)} (h : WebN H0 H a W) : Web H a W := let ⟨q, l⟩ := h; ⟨q, l.ll⟩
theorem WebN.same {H0 H H1 : Hp} {a : Addr} {W : List (List Nat)} (h : WebN H0 H a W) (s : Same H H1) : WebN H0 H1 a W := let ⟨q, l⟩ := h; ⟨q, l.same s⟩
theorem WebN.back {H00 H0 H : Hp} {a : Addr} {W : List (List Nat)} (h : WebN H0 H a W) (s : Same H00 H0) : WebN H00 H a W := let ⟨q, l⟩ := h; ⟨q, l.back s⟩
theorem rows_range (W : List (List Nat)) : (List.range W.length).map (row W) = W := by
  apply List.ext_getElem?
  intro i
  by_cases hi : i < W.length
  · rw [List.getElem?_map, List.getElem?_range hi, row_get hi]
    rfl
  · rw [List.getElem?_eq_none (by rw [List.length_map, List.length_range]; omega), List.getElem?_eq_none (by omega)]
theorem row_map {n : Nat} {f : Nat → List Nat} {i : Nat} (h : i < n) : row ((List.range n).map f) i = f i := row_of (by rw [List.getElem?_map, List.getElem?_range h]; rfl)
theorem LL.lol {H : Hp} {a : Addr} {n : Nat} {q : Nat → Addr} {c : Nat → List V} (l : LL H a n q c) : Lol H a ((List.range n).map c) := by
  refine ⟨(List.range n).map q, by rw [l.top, List.map_map]; rfl, by rw [List.length_map, List.length_map], fun i p d h1 h2 => ?_⟩
  by_cases hi : i < n
  · rw [List.getElem?_map, List.getElem?_range hi] at h1 h2
    have e1 : q i = p := Option.some.inj h1
    have e2 : c i = d := Option.some.inj h2
    rw [← e1, ← e2]
    exact l.at_ i hi
  · rw [List.getElem?_eq_none (by rw [List.length_map, List.length_range]; omega)] at h1
    cases h1
theorem Web.dp {K : PySem.W.Frag} {H : Hp} {a : Addr} {W : List (List Nat)} (h : Web H a W) : Dp K H (.ref a) (dWeb W) := by
  obtain ⟨q, l⟩ := h
  refine dp_web (W := W) ?_
  have := l.lol
  have e : (List.range W.length).map (wrow W) = W.map nvs := by
    have e2 : (List.range W.length).map (wrow W) = ((List.range W.length).map (row W)).map nvs := by
      rw [List.map_map]
      rfl
    rw [e2, rows_range]
  rw [e] at this
  exact this
/-- a list of numbers that a function gives, one of them set -/
theorem map_range_set {α : Type} (n k : Nat) (f : Nat → α) (v : α) : ((List.range n).map f).set k v = (List.range n).map fun i => if i = k then v else f i := by
  apply List.ext_getElem?
  intro i
  rw [List.getElem?_set, List.length_map, List.length_range, List.getElem?_map, List.getElem?_map]
  by_cases hi : i < n
  · rw [List.getElem?_range hi]
    by_cases e : k = i
    · subst e
      rw [if_pos rfl, if_pos hi]
      simp
    · rw [if_neg e]
      have e2 : ¬ i = k := fun z => e z.symm
      simp [e2]
  · have hn : (List.range n)[i]? = none := List.getElem?_eq_none (by rw [List.length_range]; omega)
    rw [hn]
    by_cases e : k = i
    · rw [if_pos e, if_neg (by omega)]
      rfl
    · rw [if_neg e]
      rfl
end Sp

namespace Sp
open PySem PySem.Spec PyProof.Rows L2
/-! ### a list of lists grows -/
section
variable {H0 H H1 : Hp} {a p : Addr} {n : Nat} {q : Nat → Addr} {c : Nat → List V} {x : List V}
theorem Own.push (l : Own H0 H a n q c) (s : Same H H1) (s0 : Same H0 H) (np : H p = none) (hp : H1 p = some (.lst x)) :
    Own H0 (upd H1 a (.lst (refs n q ++ [.ref p]))) a (n + 1) (fun i => if i < n then q i else p) (fun i => if i < n then c i else x) := by
  have pa : p ≠ a := (ne_of_none l.ll.top np).symm
  have pq : ∀ i < n, q i ≠ p := fun i h => ne_of_none (l.ll.at_ i h) np
  refine ⟨⟨?_, fun i h => ?_⟩, fun i j hi hj e => ?_, fun i h => ?_, l.na, fun i h => ?_⟩
  · rw [upd_same]
    congr 2
    show refs n q ++ [V.ref p] = (List.range (n + 1)).map fun i => V.ref (if i < n then q i else p)
    rw [List.range_succ, List.map_append]
    congr 1
    · exact List.map_congr_left fun i hi => by rw [if_pos (List.mem_range.mp hi)]
    · show [V.ref p] = [V.ref (if n < n then q n else p)]
      rw [if_neg (Nat.lt_irrefl n)]
  · show upd H1 a _ (if i < n then q i else p) = some (.lst (if i < n then c i else x))
    by_cases hi : i < n
    · rw [if_pos hi, if_pos hi, upd_ne (l.ne i hi)]
      exact s _ _ (l.ll.at_ i hi)
    · rw [if_neg hi, if_neg hi, upd_ne pa]
      exact hp
  · have e2 : (if i < n then q i else p) = if j < n then q j else p := e
    by_cases h1 : i < n <;> by_cases h2 : j < n
    · rw [if_pos h1, if_pos h2] at e2
      exact l.inj i j h1 h2 e2
    · rw [if_pos h1, if_neg h2] at e2
      exact absurd e2 (pq i h1)
    · rw [if_neg h1, if_pos h2] at e2
      exact absurd e2.symm (pq j h2)
    · omega
  · show (if i < n then q i else p) ≠ a
    by_cases hi : i < n
    · rw [if_pos hi]
      exact l.ne i hi
    · rw [if_neg hi]
      exact pa
  · show H0 (if i < n then q i else p) = none
    by_cases hi : i < n
    · rw [if_pos hi]
      exact l.nq i hi
    · rw [if_neg hi]
      exact s0.free np
end
theorem row_snoc (RS : List (List Nat)) (R : List Nat) (i : Nat) : row (RS ++ [R]) i = if i < RS.length then row RS i else if i = RS.length then R else [] := by
  by_cases h : i < RS.length
  · rw [if_pos h]
    exact row_of (by rw [List.getElem?_append_left h]; exact row_get h)
  · rw [if_neg h]
    by_cases e : i = RS.length
    · rw [if_pos e]
      refine row_of ?_
      rw [List.getElem?_append_right (by omega), e, Nat.sub_self]
      rfl
    · rw [if_neg e]
      exact row_nil (by rw [List.length_append]; show RS.length + 1 ≤ i; omega)
/-- what is appended to a web of its own -/
theorem WebN.grow {H0 H : Hp} {a : Addr} {RS : List (List Nat)} (w : WebN H0 H a RS) (s0 : Same H0 H) : ∃ xs, H a = some (.lst xs) ∧ xs.length = RS.length ∧
    ∀ (H1 : Hp) (p : Addr) (R : List Nat), Same H H1 → H p = none → H1 p = some (.lst (nvs R)) → WebN H0 (upd H1 a (.lst (xs ++ [.ref p]))) a (RS ++ [R]) := by
  obtain ⟨q, O⟩ := w
  refine ⟨_, O.ll.top, refs_len _ _, fun H1 p R s np hp => ⟨fun i => if i < RS.length then q i else p, ?_⟩⟩
  have := O.push s s0 np hp
  rw [show (RS ++ [R]).length = RS.length + 1 by rw [List.length_append]; rfl]
  refine this.congr fun i hi => ?_
  show (if i < RS.length then nvs (row RS i) else nvs R) = nvs (row (RS ++ [R]) i)
  rw [row_snoc]
  by_cases h : i < RS.length
  · rw [if_pos h, if_pos h]
  · rw [if_neg h, if_neg h, if_pos (by omega)]
theorem webN_nil {H0 H : Hp} {a : Addr} (h : H a = some (.lst [])) (na : H0 a = none) : WebN H0 H a [] :=
  ⟨fun _ => 0, ⟨h, fun i hi => absurd hi (Nat.not_lt_zero i)⟩, fun i j hi => absurd hi (Nat.not_lt_zero i), fun i hi => absurd hi (Nat.not_lt_zero i), na, fun i hi => absurd hi (Nat.not_lt_zero i)⟩
/-! ### the first spots of a web -/
theorem refs_cut (n c : Nat) (q : Nat → Addr) : cutV (refs n q) none (some (c : Int)) = refs (min c n) q := by
  rw [cut_to, List.take_range]
theorem webN_cut {H0 H : Hp} {p : Addr} {W : List (List Nat)} {c : Nat} (h : LolN H0 H p ((List.range (min c W.length)).map fun i => nvs ((row W i).filter fun x => decide (x < c)))) : WebN H0 H p (cutW c W) := by
  obtain ⟨q, O⟩ := h.own
  refine ⟨q, ?_⟩
  rw [cutW_len]
  exact O.congr fun i hi => by rw [wrow, cutW_row, if_pos (by omega)]
/-! ### a place of a row changes -/
theorem set_cut {l : List Nat} {i t : Nat} (h : i < l.length) : l.take i ++ [t] ++ l.drop (i + 1) = l.set i t := by
  rw [List.set_eq_take_append_cons_drop, if_pos h, List.append_assoc]
  rfl
theorem inV_bl (bs : List Bool) : inV (.bl true) (bs.map V.bl) = bs.any id := by
  unfold inV
  rw [List.any_map]
  congr 1
  funext b
  cases b <;> rfl
theorem flat_bls (bs : List Bool) : (bs.map V.bl).all flatV = true := by
  rw [List.all_eq_true]
  intro v hv
  obtain ⟨b, _, rfl⟩ := List.mem_map.mp hv
  rfl
/-- a sorted arrangement of ints that are no less than 0 -/
theorem sorted_nat {l : List Nat} {ns : List Int} (h : ns.Perm (l.map fun n : Nat => (n : Int))) (hp : ns.Pairwise (· ≤ ·)) : ∃ S : List Nat, S.Perm l ∧ ns.map V.int = nvs S ∧ S.Pairwise (· ≤ ·) := by
  have hn : ∀ x ∈ ns, ∃ n : Nat, x = (n : Int) := fun x hx => by
    obtain ⟨n, _, e⟩ := List.mem_map.mp (h.mem_iff.mp hx)
    exact ⟨n, e.symm⟩
  have e1 : ns = (ns.map Int.toNat).map fun n : Nat => (n : Int) := by
    rw [List.map_map]
    refine (List.map_id ns).symm.trans (List.map_congr_left fun x hx => ?_)
    obtain ⟨n, rfl⟩ := hn x hx
    rfl
  refine ⟨ns.map Int.toNat, ?_, ?_, ?_⟩
  · have := h.map Int.toNat
    rw [List.map_map] at this
    have e2 : l.map (Int.toNat ∘ fun n : Nat => (n : Int)) = l := (List.map_congr_left fun n _ => rfl).trans (List.map_id l)
    rwa [e2] at this
  · rw [nvs_int, ← e1]
  · refine List.pairwise_map.mpr (hp.imp_of_mem fun {x y} hx hy hle => ?_)
    omega
end Sp

namespace Sp
open PySem PySem.Spec PyProof.Rows L2
/-! ### the error classes: what the top has written of them -/
def excB (K : PySem.W.Frag) (D : Addr) : Bool :=
  decide (PySem.W.findIn K (.ref D) "__getattribute__" = some (some (.builtin "BaseException.__getattribute__"))) &&
  (decide (PySem.W.findIn K (.ref D) "__getattr__" = some none) &&
  (decide (PySem.W.subIn K (.ref D) (.type "BaseException") = some true) &&
  (PySem.W.hasDictIn K D &&
  (decide (PySem.W.findIn K (.ref D) "__class__" = some (some (.builtin "object.__class__"))) &&
  (decide (PySem.W.specialIn K (.builtin "object.__class__") "__get__" = some (some (.builtin "getset_descriptor.__get__"))) &&
  (decide (PySem.W.takesIn K (.builtin "object.__class__") = some true) &&
  decide (PySem.W.mroIn K D (.type "object") = some true)))))))
theorem excB_ok {K : PySem.W.Frag} {D : Addr} (h : excB K D = true) : ExcC K D := by
  unfold excB at h
  obtain ⟨h1, h⟩ := He.ba h
  obtain ⟨h2, h⟩ := He.ba h
  obtain ⟨h3, h⟩ := He.ba h
  obtain ⟨h4, h⟩ := He.ba h
  obtain ⟨h5, h⟩ := He.ba h
  obtain ⟨h6, h⟩ := He.ba h
  obtain ⟨h7, h8⟩ := He.ba h
  exact ⟨of_decide_eq_true h1, of_decide_eq_true h2, of_decide_eq_true h3, h4, of_decide_eq_true h5, of_decide_eq_true h6, of_decide_eq_true h7, of_decide_eq_true h8⟩
/-- one class -/
structure XC (ns : List Str) (K : PySem.W.Frag) (x : Str) : Prop where
  ex : PySem.W.excIn K (He.ga K x) He.veBase "ValueError.__new__" = true
  kp : PySem.W.keepIn K (.ref (He.ga K x)) = true
  sb : PySem.W.subIn K (.ref (He.ga K x)) (.type "BaseException") = some true
  ty : PySem.W.typeIn K (.ref (He.ga K x)) = some (.type "type")
  cc : ExcC K (He.ga K x)
  game : PySem.W.exmOne K (.ref (He.ga K x)) (.ref (He.ga K "GameError")) = some true
  val : PySem.W.kitOne K (.ref (He.ga K x)) (.type "ValueError") = some true
  is : ∀ y ∈ ns, PySem.W.kitOne K (.ref (He.ga K x)) (.ref (He.ga K y)) = some (decide (x = y))
def xcB (ns : List Str) (K : PySem.W.Frag) (x : Str) : Bool :=
  PySem.W.excIn K (He.ga K x) He.veBase "ValueError.__new__" && (PySem.W.keepIn K (.ref (He.ga K x)) &&
  (decide (PySem.W.subIn K (.ref (He.ga K x)) (.type "BaseException") = some true) && (decide (PySem.W.typeIn K (.ref (He.ga K x)) = some (.type "type")) &&
  (excB K (He.ga K x) && (decide (PySem.W.exmOne K (.ref (He.ga K x)) (.ref (He.ga K "GameError")) = some true) &&
  (decide (PySem.W.kitOne K (.ref (He.ga K x)) (.type "ValueError") = some true) &&
  ns.all fun y => decide (PySem.W.kitOne K (.ref (He.ga K x)) (.ref (He.ga K y)) = some (decide (x = y)))))))))
theorem xcB_ok {ns : List Str} {K : PySem.W.Frag} {x : Str} (h : xcB ns K x = true) : XC ns K x := by
  unfold xcB at h
  obtain ⟨h1, h⟩ := He.ba h
  obtain ⟨h2, h⟩ := He.ba h
  obtain ⟨h3, h⟩ := He.ba h
  obtain ⟨h4, h⟩ := He.ba h
  obtain ⟨h5, h⟩ := He.ba h
  obtain ⟨h6, h⟩ := He.ba h
  obtain ⟨h7, h8⟩ := He.ba h
  exact ⟨h1, h2, of_decide_eq_true h3, of_decide_eq_true h4, excB_ok h5, of_decide_eq_true h6, of_decide_eq_true h7, fun y hy => of_decide_eq_true (List.all_eq_true.mp h8 y hy)⟩
/-- all of them -/
def XF (ns : List Str) (K : PySem.W.Frag) : Prop := ∀ x ∈ ns, XC ns K x
def xfB (ns : List Str) (K : PySem.W.Frag) : Bool := ns.all (xcB ns K)
theorem xfB_ok {ns : List Str} {K : PySem.W.Frag} (h : xfB ns K = true) : XF ns K := fun x hx => xcB_ok (List.all_eq_true.mp h x hx)
structure XT (ns : List Str) (K : PySem.W.Frag) (mg : Str → Option Value) : Prop where
  xf : XF ns K
  gl : ∀ x ∈ ns, mg x = some (.ref (He.ga K x))
  gE : mg "GameError" = some (.ref (He.ga K "GameError"))
  vE : mg "ValueError" = none
/-! ### the head's facts by one more Bool -/
abbrev AlX : Type := He.AlD × Bool
def obsX (fa : List He.Fa) (fn : List He.DefD) (ex : PySem.W.Frag → Bool) (K : PySem.W.Frag) : AlX := (He.obsD fa fn K, ex K)
def valX (fn : List He.DefD) : AlX := (He.valD fn, true)
def obsXG (n : Nat) (fa : List He.Fa) (fn : List He.DefD) (ex : PySem.W.Frag → Bool) (g : Addr → Option Obj) : AlX := obsX fa fn ex (He.frG g (He.asD g n))
def SaysX (fa : List He.Fa) (fn : List He.DefD) (ex : PySem.W.Frag → Bool) (K : PySem.W.Frag) : Prop := obsX fa fn ex K = valX fn
def hookX (n : Nat) (fa : List He.Fa) (fn : List He.DefD) (ex : PySem.W.Frag → Bool) : PySem.W.Hook where
  α := AlX
  obs := fun s => obsXG n fa fn ex s.heap.get?
  val := fun _ => valX fn
  says := fun _ h => ∃ K : PySem.W.Frag, K.In h ∧ SaysX fa fn ex K
  of := fun _ _ e => ⟨_, He.frG_in, e⟩
  keeps := fun _ _ _ ⟨K, hK, c⟩ k => ⟨K, PySem.W.Frag.In.keeps hK k, c⟩
theorem obsXG_eq {n : Nat} {fa : List He.Fa} {fn : List He.DefD} {ex : PySem.W.Frag → Bool} {g : Addr → Option Obj} {s : Shared} (h : ∀ a, g a = s.heap.get? a) : obsXG n fa fn ex g = (hookX n fa fn ex).obs s := by
  have e : g = s.heap.get? := funext h
  rw [e] <;> rfl
theorem SaysX.d {fa : List He.Fa} {fn : List He.DefD} {ex : PySem.W.Frag → Bool} {K : PySem.W.Frag} (c : SaysX fa fn ex K) : He.SaysD fa fn K := congrArg (fun z : AlX => z.1) c
theorem SaysX.ex {fa : List He.Fa} {fn : List He.DefD} {ex : PySem.W.Frag → Bool} {K : PySem.W.Frag} (c : SaysX fa fn ex K) : ex K = true := congrArg (fun z : AlX => z.2) c
/-! ### a def that may raise, as a caller takes it -/
structure DfX (P : Program) (w : World) (K : PySem.W.Frag) (mg : Str → Option Value) (base : Heap) (k : Nat) (x : Str) (ps : List Str) (sp : Sp) : Prop where
  ex : ∃ (f : Addr) (fd : FuncData), FnOk P w K mg base (L2.CX P w) k f fd ps sp ∧ mg x = some (.ref f) ∧ PySem.W.keepIn K (.ref f) = true ∧ Binds K fd ps []
section
variable {X : Cx} {k : Nat} {x : Str} {ps : List Str} {sp : Sp} {e : Expr} {es : List Expr} {t : TA} {p pos : Pos}
/-- nothing is raised here -/
theorem pe_cdX (D : DfX X.prog X.w X.K X.mg X.base k x ps sp) (hr : Room k X.A) (hg : Gl X x) (ha : PA X (e :: es) t)
    (hdb : (x == ("__debug__" : Str)) = false := by decide) (he : starEach (e :: es) X.env = (false, eval e X.env) :: starEach es X.env := by rfl) (hpl : (backTo pos (starEach es X.env)).any (·.1) = false := by rfl) :
    PE X (.Call (.Name x p) (e :: es) [] pos) (tCall sp [] E0 t) := by
  obtain ⟨f, fd, F, g, kp, b⟩ := D.ex
  exact pe_call F hr hg g kp b .nil passL ha hdb he hpl
/-- what is raised goes on -/
theorem pe_cdE {E : XK} (D : DfX X.prog X.w X.K X.mg X.base k x ps sp) (tk : Takes X fun cls d _ H => E cls d H) (hr : Room k X.A) (hg : Gl X x) (ha : PA X (e :: es) t)
    (hdb : (x == ("__debug__" : Str)) = false := by decide) (he : starEach (e :: es) X.env = (false, eval e X.env) :: starEach es X.env := by rfl) (hpl : (backTo pos (starEach es X.env)).any (·.1) = false := by rfl) :
    PE X (.Call (.Name x p) (e :: es) [] pos) (tCall sp [] E t) := by
  obtain ⟨f, fd, F, g, kp, b⟩ := D.ex
  exact pe_call F hr hg g kp b .nil (passes_call tk fun _ _ _ _ h => h) ha hdb he hpl
/-- in a try's body -/
theorem pe_cdS {W : WX} (D : DfX X.prog X.w X.K X.mg X.base k x ps sp) (tk : Takes X W) (hr : Room k X.A) (hg : Gl X x) (ha : PA X (e :: es) t)
    (hdb : (x == ("__debug__" : Str)) = false := by decide) (he : starEach (e :: es) X.env = (false, eval e X.env) :: starEach es X.env := by rfl) (hpl : (backTo pos (starEach es X.env)).any (·.1) = false := by rfl) :
    PE X (.Call (.Name x p) (e :: es) [] pos) (tCallS sp (WE W) t) := by
  obtain ⟨f, fd, F, g, kp, b⟩ := D.ex
  exact pe_callS F hr hg g kp b (fun σ => passAt tk σ) ha hdb he hpl
end
/-- raise X('..') -/
def tRaiseC (E : XK) (cls : Value) : TS := fun _ _ H => E cls none H
theorem ps_raiseC {X : Cx} {E : XK} {ns : List Str} {x m : Str} {j : Nat} {p p2 pos pos' : Pos} (T : XT ns X.K X.mg) (hx : x ∈ ns) (hc : X.calm = true) (tk : Takes X fun cls d _ H => E cls d H) (hg : Gl X x) (hdb : (x == ("__debug__" : Str)) = false := by decide) :
    PS X (.Raise (some (.Call (.Name x p) [.Constant (.str m) j p2] [] pos)) none pos') (tRaiseC E (.ref (He.ga X.K x))) :=
  ps_raise hc tk (pmk_own PySem.F.excBase_ValueError (T.xf x hx).ex (T.gl x hx) (T.xf x hx).kp (raises_own (T.xf x hx).sb (T.xf x hx).ty) hg hdb)
/-- try: .. except GameError as n: .. -/
def tTryAs (K : PySem.W.Frag) (c : Value) (i : Nat) (tb : WX → TS) (ts : Addr → Value → Option Addr → TS) : TS := fun D σ H => tb (wAs K c i ts (fun _ _ _ _ => False) D) D σ H
/-- isinstance(error, C) in the suite -/
def rIsX (K : PySem.W.Frag) (a : Addr) (cls : Value) (d : Option Addr) : List V → Hp → VK → Prop := fun xs H Q => ∃ D, cls = .ref D ∧ d = none ∧ ExcC K D ∧ rIsE K D a xs H Q
theorem call_isX {X : Cx} {a : Addr} {oe : Obj} {cls : Value} {d : Option Addr} {pn : List (Addr × Obj)} (hz : Zc cls d oe) (hf : ∃ vs, oe.data = .fields vs) : CallR (X.suite a ((a, oe) :: pn)) (.builtin "isinstance") (rIsX X.K a cls d) := by
  intro pins s σ H xs us Q I r h
  obtain ⟨D, rfl, rfl, C, h⟩ := h
  exact call_isE C hz hf pins s σ H xs us Q I r h
/-- isinstance's answers -/
theorem isX_own {ns : List Str} {K : PySem.W.Frag} {x y : Str} {a : Addr} {H : Hp} {Q : VK} (T : XF ns K) (hx : x ∈ ns) (hy : y ∈ ns) (q : Q (.bl (decide (x = y))) H) : rIsX K a (.ref (He.ga K x)) none [.ref a, .ref (He.ga K y)] H Q :=
  ⟨He.ga K x, rfl, rfl, (T x hx).cc, .ref (He.ga K y), .ref (He.ga K y), decide (x = y), rfl, fun u h => h, (T x hx).is y hy, q⟩
theorem isX_val {ns : List Str} {K : PySem.W.Frag} {x : Str} {a : Addr} {H : Hp} {Q : VK} (T : XF ns K) (hx : x ∈ ns) (q : Q (.bl true) H) : rIsX K a (.ref (He.ga K x)) none [.ref a, .ty "ValueError"] H Q :=
  ⟨He.ga K x, rfl, rfl, (T x hx).cc, .ty "ValueError", .type "ValueError", true, rfl, fun u h => h, (T x hx).val, q⟩
end Sp

namespace Sp
open PySem PySem.Spec PyProof.Rows L2
/-! ### laid_over -/
def sp_laid_over (K : PySem.W.Frag) : Sp := fun vs H Q _ => ∃ (a : Addr) (l : List Nat), vs = [.ref a] ∧ SqL K H a (nvs l) ∧ l.length ≤ 10000 ∧ (∀ x ∈ l, x < 2 ^ 400) ∧ ∀ H', Same H H' → Q (nv (xo l)) H'
/-- slots: 0 numbers, 1 found, 2 power, 3 left, 4 number -/
def N_laid_over : List Str := ["numbers", "found", "power", "left", "number"]
def t_laid_over (K : PySem.W.Frag) : TS :=
    tSeq (tAsg (tC (.int 0)) (gName 1))
    (tSeq (tAsg (tC (.int 1)) (gName 2))
    (tSeq (tAsg (tCB (rList K) (tCons (tVar 0) (tNil))) (gName 3))
    (tSeq (tWhile (tTest (tOp rGt (tCB (rLen K) (tCons (tVar 3) (tNil))) (tC (.int 0)))) (tSeq (tAsg (tOp rAdd (tVar 1) (tOp rMul (tOp rMod (tCB (rSum K) (tCons (tLc (iList K (tVar 3)) (gName 4) (tYes) (tOp rMod (tVar 4) (tC (.int 2))) [4]) (tNil))) (tC (.int 2))) (tVar 2))) (gName 1))
    (tSeq (tAsg (tOp rMul (tVar 2) (tC (.int 2))) (gName 2))
    (tAsg (tLc (iList K (tVar 3)) (gName 4) (tTest (tOp rGt (tVar 4) (tC (.int 1)))) (tOp rDiv (tVar 4) (tC (.int 2))) [4]) (gName 3)))))
    (tRet (tVar 1)))))
theorem r_laid_over {K : PySem.W.Frag} (vs : List V) (H : Hp) (Q : VK) (E : XK) (h : sp_laid_over K vs H Q E) : t_laid_over K { nx := fun _ H' => Q .non H', rt := Q } (start N_laid_over vs) H := by
  obtain ⟨a, l, rfl, hl, hz, hx, q⟩ := h
  -- left = list(numbers)
  refine ⟨.ref a, rfl, a, _, rfl, .inl hl, fun p np => ?_⟩
  -- while len(left) > 0
  refine ⟨fun m σ H1 => ∃ (r : Addr) (l' : List Nat) (f k : Nat) (y : Option V), σ = [some (.ref a), some (nv f), some (nv (2 ^ k)), some (.ref r), y] ∧ Same H H1 ∧ SqL K H1 r (nvs l') ∧ l'.length ≤ 10000 ∧ (∀ x ∈ l', x < 2 ^ m) ∧ (l' = [] ∨ 1 ≤ m) ∧ f + 2 ^ k * xo l' = xo l,
    ⟨400, p, l, 0, 0, none, rfl, same_new np, .of upd_same, hz, hx, .inr (by decide), by simp⟩, fun m σ H1 hW => ?_⟩
  obtain ⟨r, l', f, k, y, rfl, s1, hr, hz', hx', hm, e⟩ := hW
  refine ⟨.ref r, rfl, r, _, rfl, .inl hr, _, _, rfl, rfl, _, rfl, ite2 (fun c => ?_) (fun c => ?_)⟩
  · have hne : l' ≠ [] := by
      intro z
      subst z
      exact absurd c (by decide)
    have hm1 : 1 ≤ m := hm.resolve_left hne
    refine ⟨fun σ' H' => ∃ (r : Addr) (l' : List Nat) (f k : Nat) (y : Option V), σ' = [some (.ref a), some (nv f), some (nv (2 ^ k)), some (.ref r), y] ∧ Same H H' ∧ SqL K H' r (nvs l') ∧ l'.length ≤ 10000 ∧ (∀ x ∈ l', x < 2 ^ (m - 1)) ∧ (l' = [] ∨ 1 ≤ m - 1) ∧ f + 2 ^ k * xo l' = xo l,
      fun σ' H' hN => ⟨m - 1, by omega, hN⟩, ?_⟩
    -- found = found + sum([number % 2 for number in left]) % 2 * power
    refine ⟨nv f, rfl, .ref r, rfl, r, rfl, ⟨_, hr⟩, lcL l' nv (fun _ => true) (fun n => nv (n % 2)) hr (by omega) (fun d hd H2 Qy Qf s2 hy _ => ?_) (fun D H2 _ s2 hD => ?_)⟩
    · refine ⟨nv d, rfl, (d : Int), 2, rfl, rfl, (show (0 : Int) < 2 by decide), ?_⟩
      exact hy rfl H2 (Same.refl _)
    · have hD2 : SqL K H2 D ((l'.map fun n => ((n % 2 : Nat) : Int)).map V.int) := by
        have e1 : (l'.filter fun _ => true).map (fun n => nv (n % 2)) = (l'.map fun n => ((n % 2 : Nat) : Int)).map V.int := by
          rw [List.filter_eq_self.mpr (fun _ _ => rfl), List.map_map]
          rfl
        exact .of (by rw [← e1]; exact hD)
      have hsum : (l'.map fun n => ((n % 2 : Nat) : Int)).sum = (((l'.map (· % 2)).sum : Nat) : Int) := by
        rw [← sum_nat, List.map_map]
        rfl
      have hbit : (l'.map fun n => ((n % 2 : Nat) : Int)).sum % 2 = ((xo l' % 2 : Nat) : Int) := by
        rw [hsum, xo_mod_two]
        omega
      refine ⟨D, _, rfl, hD2, _, 2, rfl, rfl, (show (0 : Int) < 2 by decide), nv (2 ^ k), rfl, _, ((2 ^ k : Nat) : Int), rfl, rfl, .inl (by rw [hbit]; omega), (f : Int), _, rfl, rfl, ?_⟩
      -- power = power * 2
      refine ⟨nv (2 ^ k), rfl, ((2 ^ k : Nat) : Int), 2, rfl, rfl, .inr (by decide), ?_⟩
      -- left = [..]
      have hr2 : SqL K H2 r (nvs l') := s2.seq hr
      refine ⟨.ref r, rfl, r, rfl, ⟨_, hr2⟩, lcL l' nv (fun n => decide (1 < n)) (fun n => nv (n / 2)) hr2 (by omega) (fun d hd H3 Qy Qf s3 hy hf => ?_) (fun D3 H3 _ s3 hD3 => ?_)⟩
      · refine ⟨nv d, rfl, (d : Int), 1, rfl, rfl, _, rfl, ite2 (fun c2 => ?_) (fun c2 => ?_)⟩
        · refine ⟨nv d, rfl, (d : Int), 2, rfl, rfl, ⟨by decide, by decide⟩, ?_⟩
          have c3 : 1 < d := by
            have := of_decide_eq_true c2
            omega
          exact hy (decide_eq_true c3) H3 (Same.refl _)
        · have c3 : ¬ 1 < d := fun z => c2 (decide_eq_true (by omega))
          exact hf (decide_eq_false c3) H3 (Same.refl _)
      · refine ⟨D3, (l'.filter fun n => decide (1 < n)).map (· / 2), f + xo l' % 2 * 2 ^ k, k + 1, y, ?_, s1.trans (s2.trans s3), .of ?_, ?_, ?_, ?_, ?_⟩
        · rw [hbit]
          show [some (V.ref a), some (V.int ((f : Int) + ((xo l' % 2 : Nat) : Int) * ((2 ^ k : Nat) : Int))), some (V.int (((2 ^ k : Nat) : Int) * 2)), some (V.ref D3), y] = _
          have e5 : (f : Int) + ((xo l' % 2 : Nat) : Int) * ((2 ^ k : Nat) : Int) = ((f + xo l' % 2 * 2 ^ k : Nat) : Int) := by
            rw [Int.natCast_add, Int.natCast_mul]
          have e6 : ((2 ^ k : Nat) : Int) * 2 = ((2 ^ (k + 1) : Nat) : Int) := by
            rw [Nat.pow_succ, Int.natCast_mul]
            rfl
          rw [e5, e6]
        · rw [hD3]
          unfold nvs
          rw [List.map_map]
          rfl
        · rw [List.length_map]
          exact Nat.le_trans (List.length_filter_le _ _) hz'
        · intro x hx2
          obtain ⟨n, hn, rfl⟩ := List.mem_map.mp hx2
          have h1 := hx' n (List.mem_filter.mp hn).1
          have e2 : 2 ^ m = 2 ^ (m - 1) * 2 := by rw [← Nat.pow_succ]; congr 1; omega
          rw [e2] at h1
          show n / 2 < 2 ^ (m - 1)
          omega
        · by_cases h1 : 1 ≤ m - 1
          · exact .inr h1
          · refine .inl ?_
            have e2 : m = 1 := by omega
            subst e2
            rw [List.map_eq_nil_iff, List.filter_eq_nil_iff]
            intro n hn
            have := hx' n hn
            simp
            omega
        · rw [xo_half]
          have e3 : xo l' = 2 * (xo l' / 2) + xo l' % 2 := by omega
          rw [← e, Nat.pow_succ]
          generalize xo l' / 2 = u at *
          generalize xo l' % 2 = v at *
          rw [e3, Nat.mul_add, ← Nat.mul_assoc, Nat.mul_comm v]
          omega
  · -- return found
    have h0 : l' = [] := by
      cases l' with
      | nil => rfl
      | cons x t => exact absurd (decide_eq_true (by rw [nvs_length, List.length_cons]; omega)) c
    subst h0
    refine ⟨nv f, rfl, ?_⟩
    have e2 : f = xo l := by
      rw [← e]
      simp [xo]
    rw [e2]
    exact q H1 s1
end Sp

namespace Sp
open PySem PySem.Spec PyProof.Rows L2
/-! ### _law_cell_at: some number -/
def sp__law_cell_at (K : PySem.W.Frag) : Sp := fun vs H Q _ => ∃ (a : Addr) (ns : List Int) (k : Int), vs = [.ref a, .int k] ∧ SqL K H a (ns.map V.int) ∧ 0 ≤ k ∧ ∀ c : Int, Q (.int c) H
/-- slots: 0 _law_script, 1 _law_k -/
def N__law_cell_at : List Str := ["_law_script", "_law_k"]
def t__law_cell_at (K : PySem.W.Frag) : TS :=
    tSeq (tIfS (tTest (tOp rLt (tVar 1) (tCB (rLen K) (tCons (tVar 0) (tNil))))) (tRet (tOp (rIxL K) (tVar 0) (tVar 1))) (tNext))
    (tRet (tC (.int 0)))
theorem r__law_cell_at {K : PySem.W.Frag} (vs : List V) (H : Hp) (Q : VK) (E : XK) (h : sp__law_cell_at K vs H Q E) : t__law_cell_at K { nx := fun _ H' => Q .non H', rt := Q } (start N__law_cell_at vs) H := by
  obtain ⟨a, ns, k, rfl, hs, h0, q⟩ := h
  refine ⟨.int k, rfl, .ref a, rfl, a, _, rfl, .inl hs, k, _, rfl, rfl, _, rfl, ite2 (fun c => ?_) (fun _ => q 0)⟩
  have c1 : k < ((ns.map V.int).length : Int) := of_decide_eq_true c
  rw [List.length_map] at c1
  have h1 : k.toNat < ns.length := by omega
  have h2 : (ns.map V.int)[k.toNat]? = some (.int ns[k.toNat]) := by
    rw [List.getElem?_map, List.getElem?_eq_getElem h1]
    rfl
  exact ⟨.ref a, rfl, .int k, rfl, a, _, k, _, rfl, rfl, hs, at_of (j := k.toNat) (by omega) h2, q _⟩
end Sp

namespace Sp
open PySem PySem.Spec PyProof.Rows L2
/-! ### the drawn web: _law_mixed, _law_order_by, _law_web_by, _law_copied -/
def sp__law_mixed (K : PySem.W.Frag) : Sp := fun vs H Q _ => ∃ (c k : Int), vs = [.int c, .int k] ∧ 0 ≤ k ∧ k ≤ 100000 ∧ ∀ m : Nat, Q (nv m) H
/-- slots: 0 _law_cell, 1 _law_k, 2 _law_number -/
def N__law_mixed : List Str := ["_law_cell", "_law_k", "_law_number"]
def t__law_mixed (K : PySem.W.Frag) : TS :=
    tSeq (tAsg (tOp rMod (tOp rMul (tOp rAdd (tOp rMod (tVar 0) (tC (.int 1000000007))) (tC (.int 17))) (tC (.int 48271))) (tC (.int 2147483647))) (gName 2))
    (tSeq (tAsg (tOp rMod (tOp rMul (tOp rAdd (tVar 2) (tVar 1)) (tOp rAdd (tOp rMul (tVar 1) (tVar 1)) (tC (.int 16807)))) (tC (.int 2147483629))) (gName 2))
    (tRet (tOp rDiv (tOp rMod (tOp rMul (tVar 2) (tC (.int 69621))) (tC (.int 2147483647))) (tC (.int 7)))))
theorem r__law_mixed {K : PySem.W.Frag} (vs : List V) (H : Hp) (Q : VK) (E : XK) (h : sp__law_mixed K vs H Q E) : t__law_mixed K { nx := fun _ H' => Q .non H', rt := Q } (start N__law_mixed vs) H := by
  obtain ⟨c, k, rfl, h0, h1, q⟩ := h
  have hkk : 0 ≤ k * k ∧ k * k ≤ 10000000000 := by
    refine ⟨Int.mul_nonneg h0 h0, ?_⟩
    have := Int.mul_le_mul h1 h1 h0 (by omega : (0 : Int) ≤ 100000)
    omega
  refine ⟨.int c, rfl, c, 1000000007, rfl, rfl, (show (0 : Int) < 1000000007 by decide), _, 17, rfl, rfl, _, 48271, rfl, rfl, .inr ⟨by decide, by decide⟩, _, 2147483647, rfl, rfl, (show (0 : Int) < 2147483647 by decide), ?_⟩
  refine ⟨_, rfl, .int k, rfl, _, k, rfl, rfl, .int k, rfl, .int k, rfl, k, k, rfl, rfl, .inl ⟨by omega, by omega⟩, k * k, 16807, rfl, rfl, _, k * k + 16807, rfl, rfl, .inr ⟨by omega, by omega⟩, _, 2147483629, rfl, rfl, (show (0 : Int) < 2147483629 by decide), ?_⟩
  refine ⟨_, rfl, _, 69621, rfl, rfl, .inr ⟨by decide, by decide⟩, _, 2147483647, rfl, rfl, (show (0 : Int) < 2147483647 by decide), _, 7, rfl, rfl, ⟨by decide, by decide⟩, ?_⟩
  try dsimp only
  generalize ((c % 1000000007 + 17) * 48271 % 2147483647 + k) * (k * k + 16807) % 2147483629 * 69621 = z
  obtain ⟨m, hm⟩ := Int.eq_ofNat_of_zero_le (show 0 ≤ z % 2147483647 / 7 by omega)
  rw [hm]
  exact q m
def sp__law_order_by (K : PySem.W.Frag) : Sp := fun vs H Q _ => ∃ (c : Int) (n : Nat), vs = [.int c, nv n] ∧ n ≤ 100 ∧ ∀ (o : List Nat) (p : Addr) (H' : Hp), o.Perm (List.range n) → H p = none → Same H H' → H' p = some (.lst (nvs o)) → Q (.ref p) H'
/-- slots: 0 _law_cell, 1 _law_many, 2 _law_left, 3 _law_order, 4 _law_k -/
def N__law_order_by : List Str := ["_law_cell", "_law_many", "_law_left", "_law_order", "_law_k"]
def t__law_order_by (K : PySem.W.Frag) : TS :=
    tSeq (tAsg (tLstRg (tRg1 (tVar 1))) (gName 2))
    (tSeq (tAsg (tLst (tNil)) (gName 3))
    (tSeq (tFor (iRng1 (tCons (tVar 1) (tNil))) (gName 4) (tDrop (tBM K "list" rAppend (tVar 3) (tCons (tBM K "list" rPopAt (tVar 2) (tCons (tOp rMod (tCall (sp__law_mixed K) [] E0 (tCons (tVar 0) (tCons (tVar 4) (tNil)))) (tCB (rLen K) (tCons (tVar 2) (tNil)))) (tNil))) (tNil)))))
    (tRet (tVar 3))))
theorem rgV_nat (n : Nat) : rgV 0 (n : Int) = nvs (List.range n) := by
  unfold rgV nvs
  rw [show ((n : Int) - 0).toNat = n by omega]
  exact List.map_congr_left fun i _ => by rw [Int.zero_add]
theorem map_erase {α β : Type} (f : α → β) : ∀ (l : List α) (k : Nat), (l.map f).eraseIdx k = (l.eraseIdx k).map f
  | [], _ => rfl
  | a :: r, 0 => rfl
  | a :: r, k + 1 => congrArg (f a :: ·) (map_erase f r k)
theorem erase_perm : ∀ {l : List Nat} {k x : Nat}, l[k]? = some x → (x :: l.eraseIdx k).Perm l
  | [], _, _, h => by cases h
  | a :: r, 0, x, h => by
    have e : a = x := Option.some.inj h
    subst e
    exact .refl _
  | a :: r, k + 1, x, h => by
    have ih := erase_perm (l := r) (k := k) (x := x) h
    exact (List.Perm.swap a x _).trans (ih.cons a)
theorem r__law_order_by {K : PySem.W.Frag} (vs : List V) (H : Hp) (Q : VK) (E : XK) (h : sp__law_order_by K vs H Q E) : t__law_order_by K { nx := fun _ H' => Q .non H', rt := Q } (start N__law_order_by vs) H := by
  obtain ⟨c, n, rfl, hn, q⟩ := h
  refine ⟨nv n, rfl, (n : Int), rfl, .of_le (Int.le_refl _) (by omega) (by decide) (by omega), fun lA nl => ?_⟩
  rw [rgV_nat]
  refine ⟨Nat.zero_le _, fun oA no => ?_⟩
  have lo : lA ≠ oA := ne_of_none upd_same no
  have s1 : Same H (upd (upd H lA (.lst (nvs (List.range n)))) oA (.lst [])) := (same_new nl).new no
  have noH := (same_new (o := .lst (nvs (List.range n))) nl).free no
  refine ⟨nv n, rfl, (n : Int), rfl, by omega, by omega, ?_⟩
  rw [Int.toNat_natCast]
  refine for_range (fun i σ H1 => ∃ (o l : List Nat) (y : Option V), σ = [some (.int c), some (nv n), some (.ref lA), some (.ref oA), y] ∧ Same H H1 ∧ H1 lA = some (.lst (nvs l)) ∧ H1 oA = some (.lst (nvs o)) ∧ (o ++ l).Perm (List.range n) ∧ o.length = i)
    ⟨[], List.range n, none, rfl, s1, by rw [upd_ne lo, upd_same], upd_same, .refl _, rfl⟩ (fun i σ H1 hi hP => ?_) (fun σ H1 hP => ?_)
  · obtain ⟨o, l, y, rfl, s2, hl, ho, hp, hlen⟩ := hP
    have hll : o.length + l.length = n := by
      have := hp.length_eq
      rwa [List.length_append, List.length_range] at this
    refine ⟨.ref oA, rfl, .inl ⟨rfl, _, .of ho⟩, .ref lA, rfl, .inl ⟨rfl, _, .of hl⟩, .int c, rfl, .int (0 + i), rfl, c, (0 + (i : Int)), rfl, by omega, by omega, fun m => ?_⟩
    have hpos : (0 : Int) < (l.length : Int) := by omega
    refine ⟨.ref lA, rfl, lA, _, rfl, .inl (.of hl), (m : Int), _, rfl, rfl, (show (0 : Int) < ((nvs l).length : Int) by rw [nvs_length]; exact hpos), ?_⟩
    rw [nvs_length]
    have hk : ((m : Int) % (l.length : Int)) = ((m % l.length : Nat) : Int) := rfl
    have hlt : m % l.length < l.length := Nat.mod_lt _ (by omega)
    obtain ⟨x, hx⟩ : ∃ x, l[m % l.length]? = some x := ⟨_, List.getElem?_eq_getElem hlt⟩
    refine ⟨lA, _, ((m % l.length : Nat) : Int), m % l.length, nv x, rfl, rfl, hl, by omega, by omega, ?_, nvs_get hx, ?_⟩
    · refine PySem.StrLaws.seqIndex_nonneg (by omega) ?_
      rw [nvs_length]
      omega
    · have ee : (nvs l).eraseIdx (m % l.length) = nvs (l.eraseIdx (m % l.length)) := by
        exact map_erase nv l _
      rw [ee]
      have ho2 : (upd H1 lA (.lst (nvs (l.eraseIdx (m % l.length))))) oA = some (.lst (nvs o)) := by rw [upd_ne lo.symm]; exact ho
      refine ⟨oA, _, nv x, rfl, rfl, ho2, by rw [nvs_length]; exact line_lt (by omega), o ++ [x], l.eraseIdx (m % l.length), some (.int (0 + i)), rfl, (s2.mut nl).mut noH, by rw [upd_ne lo, upd_same], by rw [upd_same, nvs_append]; rfl, ?_, by rw [List.length_append, hlen]; rfl⟩
      rw [List.append_assoc]
      exact ((List.Perm.refl o).append (erase_perm hx)).trans hp
  · obtain ⟨o, l, y, rfl, s2, hl, ho, hp, hlen⟩ := hP
    have hll : o.length + l.length = n := by
      have := hp.length_eq
      rwa [List.length_append, List.length_range] at this
    have l0 : l = [] := List.eq_nil_of_length_eq_zero (by omega)
    subst l0
    rw [List.append_nil] at hp
    exact ⟨.ref oA, rfl, q o oA H1 hp noH s2 ho⟩
/-! a web behind k rows and j moves of the next one -/
structure DInv (n : Nat) (o : List Nat) (f : Nat → List Nat) (k j : Nat) : Prop where
  nd : ∀ i < n, (f i).Nodup
  lo : ∀ (i x : Nat), o[i]? = some x → ∀ y ∈ f x, ∃ i' : Nat, i' < i ∧ o[i']? = some y
  mid : ∀ x : Nat, o[k]? = some x → ∀ y ∈ f x, ∃ i' : Nat, i' < j ∧ o[i']? = some y
  hi : ∀ (i x : Nat), k < i → o[i]? = some x → f x = []
theorem DInv.start (n : Nat) (o : List Nat) : DInv n o (fun _ => []) 0 0 where
  nd := fun _ _ => List.nodup_nil
  lo := fun _ _ _ _ h => by cases h
  mid := fun _ _ _ h => by cases h
  hi := fun _ _ _ _ => rfl
theorem DInv.weak {n : Nat} {o : List Nat} {f : Nat → List Nat} {k j : Nat} (d : DInv n o f k j) : DInv n o f k (j + 1) :=
  ⟨d.nd, d.lo, fun x hx y hy => let ⟨i, h, e⟩ := d.mid x hx y hy; ⟨i, by omega, e⟩, d.hi⟩
theorem DInv.add {n : Nat} {o : List Nat} {f : Nat → List Nat} {k j x y : Nat} (d : DInv n o f k j) (nd : o.Nodup) (hx : o[k]? = some x) (hy : o[j]? = some y) (hj : j < k) : DInv n o (fun i => if i = x then f x ++ [y] else f i) k (j + 1) := by
  have hk : ∀ i z, o[i]? = some z → (z = x ↔ i = k) := fun i z hz => by
    constructor
    · intro e
      rw [e] at hz
      exact nd_ix nd hz hx
    · intro e
      rw [e, hx] at hz
      exact (Option.some.inj hz).symm
  have hno : y ∉ f x := fun h => by
    obtain ⟨i', h1, e⟩ := d.mid x hx y h
    have := nd_ix nd e hy
    omega
  refine ⟨fun i hi => ?_, fun i z hz w hw => ?_, fun z hz w hw => ?_, fun i z hi hz => ?_⟩
  · by_cases e : i = x
    · try dsimp only
      rw [if_pos e]
      rw [e] at hi
      exact List.nodup_append.mpr ⟨d.nd x hi, List.nodup_cons.mpr ⟨List.not_mem_nil, List.nodup_nil⟩, fun a ha b hb e2 => by
        rw [List.mem_singleton.mp hb] at e2
        exact hno (e2 ▸ ha)⟩
    · try dsimp only
      rw [if_neg e]
      exact d.nd i hi
  · try dsimp only at hw
    by_cases e : z = x
    · rw [if_pos e] at hw
      have ek := (hk i z hz).mp e
      rcases List.mem_append.mp hw with h | h
      · exact d.lo i x (by rw [ek]; exact hx) w h
      · rw [List.mem_singleton.mp h]
        exact ⟨j, by omega, hy⟩
    · rw [if_neg e] at hw
      exact d.lo i z hz w hw
  · try dsimp only at hw
    have e : z = x := (hk k z hz).mpr rfl
    rw [if_pos e] at hw
    rcases List.mem_append.mp hw with h | h
    · obtain ⟨i', h1, e1⟩ := d.mid x hx w h
      exact ⟨i', by omega, e1⟩
    · rw [List.mem_singleton.mp h]
      exact ⟨j, by omega, hy⟩
  · try dsimp only
    have e : ¬ z = x := fun e => by have := (hk i z hz).mp e; omega
    rw [if_neg e]
    exact d.hi i z hi hz
theorem DInv.next {n : Nat} {o : List Nat} {f : Nat → List Nat} {k : Nat} (d : DInv n o f k k) : DInv n o f (k + 1) 0 where
  nd := d.nd
  lo := d.lo
  mid := fun x hx y hy => by
    rw [d.hi (k + 1) x (by omega) hx] at hy
    cases hy
  hi := fun i x h hx => d.hi i x (by omega) hx
theorem DInv.rev {n : Nat} {o : List Nat} {f : Nat → List Nat} {k j x : Nat} (d : DInv n o f k j) : DInv n o (fun i => if i = x then (f x).reverse else f i) k j := by
  have hm : ∀ z y, y ∈ (if z = x then (f x).reverse else f z) → y ∈ f z := fun z y h => by
    by_cases e : z = x
    · rw [if_pos e] at h
      rw [e]
      exact List.mem_reverse.mp h
    · rw [if_neg e] at h
      exact h
  refine ⟨fun i hi => ?_, fun i z hz w hw => d.lo i z hz w (hm z w hw), fun z hz w hw => d.mid z hz w (hm z w hw), fun i z hi hz => ?_⟩
  · try dsimp only
    by_cases e : i = x
    · rw [if_pos e]
      rw [e] at hi
      exact (List.reverse_perm _).nodup_iff.mpr (d.nd x hi)
    · rw [if_neg e]
      exact d.nd i hi
  · try dsimp only
    by_cases e : z = x
    · rw [if_pos e, ← e, d.hi i z hi hz]
      rfl
    · rw [if_neg e]
      exact d.hi i z hi hz
theorem DInv.good {n : Nat} {o : List Nat} {f : Nat → List Nat} {k : Nat} (d : DInv n o f k 0) (hp : o.Perm (List.range n)) (h1 : 1 ≤ n) (h2 : n ≤ 200) : Good ((List.range n).map f) := by
  have hlen : ((List.range n).map f).length = n := by rw [List.length_map, List.length_range]
  have nd : o.Nodup := hp.nodup_iff.mpr List.nodup_range
  have rw1 : ∀ s < n, row ((List.range n).map f) s = f s := fun s hs => row_of (by rw [List.getElem?_map, List.getElem?_range hs]; rfl)
  have rw2 : ∀ s, n ≤ s → row ((List.range n).map f) s = [] := fun s hs => row_nil (by rw [hlen]; exact hs)
  have at_ : ∀ s < n, ∃ i, o[i]? = some s := fun s hs => List.mem_iff_getElem?.mp (hp.mem_iff.mpr (List.mem_range.mpr hs))
  have below : ∀ {i s : Nat}, o[i]? = some s → s < n := fun h => List.mem_range.mp (hp.mem_iff.mp (List.mem_of_getElem? h))
  refine ⟨⟨by rw [hlen]; exact h1, by rw [hlen]; exact h2, fun s => ?_, fun s x hx => ?_⟩, fun s => o.idxOf s, fun s x hx => ?_⟩
  · by_cases hs : s < n
    · rw [rw1 s hs]
      exact d.nd s hs
    · rw [rw2 s (by omega)]
      exact List.nodup_nil
  · by_cases hs : s < n
    · rw [rw1 s hs] at hx
      obtain ⟨i, hi⟩ := at_ s hs
      obtain ⟨i', _, e⟩ := d.lo i s hi x hx
      rw [hlen]
      exact below e
    · rw [rw2 s (by omega)] at hx
      cases hx
  · by_cases hs : s < n
    · rw [rw1 s hs] at hx
      obtain ⟨i, hi⟩ := at_ s hs
      obtain ⟨i', h, e⟩ := d.lo i s hi x hx
      have g : ∀ {i z : Nat}, o[i]? = some z → o.idxOf z = i := fun {i z} hz => by
        obtain ⟨hl, e⟩ := List.getElem?_eq_some_iff.mp hz
        rw [← e]
        exact nd.idxOf_getElem i hl
      show o.idxOf x < o.idxOf s
      rw [g hi, g e]
      exact h
    · rw [rw2 s (by omega)] at hx
      cases hx
def sp__law_web_by (K : PySem.W.Frag) : Sp := fun vs H Q _ => ∃ (a : Addr) (ns : List Int) (k : Int), vs = [.ref a, .int k] ∧ SqL K H a (ns.map V.int) ∧ 0 ≤ k ∧ ∀ (W : List (List Nat)) (p : Addr) (H' : Hp), Good W → W.length ≤ 40 → Same H H' → WebN H H' p W → Q (.ref p) H'
/-- slots: 0 _law_script, 1 _law_at, 2 _law_many, 3 _law_order, 4 _law_thin, 5 _law_web, 6 _law_k, 7 _law_j, 8 _law_spot -/
def N__law_web_by : List Str := ["_law_script", "_law_at", "_law_many", "_law_order", "_law_thin", "_law_web", "_law_k", "_law_j", "_law_spot"]
def t__law_web_by (K : PySem.W.Frag) : TS :=
    tSeq (tAsg (tOp rAdd (tC (.int 1)) (tOp rMod (tCall (sp__law_cell_at K) [] E0 (tCons (tVar 0) (tCons (tVar 1) (tNil)))) (tC (.int 9)))) (gName 2))
    (tMid (tIfS (tTest (tOp rEq (tOp rMod (tCall (sp__law_cell_at K) [] E0 (tCons (tVar 0) (tCons (tOp rAdd (tVar 1) (tC (.int 1))) (tNil)))) (tC (.int 8))) (tC (.int 1)))) (tAsg (tOp rAdd (tC (.int 10)) (tOp rMod (tCall (sp__law_cell_at K) [] E0 (tCons (tVar 0) (tCons (tVar 1) (tNil)))) (tC (.int 31)))) (gName 2)) (tNext))
    (tSeq (tAsg (tCall (sp__law_order_by K) [] E0 (tCons (tCall (sp__law_cell_at K) [] E0 (tCons (tVar 0) (tCons (tOp rAdd (tVar 1) (tC (.int 2))) (tNil)))) (tCons (tVar 2) (tNil)))) (gName 3))
    (tSeq (tAsg (tOp rAdd (tC (.int 1)) (tOp rMod (tOp rDiv (tCall (sp__law_cell_at K) [] E0 (tCons (tVar 0) (tCons (tOp rAdd (tVar 1) (tC (.int 1))) (tNil)))) (tC (.int 8))) (tC (.int 4)))) (gName 4))
    (tSeq (tAsg (tLc (iList K (tVar 3)) (gName 8) (tYes) (tLst (tNil)) [8]) (gName 5))
    (tSeq (tFor (iRng1 (tCons (tVar 2) (tNil))) (gName 6) (tSeq (tFor (iRng1 (tCons (tVar 6) (tNil))) (gName 7) (tIfS (tTest (tOp rEq (tOp rMod (tCall (sp__law_mixed K) [] E0 (tCons (tCall (sp__law_cell_at K) [] E0 (tCons (tVar 0) (tCons (tOp rAdd (tVar 1) (tC (.int 3))) (tNil)))) (tCons (tOp rAdd (tOp rMul (tC (.int 64)) (tVar 6)) (tVar 7)) (tNil)))) (tVar 4)) (tC (.int 0)))) (tDrop (tBM K "list" rAppend (tOp (rIxL K) (tVar 5) (tOp (rIxL K) (tVar 3) (tVar 6))) (tCons (tOp (rIxL K) (tVar 3) (tVar 7)) (tNil)))) (tNext)))
    (tIfS (tTest (tOp rEq (tOp rMod (tCall (sp__law_mixed K) [] E0 (tCons (tCall (sp__law_cell_at K) [] E0 (tCons (tVar 0) (tCons (tOp rAdd (tVar 1) (tC (.int 3))) (tNil)))) (tCons (tOp rAdd (tOp rMul (tC (.int 7)) (tVar 6)) (tC (.int 5))) (tNil)))) (tC (.int 3))) (tC (.int 0)))) (tDrop (tBM0 K "list" rReverse (tOp (rIxL K) (tVar 5) (tOp (rIxL K) (tVar 3) (tVar 6))))) (tNext))))
    (tRet (tVar 5)))))))
theorem r__law_web_by {K : PySem.W.Frag} (vs : List V) (H : Hp) (Q : VK) (E : XK) (h : sp__law_web_by K vs H Q E) : t__law_web_by K { nx := fun _ H' => Q .non H', rt := Q } (start N__law_web_by vs) H := by
  obtain ⟨a, ns, k, rfl, hs, hk, q⟩ := h
  -- many
  refine ⟨.ref a, rfl, .int k, rfl, a, ns, k, rfl, hs, hk, fun c1 => ⟨c1, 9, rfl, rfl, (show (0 : Int) < 9 by decide), 1, _, rfl, rfl, ?_⟩⟩
  refine ⟨fun σ' H' => ∃ n : Nat, σ' = [some (.ref a), some (.int k), some (nv n), none, none, none, none, none, none] ∧ H' = H ∧ 1 ≤ n ∧ n ≤ 40, ?_, ?_⟩
  · refine ⟨.ref a, rfl, .int k, rfl, k, 1, rfl, rfl, a, ns, k + 1, rfl, hs, by omega, fun c2 => ⟨c2, 8, rfl, rfl, (show (0 : Int) < 8 by decide), rfl, _, rfl, ite2 (fun _ => ?_) (fun _ => ?_)⟩⟩
    · refine ⟨.ref a, rfl, .int k, rfl, a, ns, k, rfl, hs, hk, fun c3 => ⟨c3, 31, rfl, rfl, (show (0 : Int) < 31 by decide), 10, _, rfl, rfl, (10 + c3 % 31).toNat, ?_, rfl, by omega, by omega⟩⟩
      have e : (10 + c3 % 31) = (((10 + c3 % 31).toNat : Nat) : Int) := by omega
      try dsimp only
      rw [e]
      rfl
    · refine ⟨(1 + c1 % 9).toNat, ?_, rfl, by omega, by omega⟩
      have e : (1 + c1 % 9) = (((1 + c1 % 9).toNat : Nat) : Int) := by omega
      try dsimp only
      rw [e]
      rfl
  · rintro σ' H' ⟨n, rfl, rfl, hn1, hn2⟩
    -- order
    refine ⟨.ref a, rfl, .int k, rfl, k, 2, rfl, rfl, a, ns, k + 2, rfl, hs, by omega, fun c4 => ⟨nv n, rfl, c4, n, rfl, by omega, fun o oA H1 hp no s1 ho => ?_⟩⟩
    have nd : o.Nodup := hp.nodup_iff.mpr List.nodup_range
    have hol : o.length = n := by rw [hp.length_eq, List.length_range]
    have below : ∀ {i s : Nat}, o[i]? = some s → s < n := fun h => List.mem_range.mp (hp.mem_iff.mp (List.mem_of_getElem? h))
    -- thin
    refine ⟨.ref a, rfl, .int k, rfl, k, 1, rfl, rfl, a, ns, k + 1, rfl, s1.seq hs, by omega, fun c5 => ⟨c5, 8, rfl, rfl, ⟨by decide, by decide⟩, _, 4, rfl, rfl, (show (0 : Int) < 4 by decide), 1, _, rfl, rfl, ?_⟩⟩
    have hth : 0 < 1 + c5 / 8 % 4 := by omega
    try dsimp only
    generalize 1 + c5 / 8 % 4 = th at hth
    -- web = [[] for spot in order]
    refine ⟨.ref oA, rfl, oA, rfl, ⟨_, .of ho⟩, lcLN o nv (fun _ => []) (.of ho) (by omega) (fun i hi H2 Qy s2 hy => ⟨Nat.zero_le _, fun p np => hy p _ np (same_new np) upd_same⟩) (fun wA H2 s2 hc => ?_)⟩
    have hc2 : LolN H1 H2 wA ((List.range n).map fun _ => ([] : List V)) := by
      have e : (o.map fun _ => ([] : List V)) = (List.range n).map fun _ => [] := by
        rw [List.map_const', List.map_const', hol, List.length_range]
      rw [← e]
      exact hc
    obtain ⟨wq, C⟩ := hc2.own
    have C0 : Own H' H2 wA n wq (fun i => nvs []) := C.back s1
    have ow : oA ≠ wA := ne_of_none ho C.na
    have owq : ∀ i < n, oA ≠ wq i := fun i hi => ne_of_none ho (C.nq i hi)
    have ho2 := s2 _ _ ho
    have s02 := s1.trans s2
    -- for k in range(many)
    refine ⟨nv n, rfl, (n : Int), rfl, by omega, by omega, ?_⟩
    rw [Int.toNat_natCast]
    refine for_range (fun i σ H3 => ∃ (f : Nat → List Nat) (y6 y7 : Option V), σ = [some (.ref a), some (.int k), some (nv n), some (.ref oA), some (.int th), some (.ref wA), y6, y7, none] ∧ Same H' H3 ∧ H3 oA = some (.lst (nvs o)) ∧ Own H' H3 wA n wq (fun i => nvs (f i)) ∧ DInv n o f i 0)
      ⟨fun _ => [], none, none, rfl, s02, ho2, C0, DInv.start n o⟩ (fun i σ H3 hi hP => ?_) (fun σ H3 hP => ?_)
    · obtain ⟨f, y6, y7, rfl, s3, ho3, C3, D3⟩ := hP
      obtain ⟨x, hx⟩ : ∃ x, o[i]? = some x := ⟨_, List.getElem?_eq_getElem (by omega)⟩
      have hxn := below hx
      -- for j in range(k)
      refine ⟨_, rfl, (0 + (i : Int)), rfl, by omega, by omega, ?_⟩
      rw [show (0 + (i : Int)).toNat = i by omega]
      refine for_range (fun j σ H4 => ∃ (f : Nat → List Nat) (y7 : Option V), σ = [some (.ref a), some (.int k), some (nv n), some (.ref oA), some (.int th), some (.ref wA), some (nv i), y7, none] ∧ Same H' H4 ∧ H4 oA = some (.lst (nvs o)) ∧ Own H' H4 wA n wq (fun i => nvs (f i)) ∧ DInv n o f i j)
        ⟨f, y7, by rw [Int.zero_add]; rfl, s3, ho3, C3, D3⟩ (fun j σ H4 hj hP => ?_) (fun σ H4 hP => ?_)
      · obtain ⟨f, y7, rfl, s4, ho4, C4, D4⟩ := hP
        obtain ⟨y, hy⟩ : ∃ y, o[j]? = some y := ⟨_, List.getElem?_eq_getElem (by omega)⟩
        refine ⟨.ref a, rfl, .int k, rfl, k, 3, rfl, rfl, a, ns, k + 3, rfl, s4.seq hs, by omega, fun c6 => ⟨nv i, rfl, 64, (i : Int), rfl, rfl, .inl ⟨by decide, by decide⟩, _, rfl, _, (0 + (j : Int)), rfl, rfl, c6, _, rfl, by omega, by omega, fun m => ⟨.int th, rfl, (m : Int), th, rfl, rfl, hth, rfl, _, rfl, ite2 (fun _ => ?_) (fun _ => ?_)⟩⟩⟩
        · refine ⟨.ref wA, rfl, .ref oA, rfl, nv i, rfl, oA, _, (i : Int), nv x, rfl, rfl, .of ho4, nvs_at hx, wA, _, (x : Int), _, rfl, rfl, .of C4.ll.top, refs_at hxn, .inl ⟨rfl, _, .of (C4.ll.at_ x hxn)⟩, .ref oA, rfl, _, rfl, oA, _, (0 + (j : Int)), nv y, rfl, rfl, .of ho4, by rw [Int.zero_add]; exact nvs_at hy, wq x, _, nv y, rfl, rfl, C4.ll.at_ x hxn, ?_, _, _, by rw [Int.zero_add]; rfl, s4.mut (C4.nq x hxn), ?_, (C4.set hxn _).congr ?_, D4.add nd hx hy hj⟩
          · rw [nvs_length]
            have h1 : (f x).length ≤ 200 := by
              have := nodup_len n (f x) (D4.nd x hxn) fun z hz => by
                obtain ⟨i', _, e⟩ := D4.mid x hx z hz
                exact below e
              omega
            exact line_lt (by omega)
          · rw [upd_ne (owq x hxn)]
            exact ho4
          · intro i' _
            by_cases e : i' = x
            · rw [if_pos e, if_pos e, nvs_append]
              rfl
            · rw [if_neg e, if_neg e]
        · exact ⟨f, _, by rw [Int.zero_add]; rfl, s4, ho4, C4, D4.weak⟩
      · obtain ⟨f, y7, rfl, s4, ho4, C4, D4⟩ := hP
        refine ⟨.ref a, rfl, .int k, rfl, k, 3, rfl, rfl, a, ns, k + 3, rfl, s4.seq hs, by omega, fun c6 => ⟨nv i, rfl, 7, (i : Int), rfl, rfl, .inl ⟨by decide, by decide⟩, _, 5, rfl, rfl, c6, _, rfl, by omega, by omega, fun m => ⟨(m : Int), 3, rfl, rfl, (show (0 : Int) < 3 by decide), rfl, _, rfl, ite2 (fun _ => ?_) (fun _ => ?_)⟩⟩⟩
        · refine ⟨.ref wA, rfl, .ref oA, rfl, nv i, rfl, oA, _, (i : Int), nv x, rfl, rfl, .of ho4, nvs_at hx, wA, _, (x : Int), _, rfl, rfl, .of C4.ll.top, refs_at hxn, .inl ⟨rfl, _, .of (C4.ll.at_ x hxn)⟩, wq x, _, rfl, rfl, C4.ll.at_ x hxn, _, some (nv i), y7, rfl, s4.mut (C4.nq x hxn), ?_, (C4.set hxn _).congr ?_, (D4.rev (x := x)).next⟩
          · rw [upd_ne (owq x hxn)]
            exact ho4
          · intro i' _
            by_cases e : i' = x
            · rw [if_pos e, if_pos e]
              unfold nvs
              rw [List.map_reverse]
            · rw [if_neg e, if_neg e]
        · exact ⟨f, some (nv i), y7, rfl, s4, ho4, C4, D4.next⟩
    · obtain ⟨f, y6, y7, rfl, s3, ho3, C3, D3⟩ := hP
      refine ⟨.ref wA, rfl, q ((List.range n).map f) wA H3 (D3.good hp hn1 (by omega)) (by rw [List.length_map, List.length_range]; exact hn2) s3 ⟨wq, ?_⟩⟩
      rw [List.length_map, List.length_range]
      exact C3.congr fun i hi => by rw [wrow, row_map hi]
def sp__law_copied (K : PySem.W.Frag) : Sp := fun vs H Q _ => ∃ (a : Addr) (W : List (List Nat)), vs = [.ref a] ∧ Web H a W ∧ W.length ≤ 1000 ∧ ∀ (p : Addr) (H' : Hp), Same H H' → WebN H H' p W → Q (.ref p) H'
/-- slots: 0 _law_web, 1 _law_spot -/
def N__law_copied : List Str := ["_law_web", "_law_spot"]
def t__law_copied (K : PySem.W.Frag) : TS :=
    tRet (tLc (iList K (tVar 0)) (gName 1) (tYes) (tCB (rList K) (tCons (tVar 1) (tNil))) [1])
theorem r__law_copied {K : PySem.W.Frag} (vs : List V) (H : Hp) (Q : VK) (E : XK) (h : sp__law_copied K vs H Q E) : t__law_copied K { nx := fun _ H' => Q .non H', rt := Q } (start N__law_copied vs) H := by
  obtain ⟨a, W, rfl, ⟨q, l⟩, hz, k⟩ := h
  refine ⟨.ref a, rfl, a, rfl, ⟨_, .of l.top⟩, lcLN (List.range W.length) (fun i => V.ref (q i)) (wrow W) (.of l.top) (by rw [List.length_range]; omega) (fun i hi H1 Qy s1 hy => ?_) (fun wA H1 s1 hc => ?_)⟩
  · exact ⟨.ref (q i), rfl, q i, _, rfl, .inl (.of (s1 _ _ (l.at_ i (List.mem_range.mp hi)))), fun p np => hy p _ np (same_new np) upd_same⟩
  · exact k wA H1 s1 hc.own
end Sp

namespace Sp
open PySem PySem.Spec PyProof.Rows L2
/-! ### play_order -/
/-- what stands in coming at o, behind i rows and j moves of the next one -/
def cm (W : List (List Nat)) (i j o : Nat) : List Nat := ((List.range i).filter fun t => decide (o ∈ row W t)) ++ if o ∈ (row W i).take j then [i] else []
theorem cm_zero (W : List (List Nat)) (i o : Nat) : cm W i 0 o = (List.range i).filter fun t => decide (o ∈ row W t) := by
  unfold cm
  rw [List.take_zero, if_neg List.not_mem_nil, List.append_nil]
theorem cm_next (W : List (List Nat)) (i o : Nat) : cm W (i + 1) 0 o = cm W i (row W i).length o := by
  rw [cm_zero]
  unfold cm
  rw [List.take_length, List.range_succ, List.filter_append]
  congr 1
  rw [List.filter_cons]
  by_cases h : o ∈ row W i
  · rw [if_pos (decide_eq_true h), if_pos h]
    rfl
  · rw [if_neg (by simpa using h), if_neg h]
    rfl
theorem cm_turn {W : List (List Nat)} {i j x : Nat} (nd : (row W i).Nodup) (h : (row W i)[j]? = some x) (o : Nat) : cm W i (j + 1) o = if o = x then cm W i j x ++ [i] else cm W i j o := by
  have hno : x ∉ (row W i).take j := not_take nd h
  by_cases e : o = x
  · subst e
    rw [if_pos rfl]
    unfold cm
    rw [if_pos ((take_succ_mem h).mpr (.inr rfl)), if_neg hno, List.append_nil]
  · rw [if_neg e]
    unfold cm
    congr 1
    by_cases hm : o ∈ (row W i).take j
    · rw [if_pos hm, if_pos ((take_succ_mem h).mpr (.inl hm))]
    · rw [if_neg hm, if_neg fun z => ((take_succ_mem h).mp z).elim hm e]
theorem cm_len {W : List (List Nat)} {i j o : Nat} : (cm W i j o).length ≤ i + 1 := by
  unfold cm
  rw [List.length_append]
  have h1 := List.length_filter_le (fun t => decide (o ∈ row W t)) (List.range i)
  rw [List.length_range] at h1
  split
  · show _ + 1 ≤ _
    omega
  · show _ + 0 ≤ _
    omega
/-- the counts behind j spots that lead to s -/
def lf (W : List (List Nat)) (o : List Nat) (s j t : Nat) : Nat := if t ∈ (comeL W s).take j then cnt W (o ++ [s]) t else cnt W o t
theorem lf_zero (W : List (List Nat)) (o : List Nat) (s t : Nat) : lf W o s 0 t = cnt W o t := by
  unfold lf
  rw [List.take_zero, if_neg List.not_mem_nil]
theorem lf_turn {W : List (List Nat)} {o : List Nat} {s j x : Nat} (h : (comeL W s)[j]? = some x) (t : Nat) : lf W o s (j + 1) t = if t = x then cnt W (o ++ [s]) x else lf W o s j t := by
  by_cases e : t = x
  · subst e
    rw [if_pos rfl]
    unfold lf
    rw [if_pos ((take_succ_mem h).mpr (.inr rfl))]
  · rw [if_neg e]
    unfold lf
    by_cases hm : t ∈ (comeL W s).take j
    · rw [if_pos hm, if_pos ((take_succ_mem h).mpr (.inl hm))]
    · rw [if_neg hm, if_neg fun z => ((take_succ_mem h).mp z).elim hm e]
theorem lf_at {W : List (List Nat)} {o : List Nat} {s j x : Nat} (h : (comeL W s)[j]? = some x) : lf W o s j x = cnt W o x := by
  unfold lf
  rw [if_neg (not_take (nodup_comeL W s) h)]
theorem lf_all {W : List (List Nat)} (F : Form W) {o : List Nat} {s : Nat} (hs : s ∉ o) (t : Nat) (ht : t < W.length) : lf W o s (comeL W s).length t = cnt W (o ++ [s]) t := by
  unfold lf
  rw [List.take_length]
  split
  · rfl
  · rename_i hm
    have := cnt_snoc F hs t
    rw [if_neg (fun z => hm (mem_comeL.mpr ⟨ht, z⟩))] at this
    omega
theorem take_filter {l : List Nat} {j x : Nat} (h : l[j]? = some x) (f : Nat → Bool) : (l.take (j + 1)).filter f = (l.take j).filter f ++ if f x = true then [x] else [] := by
  rw [List.take_add_one, h, List.filter_append]
  show _ ++ [x].filter f = _
  rw [List.filter_cons]
  split <;> rfl
def sp_play_order (K : PySem.W.Frag) : Sp := fun vs H Q _ => ∃ (a : Addr) (W : List (List Nat)), vs = [.ref a] ∧ Web H a W ∧ Form W ∧ ∀ (o : List Nat) (p : Addr) (H' : Hp), PO W o → H p = none → Same H H' → H' p = some (.lst (nvs o)) → Q (.ref p) H'
/-- slots: 0 web, 1 left, 2 coming, 3 at, 4 spot, 5 other, 6 order, 7 waiting -/
def N_play_order : List Str := ["web", "left", "coming", "at", "spot", "other", "order", "waiting"]
def t_play_order (K : PySem.W.Frag) : TS :=
    tSeq (tAsg (tLc (iList K (tVar 0)) (gName 4) (tYes) (tCB (rLen K) (tCons (tVar 4) (tNil))) [4]) (gName 1))
    (tSeq (tAsg (tLc (iList K (tVar 0)) (gName 4) (tYes) (tLst (tNil)) [4]) (gName 2))
    (tSeq (tFor (iEnum K (tCons (tVar 0) (tNil))) (gTup K 2 (gCons (gName 3) (gCons (gName 4) (gNil)))) (tFor (iList K (tVar 4)) (gName 5) (tDrop (tBM K "list" rAppend (tOp (rIxL K) (tVar 2) (tVar 5)) (tCons (tVar 3) (tNil))))))
    (tSeq (tAsg (tLst (tNil)) (gName 6))
    (tSeq (tAsg (tLc (iRng1 (tCons (tCB (rLen K) (tCons (tVar 0) (tNil))) (tNil))) (gName 3) (tTest (tOp rEq (tOp (rIxL K) (tVar 1) (tVar 3)) (tC (.int 0)))) (tVar 3) [3]) (gName 7))
    (tSeq (tWhile (tTest (tOp rGt (tCB (rLen K) (tCons (tVar 7) (tNil))) (tC (.int 0)))) (tSeq (tAsg (tBM0 K "list" rPop (tVar 7)) (gName 4))
    (tSeq (tDrop (tBM K "list" rAppend (tVar 6) (tCons (tVar 4) (tNil))))
    (tFor (iList K (tOp (rIxL K) (tVar 2) (tVar 4))) (gName 3) (tSeq (tAsg (tOp rSub (tOp (rIxL K) (tVar 1) (tVar 3)) (tC (.int 1))) (gSub (tVar 1) (tVar 3) rSetL))
    (tIfS (tTest (tOp rEq (tOp (rIxL K) (tVar 1) (tVar 3)) (tC (.int 0)))) (tDrop (tBM K "list" rAppend (tVar 7) (tCons (tVar 3) (tNil)))) (tNext)))))))
    (tRet (tVar 6)))))))
theorem r_play_order {K : PySem.W.Frag} (vs : List V) (H : Hp) (Q : VK) (E : XK) (h : sp_play_order K vs H Q E) : t_play_order K { nx := fun _ H' => Q .non H', rt := Q } (start N_play_order vs) H := by
  obtain ⟨a, W, rfl, ⟨q, l⟩, F, k⟩ := h
  have hpos := F.pos
  have hle := F.le
  have hrl : (List.range W.length).length ≤ 40000 := by rw [List.length_range]; omega
  -- left
  refine ⟨.ref a, rfl, a, rfl, ⟨_, .of l.top⟩, lcL (List.range W.length) (fun i => V.ref (q i)) (fun _ => true) (fun i => nv (cnt W [] i)) (.of l.top) hrl (fun i hi H1 Qy Qf s1 hy _ => ?_) (fun lA H1 nl s1 hl => ?_)⟩
  · have hi2 := List.mem_range.mp hi
    refine ⟨.ref (q i), rfl, q i, _, rfl, .inl (.of (s1 _ _ (l.at_ i hi2))), ?_⟩
    rw [nvs_length, ← cnt_nil]
    exact hy rfl H1 (Same.refl _)
  rw [List.filter_eq_self.mpr (fun _ _ => rfl)] at hl
  -- coming
  refine ⟨.ref a, rfl, a, rfl, ⟨_, .of (s1 _ _ l.top)⟩, lcLN (List.range W.length) (fun i => V.ref (q i)) (fun _ => []) (.of (s1 _ _ l.top)) hrl (fun i hi H2 Qy s2 hy => ⟨Nat.zero_le _, fun p np => hy p _ np (same_new np) upd_same⟩) (fun cA H2 s2 hc => ?_)⟩
  obtain ⟨cq, C⟩ := hc.own
  have s02 := s1.trans s2
  have hl2 := s2 _ _ hl
  have lc : lA ≠ cA := ne_of_none hl C.na
  have lcq : ∀ i < W.length, lA ≠ cq i := fun i hi => ne_of_none hl (C.nq i hi)
  -- for at, spot in enumerate(web): for other in spot
  refine ⟨.ref a, rfl, a, _, rfl, .of (s02 _ _ l.top), for_it (walk_enum (xs := refs W.length q)) (fun i σ H3 => ∃ (y3 y4 y5 : Option V), σ = [some (.ref a), some (.ref lA), some (.ref cA), y3, y4, y5, none, none] ∧ Same H H3 ∧ H3 lA = some (.lst ((List.range W.length).map fun i => nv (cnt W [] i))) ∧ Own H1 H3 cA W.length cq (fun o => nvs (cm W i 0 o)))
    ⟨none, none, none, rfl, s02, hl2, C.congr fun i _ => by rw [cm_zero]; rfl⟩ (fun i σ H3 hi hP => ?_) (fun i x σ H3 H3' hi hP hY => ?_) (fun σ H3 hP => ?_)⟩
  · obtain ⟨_, _, _, _, s3, _⟩ := hP
    exact .of (s3 _ _ l.top)
  · obtain ⟨y3, y4, y5, rfl, s3, hl3, C3⟩ := hP
    obtain ⟨T, x1, x2, rfl, nT, rfl, e1, e2⟩ := hY
    rw [refs_len] at hi
    have e1' : V.int (i : Nat) = x1 := Option.some.inj e1
    have e2' : V.ref (q i) = x2 := Option.some.inj ((refs_get hi).symm.trans e2)
    subst e1' e2'
    refine ⟨T, _, rfl, .of upd_same, rfl, _, _, rfl, _, _, rfl, rfl, ?_⟩
    have sT : Same H (upd H3 T (.tup [V.int (i : Nat), V.ref (q i)])) := s3.new nT
    have hlT := (same_new (o := .tup [V.int (i : Nat), V.ref (q i)]) nT) _ _ hl3
    have CT := C3.same (same_new (o := .tup [V.int (i : Nat), V.ref (q i)]) nT)
    generalize upd H3 T (.tup [V.int (i : Nat), V.ref (q i)]) = H4 at sT hlT CT
    have hq4 : H4 (q i) = some (.lst (wrow W i)) := sT _ _ (l.at_ i hi)
    refine ⟨.ref (q i), rfl, q i, rfl, ⟨_, .of hq4⟩, for_list (xs := wrow W i) (fun j σ H5 => ∃ y5 : Option V, σ = [some (.ref a), some (.ref lA), some (.ref cA), some (nv i), some (.ref (q i)), y5, none, none] ∧ Same H H5 ∧ H5 lA = some (.lst ((List.range W.length).map fun i => nv (cnt W [] i))) ∧ Own H1 H5 cA W.length cq (fun o => nvs (cm W i j o)))
      ⟨y5, rfl, sT, hlT, CT⟩ (fun j σ H5 _ hP => ?_) (fun j x σ H5 hx hP => ?_) (fun σ H5 hP => ?_)⟩
    · obtain ⟨_, _, s5, _⟩ := hP
      exact .of (s5 _ _ (l.at_ i hi))
    · obtain ⟨y5, rfl, s5, hl5, C5⟩ := hP
      obtain ⟨x0, hx0, rfl⟩ : ∃ x0, (row W i)[j]? = some x0 ∧ nv x0 = x := by
        unfold wrow nvs at hx
        rw [List.getElem?_map] at hx
        cases e : (row W i)[j]? with
        | none => rw [e] at hx; cases hx
        | some x0 => rw [e] at hx; exact ⟨x0, rfl, Option.some.inj hx⟩
      have hlt := F.lt i x0 (List.mem_of_getElem? hx0)
      have hcx := C5.ll.at_ x0 hlt
      refine ⟨.ref cA, rfl, nv x0, rfl, cA, _, (x0 : Int), _, rfl, rfl, .of C5.ll.top, refs_at hlt, .inl ⟨rfl, _, .of hcx⟩, nv i, rfl, cq x0, _, _, rfl, rfl, hcx, ?_, ?_⟩
      · rw [nvs_length]
        have := cm_len (W := W) (i := i) (j := j) (o := x0)
        exact line_lt (by omega)
      · refine ⟨some (nv x0), rfl, fun b o e => ?_, ?_, ?_⟩
        · rw [upd_ne (ne_of_none e (s1.free (C5.nq x0 hlt)))]
          exact s5 b o e
        · rw [upd_ne (lcq x0 hlt)]
          exact hl5
        · refine (C5.set hlt _).congr fun o _ => ?_
          rw [cm_turn (F.nd i) hx0]
          by_cases e : o = x0
          · rw [if_pos e, if_pos e, nvs_append]
            rfl
          · rw [if_neg e, if_neg e]
    · obtain ⟨y5, rfl, s5, hl5, C5⟩ := hP
      rw [nvs_length] at C5
      exact ⟨_, _, y5, rfl, s5, hl5, C5.congr fun o _ => by rw [cm_next]⟩
  · obtain ⟨y3, y4, y5, rfl, s3, hl3, C3⟩ := hP
    rw [refs_len] at C3
    have C3' : Own H1 H3 cA W.length cq (fun o => nvs (comeL W o)) := C3.congr fun o _ => by rw [cm_zero]; rfl
    -- order = []
    refine ⟨Nat.zero_le _, fun oA no => ?_⟩
    have lo : lA ≠ oA := ne_of_none hl3 no
    have co : cA ≠ oA := ne_of_none C3'.ll.top no
    have cqo : ∀ i < W.length, oA ≠ cq i := fun i hi => (ne_of_none (C3'.ll.at_ i hi) no).symm
    have noH := s3.free no
    have s4 : Same H3 (upd H3 oA (.lst [])) := same_new no
    have ho4 : (upd H3 oA (.lst [])) oA = some (.lst []) := upd_same
    generalize upd H3 oA (.lst []) = H4 at s4 ho4
    have hl4 := s4 _ _ hl3
    have C4 := C3'.same s4
    have sH4 := s3.trans s4
    -- waiting
    refine ⟨.ref a, rfl, a, _, rfl, .inl (.of (sH4 _ _ l.top)), _, rfl, by omega, by rw [refs_len]; omega, ?_⟩
    rw [refs_len]
    refine lcR (n := W.length) (fun i => decide ((row W i).length = 0)) nv (by omega) (fun i hi H5 Qy Qf s5 hy hf => ?_) (fun wA H5 nw s5 hw => ?_)
    · have hgl : atI ((List.range W.length).map fun i => nv (cnt W [] i)) (i : Int) = some (nv (cnt W [] i)) := atI_nat (by rw [List.getElem?_map, List.getElem?_range hi]; rfl)
      refine ⟨.ref lA, rfl, nv i, rfl, lA, _, _, _, rfl, rfl, .of (s5 _ _ hl4), hgl, rfl, _, rfl, ?_⟩
      rw [cnt_nil]
      refine ite2 (fun c => ?_) (fun c => ?_)
      · have c2 : (row W i).length = 0 := nv_inj (of_decide_eq_true c)
        exact ⟨nv i, rfl, hy (decide_eq_true c2) H5 (Same.refl _)⟩
      · have c2 : ¬ (row W i).length = 0 := fun z => c (decide_eq_true (by rw [z]; rfl))
        exact hf (decide_eq_false c2) H5 (Same.refl _)
    have wo : wA ≠ oA := (ne_of_none ho4 nw).symm
    have wl : wA ≠ lA := (ne_of_none hl4 nw).symm
    have wc : wA ≠ cA := (ne_of_none C4.ll.top nw).symm
    have wcq : ∀ i < W.length, wA ≠ cq i := fun i hi => (ne_of_none (C4.ll.at_ i hi) nw).symm
    have nwH := sH4.free nw
    have nlH : H lA = none := nl
    -- the loop
    refine ⟨fun m σ H6 => ∃ (o w : List Nat) (y3 y4 : Option V), σ = [some (.ref a), some (.ref lA), some (.ref cA), y3, y4, y5, some (.ref oA), some (.ref wA)] ∧ m = W.length - o.length ∧ Same H H6 ∧ H6 lA = some (.lst ((List.range W.length).map fun i => nv (cnt W o i))) ∧ LL H6 cA W.length cq (fun o => nvs (comeL W o)) ∧ H6 oA = some (.lst (nvs o)) ∧ H6 wA = some (.lst (nvs w)) ∧ PInv W o w,
      ⟨W.length, [], _, y3, y4, rfl, by simp, sH4.trans s5, s5 _ _ hl4, (C4.same s5).ll, s5 _ _ ho4, hw, PInv.start W⟩, fun m σ H6 hW => ?_⟩
    obtain ⟨o, w, z3, z4, rfl, em, s6, hl6, C6, ho6, hw6, I6⟩ := hW
    refine ⟨.ref wA, rfl, wA, _, rfl, .inl (.of hw6), _, 0, rfl, rfl, _, rfl, ite2 (fun c => ?_) (fun c => ?_)⟩
    · have hne : w ≠ [] := fun e => by
        subst e
        exact absurd c (by decide)
      obtain ⟨w', s, rfl⟩ : ∃ w' s, w = w' ++ [s] := ⟨w.dropLast, w.getLast hne, (List.dropLast_concat_getLast hne).symm⟩
      have ndo := (List.nodup_append.mp I6.nd).1
      have hso : s ∉ o := fun hm => (List.nodup_append.mp I6.nd).2.2 s hm s (List.mem_append_right _ (List.mem_cons_self ..)) rfl
      have hs : s < W.length := I6.lt s (List.mem_append_right _ (List.mem_append_right _ (List.mem_cons_self ..)))
      have I7 := I6.turn F
      have holt : (o ++ [s]).length ≤ W.length := nodup_len _ _ (List.nodup_append.mp I7.nd).1 fun x hx => I7.lt x (List.mem_append_left _ hx)
      rw [List.length_append] at holt
      have holt2 : o.length + 1 ≤ W.length := holt
      refine ⟨fun σ' H' => ∃ (w : List Nat) (y3 y4 : Option V), σ' = [some (.ref a), some (.ref lA), some (.ref cA), y3, y4, y5, some (.ref oA), some (.ref wA)] ∧ Same H H' ∧ H' lA = some (.lst ((List.range W.length).map fun i => nv (cnt W (o ++ [s]) i))) ∧ LL H' cA W.length cq (fun o => nvs (comeL W o)) ∧ H' oA = some (.lst (nvs (o ++ [s]))) ∧ H' wA = some (.lst (nvs w)) ∧ PInv W (o ++ [s]) w,
        fun σ' H' hN => ?_, ?_⟩
      · obtain ⟨w2, z3, z4, e1, e2, e3, e4, e5, e6, e7⟩ := hN
        exact ⟨W.length - (o ++ [s]).length, by rw [List.length_append]; show _ - (o.length + 1) < _; omega, o ++ [s], w2, z3, z4, e1, rfl, e2, e3, e4, e5, e6, e7⟩
      -- spot = waiting.pop()
      refine ⟨.ref wA, rfl, .inl ⟨rfl, _, .of hw6⟩, wA, _, nv s, rfl, rfl, hw6, ?_, ?_⟩
      · rw [nvs_append, List.length_append, List.getElem?_append_right (by show _ ≤ (nvs w').length + 1 - 1; omega)]
        show [nv s][(nvs w').length + 1 - 1 - (nvs w').length]? = _
        rw [show (nvs w').length + 1 - 1 - (nvs w').length = 0 by omega]
        rfl
      have edl : (nvs (w' ++ [s])).dropLast = nvs w' := by rw [nvs_append]; exact List.dropLast_concat
      rw [edl]
      -- order.append(spot)
      have ho7 : (upd H6 wA (.lst (nvs w'))) oA = some (.lst (nvs o)) := by rw [upd_ne wo.symm]; exact ho6
      refine ⟨.ref oA, rfl, .inl ⟨rfl, _, .of ho7⟩, nv s, rfl, oA, _, _, rfl, rfl, ho7, by rw [nvs_length]; exact line_lt (by omega), ?_⟩
      have s8 : Same H (upd (upd H6 wA (.lst (nvs w'))) oA (.lst (nvs o ++ [nv s]))) := (s6.mut nwH).mut noH
      have hl8 : (upd (upd H6 wA (.lst (nvs w'))) oA (.lst (nvs o ++ [nv s]))) lA = some (.lst ((List.range W.length).map fun i => nv (lf W o s 0 i))) := by
        rw [upd_ne lo, upd_ne wl.symm, hl6]
        simp only [lf_zero]
      have C8 : LL (upd (upd H6 wA (.lst (nvs w'))) oA (.lst (nvs o ++ [nv s]))) cA W.length cq (fun o => nvs (comeL W o)) := (C6.other wc wcq).other co.symm cqo
      have ho8 : (upd (upd H6 wA (.lst (nvs w'))) oA (.lst (nvs o ++ [nv s]))) oA = some (.lst (nvs (o ++ [s]))) := by rw [upd_same, nvs_append]; rfl
      have hw8 : (upd (upd H6 wA (.lst (nvs w'))) oA (.lst (nvs o ++ [nv s]))) wA = some (.lst (nvs (w' ++ ((comeL W s).take 0).filter fun t => decide (cnt W (o ++ [s]) t = 0)))) := by
        rw [upd_ne wo, upd_same]
        show _ = some (HO.lst (nvs (w' ++ [])))
        rw [List.append_nil]
      generalize upd (upd H6 wA (.lst (nvs w'))) oA (.lst (nvs o ++ [nv s])) = H8 at s8 hl8 C8 ho8 hw8
      -- for at in coming[spot]
      have hcs := C8.at_ s hs
      refine ⟨.ref cA, rfl, nv s, rfl, cA, _, (s : Int), _, rfl, rfl, .of C8.top, refs_at hs, cq s, rfl, ⟨_, .of hcs⟩, for_list (xs := nvs (comeL W s)) (fun j σ H9 => ∃ (y3 : Option V), σ = [some (.ref a), some (.ref lA), some (.ref cA), y3, some (nv s), y5, some (.ref oA), some (.ref wA)] ∧ Same H H9 ∧ H9 lA = some (.lst ((List.range W.length).map fun i => nv (lf W o s j i))) ∧ LL H9 cA W.length cq (fun o => nvs (comeL W o)) ∧ H9 oA = some (.lst (nvs (o ++ [s]))) ∧ H9 wA = some (.lst (nvs (w' ++ ((comeL W s).take j).filter fun t => decide (cnt W (o ++ [s]) t = 0)))))
        ⟨z3, rfl, s8, hl8, C8, ho8, hw8⟩ (fun j σ H9 _ hP => ?_) (fun j x σ H9 hx hP => ?_) (fun σ H9 hP => ?_)⟩
      · obtain ⟨_, _, _, _, C9, _⟩ := hP
        exact .of (C9.at_ s hs)
      · obtain ⟨y3, rfl, s9, hl9, C9, ho9, hw9⟩ := hP
        obtain ⟨t, ht, rfl⟩ : ∃ t, (comeL W s)[j]? = some t ∧ nv t = x := by
          unfold nvs at hx
          rw [List.getElem?_map] at hx
          cases e : (comeL W s)[j]? with
          | none => rw [e] at hx; cases hx
          | some x0 => rw [e] at hx; exact ⟨x0, rfl, Option.some.inj hx⟩
        have htm := mem_comeL.mp (List.mem_of_getElem? ht)
        have hcn := cnt_snoc F hso t
        rw [if_pos htm.2] at hcn
        have hget : atI ((List.range W.length).map fun i => nv (lf W o s j i)) (t : Int) = some (nv (lf W o s j t)) := atI_nat (by rw [List.getElem?_map, List.getElem?_range htm.1]; rfl)
        -- left[at] = left[at] - 1
        refine ⟨.ref lA, rfl, nv t, rfl, lA, _, (t : Int), _, rfl, rfl, .of hl9, hget, _, 1, rfl, rfl, .ref lA, rfl, nv t, rfl, lA, _, (t : Int), t, rfl, rfl, hl9, ?_, ?_⟩
        · unfold ixN
          rw [if_pos (by omega), if_pos (by rw [List.length_map, List.length_range]; omega), Int.toNat_natCast]
        have e1 : V.int ((lf W o s j t : Int) - 1) = nv (cnt W (o ++ [s]) t) := by
          rw [lf_at ht]
          exact congrArg V.int (by omega)
        dsimp only
        rw [e1, map_range_set]
        have e2 : ((List.range W.length).map fun i => if i = t then nv (cnt W (o ++ [s]) t) else nv (lf W o s j i)) = (List.range W.length).map fun i => nv (lf W o s (j + 1) i) := by
          refine List.map_congr_left fun i _ => ?_
          rw [lf_turn ht]
          split <;> rfl
        rw [e2]
        have hl10 : (upd H9 lA (.lst ((List.range W.length).map fun i => nv (lf W o s (j + 1) i)))) lA = some (.lst ((List.range W.length).map fun i => nv (lf W o s (j + 1) i))) := upd_same
        have s10 := s9.mut (o := .lst ((List.range W.length).map fun i => nv (lf W o s (j + 1) i))) nlH
        have C10 := C9.other (o := .lst ((List.range W.length).map fun i => nv (lf W o s (j + 1) i))) lc lcq
        have ho10 : (upd H9 lA (.lst ((List.range W.length).map fun i => nv (lf W o s (j + 1) i)))) oA = _ := (upd_ne lo.symm).trans ho9
        have hw10 : (upd H9 lA (.lst ((List.range W.length).map fun i => nv (lf W o s (j + 1) i)))) wA = _ := (upd_ne wl).trans hw9
        generalize upd H9 lA (.lst ((List.range W.length).map fun i => nv (lf W o s (j + 1) i))) = H10 at hl10 s10 C10 ho10 hw10
        have hget2 : atI ((List.range W.length).map fun i => nv (lf W o s (j + 1) i)) (t : Int) = some (nv (lf W o s (j + 1) t)) := atI_nat (by rw [List.getElem?_map, List.getElem?_range htm.1]; rfl)
        -- if left[at] == 0
        refine ⟨.ref lA, rfl, nv t, rfl, lA, _, (t : Int), _, rfl, rfl, .of hl10, hget2, rfl, _, rfl, ?_⟩
        have e3 : lf W o s (j + 1) t = cnt W (o ++ [s]) t := by rw [lf_turn ht, if_pos rfl]
        rw [e3]
        have e4 := take_filter ht fun t => decide (cnt W (o ++ [s]) t = 0)
        refine ite2 (fun c => ?_) (fun c => ?_)
        · have c2 : cnt W (o ++ [s]) t = 0 := nv_inj (of_decide_eq_true c)
          rw [if_pos (decide_eq_true c2)] at e4
          refine ⟨.ref wA, rfl, .inl ⟨rfl, _, .of hw10⟩, nv t, rfl, wA, _, _, rfl, rfl, hw10, ?_, some (nv t), rfl, s10.mut nwH, ?_, C10.other wc wcq, ?_, ?_⟩
          · rw [nvs_length, List.length_append]
            have h1 := List.length_filter_le (fun t => decide (cnt W (o ++ [s]) t = 0)) ((comeL W s).take j)
            have h2 : ((comeL W s).take j).length ≤ W.length := by
              rw [List.length_take]
              have := nodup_len _ _ (nodup_comeL W s) fun x hx => (mem_comeL.mp hx).1
              omega
            have h3 : w'.length ≤ W.length := nodup_len _ _ (List.nodup_append.mp (List.nodup_append.mp I6.nd).2.1).1 fun x hx => I6.lt x (List.mem_append_right _ (List.mem_append_left _ hx))
            exact line_lt (by omega)
          · rw [upd_ne wl.symm]
            exact hl10
          · rw [upd_ne wo.symm]
            exact ho10
          · rw [upd_same, e4, ← List.append_assoc, nvs_append (w' ++ _)]
            rfl
        · have c2 : ¬ cnt W (o ++ [s]) t = 0 := fun z => c (decide_eq_true (by rw [z]; rfl))
          rw [if_neg (by simpa using c2), List.append_nil] at e4
          refine ⟨some (nv t), rfl, s10, hl10, C10, ho10, ?_⟩
          rw [e4]
          exact hw10
      · obtain ⟨y3, rfl, s9, hl9, C9, ho9, hw9⟩ := hP
        rw [nvs_length] at hl9 hw9
        rw [List.take_length] at hw9
        refine ⟨_, y3, some (nv s), rfl, s9, ?_, C9, ho9, hw9, I7⟩
        rw [hl9]
        congr 2
        exact List.map_congr_left fun i hi => by rw [lf_all F hso i (List.mem_range.mp hi)]
    · have h0 : w = [] := by
        cases w with
        | nil => rfl
        | cons x t => exact absurd (decide_eq_true (by rw [nvs_length, List.length_cons]; omega)) c
      subst h0
      exact ⟨.ref oA, rfl, k o oA H6 I6.stop noH s6 ho6⟩
/-! ### need_game: of webs without rings -/
end Sp

namespace Sp
open PySem PySem.Spec PyProof.Rows L2
/-! ### least_missing, numbers_of -/
def sp_least_missing (K : PySem.W.Frag) : Sp := fun vs H Q _ => ∃ (a : Addr) (xs : List Nat), vs = [.ref a] ∧ SqL K H a (nvs xs) ∧ Q (nv (mex xs)) H
/-- slots: 0 numbers, 1 found -/
def N_least_missing : List Str := ["numbers", "found"]
def t_least_missing (K : PySem.W.Frag) : TS :=
    tSeq (tAsg (tC (.int 0)) (gName 1))
    (tSeq (tWhile (tTest (tOp (rIn K false) (tVar 1) (tVar 0))) (tAsg (tOp rAdd (tVar 1) (tC (.int 1))) (gName 1)))
    (tRet (tVar 1)))
theorem r_least_missing {K : PySem.W.Frag} (vs : List V) (H : Hp) (Q : VK) (E : XK) (h : sp_least_missing K vs H Q E) : t_least_missing K { nx := fun _ H' => Q .non H', rt := Q } (start N_least_missing vs) H := by
  obtain ⟨a, xs, rfl, hs, q⟩ := h
  refine ⟨fun m σ H1 => ∃ f : Nat, σ = [some (.ref a), some (nv f)] ∧ H1 = H ∧ m = xs.length + 1 - f ∧ ∀ j < f, j ∈ xs, ⟨xs.length + 1, 0, rfl, rfl, by simp, fun j hj => absurd hj (Nat.not_lt_zero j)⟩, fun m σ H1 hW => ?_⟩
  obtain ⟨f, rfl, rfl, em, hf⟩ := hW
  refine ⟨nv f, rfl, .ref a, rfl, a, _, rfl, .inl hs, rfl, flat_nvs xs, decide (f ∈ xs), congrArg V.bl (inV_nv f xs), ite2 (fun c => ?_) (fun c => ?_)⟩
  · have c2 := of_decide_eq_true c
    have hle := range_le (f + 1) xs fun x hx => by
      by_cases e : x = f
      · exact e ▸ c2
      · exact hf x (by omega)
    refine ⟨fun σ' H' => σ' = [some (.ref a), some (nv (f + 1))] ∧ H' = H1, fun σ' H' hN => ⟨xs.length + 1 - (f + 1), by omega, f + 1, hN.1, hN.2, rfl, fun j hj => ?_⟩, nv f, rfl, _, 1, rfl, rfl, rfl, rfl⟩
    by_cases e : j = f
    · exact e ▸ c2
    · exact hf j (by omega)
  · refine ⟨nv f, rfl, ?_⟩
    have e : f = mex xs := IsMex.uniq ⟨fun z => c (decide_eq_true z), hf⟩ (mex_is xs)
    rw [e]
    exact q
theorem flat_rep (n : Nat) (v : V) : (List.replicate n [v]).flatten = List.replicate n v := by
  induction n with
  | zero => rfl
  | succ n ih =>
    rw [List.replicate_succ, List.flatten_cons, ih]
    rfl
theorem nvs_rep (n k : Nat) : nvs (List.replicate n k) = List.replicate n (nv k) := List.map_replicate
theorem nvs_set (l : List Nat) (i v : Nat) : (nvs l).set i (nv v) = nvs (l.set i v) := List.map_set.symm
theorem at_getD {l : List Nat} {t : Nat} (h : t < l.length) : atI (nvs l) (t : Int) = some (nv (l.getD t 0)) := nvs_at (by rw [List.getD_eq_getElem?_getD, List.getElem?_eq_getElem h]; rfl)
theorem ix_at {n s : Nat} (h : s < n) : ixN n (s : Int) = some s := by
  unfold ixN
  rw [if_pos (by omega), if_pos (by omega), Int.toNat_natCast]
theorem nvs_item {l : List Nat} {i : Nat} {x : V} (h : (nvs l)[i]? = some x) : ∃ n, l[i]? = some n ∧ nv n = x := by
  unfold nvs at h
  rw [List.getElem?_map] at h
  cases e : l[i]? with
  | none => rw [e] at h; cases h
  | some n => rw [e] at h; exact ⟨n, rfl, Option.some.inj h⟩
end Sp

namespace Sp
open PySem PySem.Spec PyProof.Rows L2
/-! ### rows: need_row, row_number, is_lost -/
structure RowOk (W : List (List Nat)) (R : List Nat) : Prop where
  len : R.length ≤ 24
  lt : ∀ x ∈ R, x < W.length
theorem g_lt {W : List (List Nat)} {g : List Nat} (G : Good W) (hg : IsF mex W g) (s : Nat) : g.getD s 0 ≤ 200 := by
  by_cases hs : s < W.length
  · rw [hg.at_ s hs]
    have h1 := mex_le (vals g (row W s))
    rw [vals_length] at h1
    have := G.1.row_len s
    omega
  · rw [List.getD_eq_getElem?_getD, List.getElem?_eq_none (by rw [hg.len]; omega)]
    exact Nat.zero_le _
theorem big200 {n : Nat} (h : n ≤ 200) : n < 2 ^ 400 := Nat.lt_of_le_of_lt h (by decide +kernel)
theorem vals_lt {W : List (List Nat)} {g : List Nat} (G : Good W) (hg : IsF mex W g) (R : List Nat) : ∀ x ∈ vals g R, x < 2 ^ 400 := fun x hx => by
  obtain ⟨t, _, e⟩ := List.mem_map.mp hx
  rw [← e]
  exact big200 (g_lt G hg t)
theorem dec_nv (a b : Nat) : decide (nv a = nv b) = decide (a = b) := by
  rw [Bool.eq_iff_iff, decide_eq_true_iff, decide_eq_true_iff]
  exact ⟨nv_inj, fun e => by rw [e]⟩
end Sp

namespace Sp
open PySem PySem.Spec PyProof.Rows L2
/-! ### moves -/
def mvsA (W : List (List Nat)) (R : List Nat) (i : Nat) : List (Nat × Nat) := ((List.range W.length).filter fun x => decide (x ∈ row W (R.getD i 0))).map fun x => (i, x)
def mvs (W : List (List Nat)) (R : List Nat) : List (Nat × Nat) := (List.range R.length).flatMap (mvsA W R)
theorem mem_mvs {W : List (List Nat)} {R : List Nat} (F : Form W) {m : Nat × Nat} : m ∈ mvs W R ↔ m.1 < R.length ∧ m.2 ∈ row W (R.getD m.1 0) := by
  unfold mvs mvsA
  rw [List.mem_flatMap]
  constructor
  · rintro ⟨i, hi, h⟩
    obtain ⟨x, hx, rfl⟩ := List.mem_map.mp h
    exact ⟨List.mem_range.mp hi, of_decide_eq_true (List.mem_filter.mp hx).2⟩
  · rintro ⟨h1, h2⟩
    exact ⟨m.1, List.mem_range.mpr h1, List.mem_map.mpr ⟨m.2, List.mem_filter.mpr ⟨List.mem_range.mpr (F.lt _ _ h2), decide_eq_true h2⟩, rfl⟩⟩
theorem flat_step {α : Type} (f : Nat → List α) (i : Nat) : (List.range (i + 1)).flatMap f = (List.range i).flatMap f ++ f i := by
  rw [List.range_succ, List.flatMap_append]
  congr 1
  show f i ++ [] = f i
  rw [List.append_nil]
theorem mvsA_len {W : List (List Nat)} (F : Form W) (R : List Nat) (i : Nat) : (mvsA W R i).length ≤ 200 := by
  rw [mvsA, List.length_map]
  have := List.length_filter_le (fun x => decide (x ∈ row W (R.getD i 0))) (List.range W.length)
  rw [List.length_range] at this
  have := F.le
  omega
theorem mvsTo_len {W : List (List Nat)} (F : Form W) (R : List Nat) : ∀ i, ((List.range i).flatMap (mvsA W R)).length ≤ 200 * i
  | 0 => Nat.le_refl _
  | i + 1 => by
    rw [flat_step, List.length_append]
    have := mvsTo_len F R i
    have := mvsA_len F R i
    omega
/-- the sorted row -/
theorem sorted_row {W : List (List Nat)} (F : Form W) {s : Nat} {S : List Nat} (h : S.Perm (row W s)) (hp : S.Pairwise (· ≤ ·)) : S = (List.range W.length).filter fun x => decide (x ∈ row W s) := by
  refine List.Perm.eq_of_pairwise (le := (· ≤ ·)) (fun a b _ _ h1 h2 => Nat.le_antisymm h1 h2) hp ((List.pairwise_lt_range.imp fun h => Nat.le_of_lt h).filter _) ?_
  refine h.trans ((List.perm_ext_iff_of_nodup (F.nd s) (List.nodup_range.filter _)).mpr fun x => ?_)
  rw [List.mem_filter, List.mem_range, decide_eq_true_iff]
  exact ⟨fun h => ⟨F.lt s x h, h⟩, fun h => h.2⟩
/-- a list of moves, tuples of two numbers -/
def Mvs (H : Hp) (a : Addr) (ms : List (Nat × Nat)) : Prop := ∃ zs : List (Addr × Nat × Nat), H a = some (.lst (zs.map fun z => V.ref z.1)) ∧ zs.map (·.2) = ms ∧ ∀ z ∈ zs, H z.1 = some (.tup [nv z.2.1, nv z.2.2])
theorem Mvs.same {H H1 : Hp} {a : Addr} {ms : List (Nat × Nat)} (m : Mvs H a ms) (s : Same H H1) : Mvs H1 a ms := let ⟨zs, h1, h2, h3⟩ := m; ⟨zs, s _ _ h1, h2, fun z hz => s _ _ (h3 z hz)⟩
theorem Mvs.nil {H : Hp} {a : Addr} (h : H a = some (.lst [])) : Mvs H a [] := ⟨[], h, rfl, fun z hz => by cases hz⟩
theorem Mvs.get {H : Hp} {a : Addr} {ms : List (Nat × Nat)} (m : Mvs H a ms) : ∃ xs : List V, H a = some (.lst xs) ∧ xs.length = ms.length ∧ ∀ (i : Nat) (k : Nat × Nat), ms[i]? = some k → ∃ p, xs[i]? = some (.ref p) ∧ H p = some (.tup [nv k.1, nv k.2]) := by
  obtain ⟨zs, h1, rfl, h3⟩ := m
  refine ⟨_, h1, by rw [List.length_map, List.length_map], fun i k h => ?_⟩
  rw [List.getElem?_map] at h
  cases e : zs[i]? with
  | none => rw [e] at h; cases h
  | some z =>
    rw [e] at h
    have ez : z.2 = k := Option.some.inj h
    subst ez
    exact ⟨z.1, by rw [List.getElem?_map, e]; rfl, h3 z (List.mem_of_getElem? e)⟩
theorem Mvs.grow {H : Hp} {a : Addr} {ms : List (Nat × Nat)} (m : Mvs H a ms) : ∃ xs, H a = some (.lst xs) ∧ xs.length = ms.length ∧
    ∀ (H1 : Hp) (p : Addr) (k : Nat × Nat), Same H H1 → H1 p = some (.tup [nv k.1, nv k.2]) → Mvs (upd H1 a (.lst (xs ++ [.ref p]))) a (ms ++ [k]) := by
  obtain ⟨zs, h1, rfl, h3⟩ := m
  refine ⟨_, h1, by rw [List.length_map, List.length_map], fun H1 p k s hp => ⟨zs ++ [(p, k)], ?_, ?_, fun z hz => ?_⟩⟩
  · rw [upd_same, List.map_append]
    rfl
  · rw [List.map_append]
    rfl
  · have key : ∀ (b : Addr) (k : Nat × Nat), H1 b = some (.tup [nv k.1, nv k.2]) → upd H1 a (.lst (zs.map (fun z => V.ref z.1) ++ [.ref p])) b = some (.tup [nv k.1, nv k.2]) := fun b k hb => by
      have ne : b ≠ a := fun e => by
        rw [e, s _ _ h1] at hb
        cases hb
      rw [upd_ne ne]
      exact hb
    rcases List.mem_append.mp hz with h | h
    · exact key _ _ (s _ _ (h3 z h))
    · rw [List.mem_singleton.mp h]
      exact key _ _ hp
/-! data -/
def dMv (m : Nat × Nat) : PyData := .tuple ([m.1, m.2].map fun n : Nat => .int (n : Int))
def dMvs (ms : List (Nat × Nat)) : PyData := .list (ms.map dMv)
theorem flt_mvs (ms : List (Nat × Nat)) : Flt 3 (dMvs ms) := flt_list _ ms fun m _ => flt_tup _ _ fun n _ => flt_int n
theorem sh_mvs (ms : List (Nat × Nat)) : SeqAt.shaped (dMvs ms) = true := (flt_mvs ms).shaped (by decide)
theorem mvs_refl (ms : List (Nat × Nat)) : PyData.eqv (dMvs ms) (dMvs ms) = true := (flt_mvs ms).refl
theorem eqv_none (ms : List (Nat × Nat)) : PyData.eqv (dMvs ms) (dMvs []) = decide (ms = []) := by
  cases ms with
  | nil => rfl
  | cons m r => rfl
theorem dp_mv {K : PySem.W.Frag} {H : Hp} {p : Addr} {m : Nat × Nat} (h : H p = some (.tup [nv m.1, nv m.2])) : Dp K H (.ref p) (dMv m) := .tup (.of h) (.cons (.int _) (.cons (.int _) .nil))
theorem Mvs.dp {K : PySem.W.Frag} {H : Hp} {a : Addr} {ms : List (Nat × Nat)} (m : Mvs H a ms) : Dp K H (.ref a) (dMvs ms) := by
  obtain ⟨zs, h1, rfl, h3⟩ := m
  unfold dMvs
  rw [List.map_map]
  exact .lst (.of h1) (dpAll_map (fun z : Addr × Nat × Nat => V.ref z.1) (fun z => dMv z.2) zs fun z hz => dp_mv (h3 z hz))
/-! ### moves_of, moves_in -/
def sp_moves_of (K : PySem.W.Frag) : Sp := fun vs H Q _ => ∃ (a r : Addr) (W : List (List Nat)) (R : List Nat), vs = [.ref a, .ref r] ∧ Web H a W ∧ Form W ∧ H r = some (.lst (nvs R)) ∧ RowOk W R ∧ ∀ (p : Addr) (H' : Hp), H p = none → Same H H' → Mvs H' p (mvs W R) → (mvs W R).length ≤ 4800 → Q (.ref p) H'
/-- slots: 0 web, 1 row, 2 found, 3 place, 4 spot, 5 other -/
def N_moves_of : List Str := ["web", "row", "found", "place", "spot", "other"]
def t_moves_of (K : PySem.W.Frag) : TS :=
    tSeq (tAsg (tLst (tNil)) (gName 2))
    (tSeq (tFor (iEnum K (tCons (tVar 1) (tNil))) (gTup K 2 (gCons (gName 3) (gCons (gName 4) (gNil)))) (tFor (iList K (tCB (rSortedI K) (tCons (tOp (rIxL K) (tVar 0) (tVar 4)) (tNil)))) (gName 5) (tDrop (tBM K "list" rAppend (tVar 2) (tCons (tTup (tCons (tVar 3) (tCons (tVar 5) (tNil)))) (tNil))))))
    (tRet (tVar 2)))
theorem r_moves_of {K : PySem.W.Frag} (vs : List V) (H : Hp) (Q : VK) (E : XK) (h : sp_moves_of K vs H Q E) : t_moves_of K { nx := fun _ H' => Q .non H', rt := Q } (start N_moves_of vs) H := by
  obtain ⟨a, r, W, R, rfl, ⟨q, l⟩, F, hr, ok, k⟩ := h
  have hlen := ok.len
  refine ⟨Nat.zero_le _, fun fA nf => ?_⟩
  have s1 := same_new (o := .lst []) nf
  have M1 : Mvs (upd H fA (.lst [])) fA [] := .nil upd_same
  generalize upd H fA (.lst []) = H1 at s1 M1
  refine ⟨.ref r, rfl, r, _, rfl, .of (s1 _ _ hr), for_it (walk_enum (xs := nvs R)) (fun i σ H3 => ∃ (y3 y4 y5 : Option V), σ = [some (.ref a), some (.ref r), some (.ref fA), y3, y4, y5] ∧ Same H H3 ∧ Mvs H3 fA ((List.range i).flatMap (mvsA W R)))
    ⟨none, none, none, rfl, s1, M1⟩ (fun i σ H3 hi hP => ?_) (fun i x σ H3 H3' hi hP hY => ?_) (fun σ H3 hP => ?_)⟩
  · obtain ⟨_, _, _, _, s3, _⟩ := hP
    exact .of (s3 _ _ hr)
  · obtain ⟨y3, y4, y5, rfl, s3, M3⟩ := hP
    obtain ⟨T, x1, x2, rfl, nT, rfl, e1, e2⟩ := hY
    rw [nvs_length] at hi
    have e1' : V.int (i : Nat) = x1 := Option.some.inj e1
    obtain ⟨s, hs, e2'⟩ := nvs_item e2
    subst e1' e2'
    have hsW := ok.lt s (List.mem_of_getElem? hs)
    have es : R.getD i 0 = s := by rw [List.getD_eq_getElem?_getD, hs]; rfl
    refine ⟨T, _, rfl, .of upd_same, rfl, _, _, rfl, _, _, rfl, rfl, ?_⟩
    have sT : Same H (upd H3 T (.tup [V.int (i : Nat), nv s])) := s3.new nT
    have MT := M3.same (same_new (o := .tup [V.int (i : Nat), nv s]) nT)
    generalize upd H3 T (.tup [V.int (i : Nat), nv s]) = H4 at sT MT
    have l4 := l.same sT
    have hq4 : H4 (q s) = some (.lst (wrow W s)) := l4.at_ s hsW
    refine ⟨.ref a, rfl, nv s, rfl, a, _, (s : Int), _, rfl, rfl, .of l4.top, refs_at hsW, q s, (row W s).map fun n : Nat => (n : Int), rfl, by rw [← nvs_int]; exact .of hq4, fun ns' sA hperm hpw nsA => ?_⟩
    obtain ⟨S, hS, eS, hpS⟩ := sorted_nat hperm hpw
    have eF := sorted_row F hS hpS
    rw [eS]
    have s5 := sT.new (o := .lst (nvs S)) nsA
    have M5 := MT.same (same_new (o := .lst (nvs S)) nsA)
    have hs5 : (upd H4 sA (.lst (nvs S))) sA = some (.lst (nvs S)) := upd_same
    have fs : fA ≠ sA := by
      obtain ⟨zs, h1, _⟩ := MT
      exact ne_of_none h1 nsA
    generalize upd H4 sA (.lst (nvs S)) = H5 at s5 M5 hs5
    have base := mvsTo_len F R i
    have Sl : S.length ≤ 200 := by rw [hS.length_eq]; exact F.row_len s
    refine ⟨sA, rfl, ⟨_, .of hs5⟩, for_list (xs := nvs S) (fun j σ H6 => ∃ y5 : Option V, σ = [some (.ref a), some (.ref r), some (.ref fA), some (nv i), some (nv s), y5] ∧ Same H H6 ∧ H6 sA = some (.lst (nvs S)) ∧ Mvs H6 fA ((List.range i).flatMap (mvsA W R) ++ (S.take j).map fun x => (i, x)))
      ⟨y5, rfl, s5, hs5, by rw [List.take_zero, List.map_nil, List.append_nil]; exact M5⟩ (fun j σ H6 _ hP => ?_) (fun j x σ H6 hx hP => ?_) (fun σ H6 hP => ?_)⟩
    · obtain ⟨_, _, _, h6, _⟩ := hP
      exact .of h6
    · obtain ⟨y5, rfl, s6, hs6, M6⟩ := hP
      obtain ⟨x0, hx0, rfl⟩ := nvs_item hx
      have hj := (List.getElem?_eq_some_iff.mp hx0).1
      obtain ⟨xs, hxs, xl, grow⟩ := M6.grow
      refine ⟨.ref fA, rfl, .inl ⟨rfl, _, .of hxs⟩, nv i, rfl, nv x0, rfl, line_le (Nat.le_of_ble_eq_true rfl), fun p np => ?_⟩
      have M7 := grow (upd H6 p (.tup [nv i, nv x0])) p (i, x0) (same_new np) upd_same
      refine ⟨fA, _, _, rfl, rfl, same_new np _ _ hxs, by rw [xl, List.length_append, List.length_map, List.length_take]; exact line_lt (by omega), some (nv x0), rfl, (s6.new np).mut nf, ?_, ?_⟩
      · rw [upd_ne fs.symm]
        exact same_new np _ _ hs6
      · have e : ((List.range i).flatMap (mvsA W R) ++ (S.take j).map fun x => (i, x)) ++ [(i, x0)] = (List.range i).flatMap (mvsA W R) ++ (S.take (j + 1)).map fun x => (i, x) := by
          rw [List.append_assoc, List.take_add_one, hx0, List.map_append]
          rfl
        rw [← e]
        exact M7
    · obtain ⟨y5, rfl, s6, hs6, M6⟩ := hP
      refine ⟨_, _, y5, rfl, s6, ?_⟩
      rw [nvs_length, List.take_length] at M6
      rw [flat_step, mvsA, es, ← eF]
      exact M6
  · obtain ⟨y3, y4, y5, rfl, s3, M3⟩ := hP
    rw [nvs_length] at M3
    exact ⟨.ref fA, rfl, k fA H3 nf s3 M3 (by have := mvsTo_len F R R.length; unfold mvs; omega)⟩
/-! ### is_move, behind, played -/
def sp_behind (K : PySem.W.Frag) : Sp := fun vs H Q _ => ∃ (r t : Addr) (R : List Nat) (m : Nat × Nat), vs = [.ref r, .ref t] ∧ H r = some (.lst (nvs R)) ∧ R.length ≤ 1000 ∧ H t = some (.tup [nv m.1, nv m.2]) ∧ m.1 < R.length ∧ ∀ (p : Addr) (H' : Hp), H p = none → Same H H' → H' p = some (.lst (nvs (R.set m.1 m.2))) → Q (.ref p) H'
/-- slots: 0 row, 1 move -/
def N_behind : List Str := ["row", "move"]
def t_behind (K : PySem.W.Frag) : TS :=
    tRet (tOp rCat (tOp rCat (tSl (rSlL K) (tVar 0) (tNoPart) (tPart (tOp (rIxT K) (tVar 1) (tC (.int 0))))) (tLst (tCons (tOp (rIxT K) (tVar 1) (tC (.int 1))) (tNil)))) (tSl (rSlL K) (tVar 0) (tPart (tOp rAdd (tOp (rIxT K) (tVar 1) (tC (.int 0))) (tC (.int 1)))) (tNoPart)))
theorem r_behind {K : PySem.W.Frag} (vs : List V) (H : Hp) (Q : VK) (E : XK) (h : sp_behind K vs H Q E) : t_behind K { nx := fun _ H' => Q .non H', rt := Q } (start N_behind vs) H := by
  obtain ⟨r, t, R, ⟨i, y⟩, rfl, hr, hl, ht, hi, k⟩ := h
  dsimp only at ht hi k
  refine ⟨.ref r, rfl, .ref t, rfl, t, _, 0, nv i, rfl, rfl, .of ht, rfl, (i : Int), rfl, r, _, rfl, .of hr, fun p1 n1 => ?_⟩
  have e1 : cutV (nvs R) none (some (i : Int)) = nvs (R.take i) := cut_to nv R i
  rw [e1]
  have u1 : Same H (upd H p1 (.lst (nvs (R.take i)))) := same_new n1
  have h1 : (upd H p1 (.lst (nvs (R.take i)))) p1 = some (.lst (nvs (R.take i))) := upd_same
  generalize upd H p1 (.lst (nvs (R.take i))) = H4 at u1 h1
  refine ⟨.ref t, rfl, t, _, 1, nv y, rfl, rfl, .of (u1 _ _ ht), rfl, line_le (Nat.le_of_ble_eq_true rfl), fun p2 n2 => ⟨p1, p2, _, _, rfl, rfl, same_new n2 _ _ h1, upd_same, line_le (by rw [nvs_length, List.length_take]; show _ + 1 ≤ _; omega), fun p3 n3 => ?_⟩⟩
  have u3 : Same H (upd (upd H4 p2 (.lst [nv y])) p3 (.lst (nvs (R.take i) ++ [nv y]))) := (u1.new n2).new n3
  have h3 : (upd (upd H4 p2 (.lst [nv y])) p3 (.lst (nvs (R.take i) ++ [nv y]))) p3 = some (.lst (nvs (R.take i ++ [y]))) := by rw [upd_same, nvs_append]; rfl
  generalize upd (upd H4 p2 (.lst [nv y])) p3 (.lst (nvs (R.take i) ++ [nv y])) = H5 at u3 h3
  refine ⟨.ref r, rfl, .ref t, rfl, t, _, 0, nv i, rfl, rfl, .of (u3 _ _ ht), rfl, (i : Int), 1, rfl, rfl, _, rfl, r, _, rfl, .of (u3 _ _ hr), fun p4 n4 => ?_⟩
  have e2 : cutV (nvs R) (some ((i : Int) + 1)) none = nvs (R.drop (i + 1)) := cut_from nv R (i + 1)
  rw [e2]
  have u4 := u3.new (o := .lst (nvs (R.drop (i + 1)))) n4
  have h4 : (upd H5 p4 (.lst (nvs (R.drop (i + 1))))) p4 = some (.lst (nvs (R.drop (i + 1)))) := upd_same
  have h34 := same_new (o := .lst (nvs (R.drop (i + 1)))) n4 _ _ h3
  generalize upd H5 p4 (.lst (nvs (R.drop (i + 1)))) = H6 at u4 h4 h34
  refine ⟨p3, p4, _, _, rfl, rfl, h34, h4, line_le (by rw [nvs_length, nvs_length, List.length_append, List.length_take, List.length_drop]; show _ + 1 + _ ≤ _; omega), fun p5 n5 => ?_⟩
  exact k p5 _ (u4.free n5) (u4.new n5) (by rw [upd_same, ← nvs_append, set_cut hi])
theorem rowOk_set {W : List (List Nat)} {R : List Nat} (F : Form W) (ok : RowOk W R) {m : Nat × Nat} (hm : m ∈ mvs W R) : RowOk W (R.set m.1 m.2) := ⟨by rw [List.length_set]; exact ok.len, fun x hx => by
  rcases List.mem_or_eq_of_mem_set hx with h | h
  · exact ok.lt x h
  · rw [h]
    exact F.lt _ _ ((mem_mvs F).mp hm).2⟩
/-! ### _law_moves_are -/
def sp__law_moves_are (K : PySem.W.Frag) : Sp := fun vs H Q _ => ∃ (a b : Addr) (ms : List (Nat × Nat)), vs = [.ref a, .ref b] ∧ Mvs H a ms ∧ Mvs H b ms ∧ Q (.bl true) H
/-- slots: 0 _law_found, 1 _law_due, 2 _law_move -/
def N__law_moves_are : List Str := ["_law_found", "_law_due", "_law_move"]
def t__law_moves_are (K : PySem.W.Frag) : TS :=
    tSeq (tIfS (tOr (tNot (tB (tCB (rIsi K) (tCons (tVar 0) (tCons (tC (.ty "list")) (tNil)))))) (tTest (tOp (rNeD K) (tVar 0) (tVar 1)))) (tRet (tC (.bl false))) (tNext))
    (tSeq (tFor (iList K (tVar 0)) (gName 2) (tSeq (tIfS (tOr (tNot (tB (tCB (rIsi K) (tCons (tVar 2) (tCons (tC (.ty "tuple")) (tNil)))))) (tOr (tNot (tB (tCB (rIsi K) (tCons (tOp (rIxT K) (tVar 2) (tC (.int 0))) (tCons (tC (.ty "int")) (tNil)))))) (tB (tCB (rIsi K) (tCons (tOp (rIxT K) (tVar 2) (tC (.int 0))) (tCons (tC (.ty "bool")) (tNil))))))) (tRet (tC (.bl false))) (tNext))
    (tIfS (tOr (tNot (tB (tCB (rIsi K) (tCons (tOp (rIxT K) (tVar 2) (tC (.int 1))) (tCons (tC (.ty "int")) (tNil)))))) (tB (tCB (rIsi K) (tCons (tOp (rIxT K) (tVar 2) (tC (.int 1))) (tCons (tC (.ty "bool")) (tNil)))))) (tRet (tC (.bl false))) (tNext))))
    (tRet (tC (.bl true))))
theorem r__law_moves_are {K : PySem.W.Frag} (vs : List V) (H : Hp) (Q : VK) (E : XK) (h : sp__law_moves_are K vs H Q E) : t__law_moves_are K { nx := fun _ H' => Q .non H', rt := Q } (start N__law_moves_are vs) H := by
  obtain ⟨a, b, ms, rfl, ma, mb, k⟩ := h
  obtain ⟨xs, hx, xl, get⟩ := ma.get
  refine ⟨.ref a, rfl, _, _, _, _, _, rfl, .ty _, .base (.lst hx), kit_ty kLL, true, rfl, iteF ⟨.ref a, rfl, .ref b, rfl, dMvs ms, dMvs ms, ma.dp, mb.dp, sh_mvs ms, sh_mvs ms, false, notT (mvs_refl ms), iteF ?_⟩⟩
  refine ⟨.ref a, rfl, a, rfl, ⟨_, .of hx⟩, for_list (xs := xs) (fun i σ H1 => ∃ y2 : Option V, σ = [some (.ref a), some (.ref b), y2] ∧ H1 = H) ⟨none, rfl, rfl⟩ (fun i σ H1 _ hP => ?_) (fun i x σ H1 hi hP => ?_) (fun σ H1 hP => ?_)⟩
  · obtain ⟨_, _, rfl⟩ := hP
    exact .of hx
  · obtain ⟨y2, rfl, rfl⟩ := hP
    have hil := (List.getElem?_eq_some_iff.mp hi).1
    obtain ⟨p, hp, ht⟩ := get i _ (List.getElem?_eq_getElem (by omega))
    rw [hi] at hp
    have ex : x = V.ref p := Option.some.inj hp
    subst ex
    generalize ms[i]'(by omega) = m at ht
    refine ⟨.ref p, rfl, _, _, _, _, _, rfl, .ty _, .base (.tup ht), kit_ty kTT, true, rfl, iteF ⟨.ref p, rfl, p, _, 0, nv m.1, rfl, rfl, .of ht, rfl, _, _, _, _, _, rfl, .ty _, .base (.int _), kit_ty kII, true, rfl, iteF ⟨.ref p, rfl, p, _, 0, nv m.1, rfl, rfl, .of ht, rfl, _, _, _, _, _, rfl, .ty _, .base (.int _), kit_ty kIB, false, rfl, iteF ?_⟩⟩⟩
    exact ⟨.ref p, rfl, p, _, 1, nv m.2, rfl, rfl, .of ht, rfl, _, _, _, _, _, rfl, .ty _, .base (.int _), kit_ty kII, true, rfl, iteF ⟨.ref p, rfl, p, _, 1, nv m.2, rfl, rfl, .of ht, rfl, _, _, _, _, _, rfl, .ty _, .base (.int _), kit_ty kIB, false, rfl, iteF ⟨_, rfl, rfl⟩⟩⟩
  · obtain ⟨_, rfl, rfl⟩ := hP
    exact k
end Sp

namespace Sp
open PySem PySem.Spec PyProof.Rows L2
/-! ### numbers, spots, webs: good or odd -/
inductive El (H : Hp) : V → Option Int → Prop
  | int (z : Int) : El H (.int z) (some z)
  | bl (b : Bool) : El H (.bl b) none
  | str (s : Str) : El H (.str s) none
  | non : El H .non none
  | lst {p : Addr} {xs : List V} (h : H p = some (.lst xs)) : El H (.ref p) none
theorem El.same {H H1 : Hp} {x : V} {o : Option Int} (e : El H x o) (s : Same H H1) : El H1 x o := by
  cases e with
  | int z => exact .int z
  | bl b => exact .bl b
  | str b => exact .str b
  | non => exact .non
  | lst h => exact .lst (s _ _ h)
theorem El.inv {H : Hp} {x : V} {z : Int} (e : El H x (some z)) : x = .int z := by cases e; rfl
def numOk (m : Int) : Option Int → Bool
  | some z => decide (0 ≤ z) && decide (z ≤ m)
  | none => false
theorem numOk_some (m z : Int) : numOk m (some z) = (decide (0 ≤ z) && decide (z ≤ m)) := rfl
theorem kSI : kitB "str" "int" = some false := by decide +kernel
theorem kNI : kitB "NoneType" "int" = some false := by decide +kernel
theorem kLI : kitB "list" "int" = some false := by decide +kernel
theorem kIL2 : kitB "int" "list" = some false := by decide +kernel
theorem kBL2 : kitB "bool" "list" = some false := by decide +kernel
theorem kSL : kitB "str" "list" = some false := by decide +kernel
theorem kNL : kitB "NoneType" "list" = some false := by decide +kernel
theorem kTL : kitB "tuple" "list" = some false := by decide +kernel
theorem kDL : kitB "dict" "list" = some false := by decide +kernel
def sp_is_number (K : PySem.W.Frag) : Sp := fun vs H Q _ => ∃ (x : V) (o : Option Int) (m : Int), vs = [x, .int m] ∧ El H x o ∧ Q (.bl (numOk m o)) H
/-- slots: 0 thing, 1 most -/
def N_is_number : List Str := ["thing", "most"]
def t_is_number (K : PySem.W.Frag) : TS :=
    tRet (tAndV (tCB (rIsi K) (tCons (tVar 0) (tCons (tC (.ty "int")) (tNil)))) (tAndV (tNotV (tCB (rIsi K) (tCons (tVar 0) (tCons (tC (.ty "bool")) (tNil))))) (tChain rLe rLe (tC (.int 0)) (tVar 0) (tVar 1))))
theorem r_is_number {K : PySem.W.Frag} (vs : List V) (H : Hp) (Q : VK) (E : XK) (h : sp_is_number K vs H Q E) : t_is_number K { nx := fun _ H' => Q .non H', rt := Q } (start N_is_number vs) H := by
  obtain ⟨x, o, m, rfl, e, q⟩ := h
  cases e with
  | int z =>
    refine ⟨.int z, rfl, _, _, _, _, _, rfl, .ty _, .base (.int _), kit_ty kII, true, rfl, iteT ⟨.int z, rfl, _, _, _, _, _, rfl, .ty _, .base (.int _), kit_ty kIB, false, rfl, true, rfl, iteT ?_⟩⟩
    refine ⟨.int z, rfl, 0, z, rfl, rfl, _, rfl, ite2 (fun c => ?_) (fun c => ?_)⟩
    · refine ⟨.int m, rfl, z, m, rfl, rfl, ?_⟩
      rw [numOk_some] at q
      rw [c, Bool.true_and] at q
      exact q
    · have e : decide ((0 : Int) ≤ z) = false := by simpa using c
      rw [numOk_some] at q
      rw [e, Bool.false_and] at q
      exact q
  | bl b => exact ⟨.bl b, rfl, _, _, _, _, _, rfl, .ty _, .base (.bl _), kit_ty kBI, true, rfl, iteT ⟨.bl b, rfl, _, _, _, _, _, rfl, .ty _, .base (.bl _), kit_ty kBB, true, rfl, false, rfl, iteF q⟩⟩
  | str b => exact ⟨.str b, rfl, _, _, _, _, _, rfl, .ty _, .base (.str _), kit_ty kSI, false, rfl, iteF q⟩
  | non => exact ⟨.non, rfl, _, _, _, _, _, rfl, .ty _, .base .non, kit_ty kNI, false, rfl, iteF q⟩
  | @lst p xs h => exact ⟨.ref p, rfl, _, _, _, _, _, rfl, .ty _, .base (.lst h), kit_ty kLI, false, rfl, iteF q⟩
/-- what is no list -/
inductive OddV (H : Hp) : V → Prop
  | int (z : Int) : OddV H (.int z)
  | bl (b : Bool) : OddV H (.bl b)
  | str (s : Str) : OddV H (.str s)
  | non : OddV H .non
  | tup {p : Addr} {xs : List V} (h : H p = some (.tup xs)) : OddV H (.ref p)
  | dct {p : Addr} {kvs : List (List Key × V)} (h : H p = some (.dT kvs)) : OddV H (.ref p)
theorem OddV.same {H H1 : Hp} {x : V} (e : OddV H x) (s : Same H H1) : OddV H1 x := by
  cases e with
  | int z => exact .int z
  | bl b => exact .bl b
  | str b => exact .str b
  | non => exact .non
  | tup h => exact .tup (s _ _ h)
  | dct h => exact .dct (s _ _ h)
theorem OddV.ty {K : PySem.W.Frag} {H : Hp} {x : V} (e : OddV H x) : ∃ t : String, TyX K H x (.type t) ∧ kitB t "list" = some false := by
  cases e with
  | int z => exact ⟨_, .base (.int z), kIL2⟩
  | bl b => exact ⟨_, .base (.bl b), kBL2⟩
  | str b => exact ⟨_, .base (.str b), kSL⟩
  | non => exact ⟨_, .base .non, kNL⟩
  | tup h => exact ⟨_, .base (.tup h), kTL⟩
  | dct h => exact ⟨_, .base (.dT h), kDL⟩
abbrev DSp : Type := Option (List (Option Int))
abbrev DWb : Type := Option (List DSp)
def SpotAt (H : Hp) (x : V) : DSp → Prop
  | some os => ∃ (p : Addr) (zs : List (V × Option Int)), x = .ref p ∧ H p = some (.lst (zs.map (·.1))) ∧ zs.map (·.2) = os ∧ (∀ z ∈ zs, El H z.1 z.2) ∧ zs.length ≤ 1000
  | none => OddV H x
theorem SpotAt.same {H H1 : Hp} {x : V} : ∀ {d : DSp}, SpotAt H x d → Same H H1 → SpotAt H1 x d
  | some _, ⟨p, zs, e, h, e2, el, l⟩, s => ⟨p, zs, e, s _ _ h, e2, fun z hz => (el z hz).same s, l⟩
  | none, h, s => OddV.same h s
def spotOk (m : Int) : DSp → Bool
  | some os => os.all (numOk m) && decide os.Nodup
  | none => false
theorem spotOk_some (m : Int) (os : List (Option Int)) : spotOk m (some os) = (os.all (numOk m) && decide os.Nodup) := rfl
def WebO (H : Hp) (x : V) : DWb → Prop
  | some ds => ∃ (p : Addr) (zs : List (V × DSp)), x = .ref p ∧ H p = some (.lst (zs.map (·.1))) ∧ zs.map (·.2) = ds ∧ (∀ z ∈ zs, SpotAt H z.1 z.2) ∧ zs.length ≤ 1000
  | none => OddV H x
theorem WebO.same {H H1 : Hp} {x : V} : ∀ {d : DWb}, WebO H x d → Same H H1 → WebO H1 x d
  | some _, ⟨p, zs, e, h, e2, el, l⟩, s => ⟨p, zs, e, s _ _ h, e2, fun z hz => (el z hz).same s, l⟩
  | none, h, s => OddV.same h s
def webOk : DWb → Bool
  | some ds => decide (1 ≤ ds.length) && decide (ds.length ≤ 200) && ds.all (spotOk ((ds.length : Int) - 1))
  | none => false
def rowOk (n : Nat) : DSp → Bool
  | some os => decide (os.length ≤ 24) && os.all (numOk ((n : Int) - 1))
  | none => false
theorem webOk_some (ds : List DSp) : webOk (some ds) = (decide (1 ≤ ds.length) && decide (ds.length ≤ 200) && ds.all (spotOk ((ds.length : Int) - 1))) := rfl
theorem rowOk_some (n : Nat) (os : List (Option Int)) : rowOk n (some os) = (decide (os.length ≤ 24) && os.all (numOk ((n : Int) - 1))) := rfl
/-! the good ones -/
def dRow (r : List Nat) : DSp := some (r.map fun n : Nat => some (n : Int))
def dW (W : List (List Nat)) : DWb := some (W.map dRow)
theorem row_at {H : Hp} {p : Addr} {r : List Nat} (h : H p = some (.lst (nvs r))) (hl : r.length ≤ 1000) : SpotAt H (.ref p) (dRow r) :=
  ⟨p, r.map fun n : Nat => (nv n, some (n : Int)), rfl, by rw [List.map_map]; exact h, by rw [List.map_map]; rfl, fun z hz => by
    obtain ⟨n, _, rfl⟩ := List.mem_map.mp hz
    exact .int _, by rw [List.length_map]; exact hl⟩
theorem web_at {H : Hp} {a : Addr} {W : List (List Nat)} (w : Web H a W) (hl : W.length ≤ 1000) (hr : ∀ s, (row W s).length ≤ 1000) : WebO H (.ref a) (dW W) := by
  obtain ⟨q, l⟩ := w
  refine ⟨a, (List.range W.length).map fun i => (V.ref (q i), dRow (row W i)), rfl, by rw [List.map_map]; exact l.top, ?_, fun z hz => ?_, by rw [List.length_map, List.length_range]; exact hl⟩
  · rw [List.map_map]
    have h : ((List.range W.length).map (row W)).map dRow = W.map dRow := by rw [rows_range]
    rw [List.map_map] at h
    exact h
  · obtain ⟨i, hi, rfl⟩ := List.mem_map.mp hz
    exact row_at (l.at_ i (List.mem_range.mp hi)) (hr i)
theorem nums_ok {r : List Nat} {n : Nat} : (∀ x ∈ r, x < n) ↔ (r.map fun n : Nat => some (n : Int)).all (numOk ((n : Int) - 1)) = true := by
  rw [List.all_map, List.all_eq_true]
  constructor
  · intro h x hx
    have := h x hx
    show (decide ((0 : Int) ≤ (x : Int)) && decide ((x : Int) ≤ (n : Int) - 1)) = true
    rw [Bool.and_eq_true, decide_eq_true_iff, decide_eq_true_iff]
    omega
  · intro h x hx
    have h2 : (decide ((0 : Int) ≤ (x : Int)) && decide ((x : Int) ≤ (n : Int) - 1)) = true := h x hx
    rw [Bool.and_eq_true, decide_eq_true_iff, decide_eq_true_iff] at h2
    omega
theorem spot_ok {r : List Nat} {n : Nat} (h : ∀ x ∈ r, x < n) (nd : r.Nodup) : spotOk ((n : Int) - 1) (dRow r) = true := by
  show ((r.map fun n : Nat => some (n : Int)).all (numOk ((n : Int) - 1)) && decide (r.map fun n : Nat => some (n : Int)).Nodup) = true
  rw [nums_ok.mp h, Bool.true_and, decide_eq_true_iff]
  exact List.pairwise_map.mpr (nd.imp fun hne e => hne (Int.ofNat_inj.mp (Option.some.inj e)))
theorem Form.ok {W : List (List Nat)} (F : Form W) : webOk (dW W) = true := by
  have h1 := F.pos
  have h2 := F.le
  show (decide (1 ≤ (W.map dRow).length) && decide ((W.map dRow).length ≤ 200) && (W.map dRow).all (spotOk (((W.map dRow).length : Int) - 1))) = true
  rw [List.length_map, decide_eq_true h1, decide_eq_true h2, Bool.true_and, Bool.true_and, List.all_map, List.all_eq_true]
  intro r hr
  obtain ⟨s, hs⟩ := List.mem_iff_getElem?.mp hr
  have er := row_of hs
  rw [← er]
  exact spot_ok (F.lt s) (F.nd s)
theorem Form.o {H : Hp} {a : Addr} {W : List (List Nat)} (F : Form W) (w : Web H a W) : WebO H (.ref a) (dW W) := web_at w (by have := F.le; omega) fun s => by have := F.row_len s; omega
/-! len(set(..)) of ints that are not all unlike -/
theorem first_nodup (f : Nat → Int) : ∀ i, (PyProof.Rows.firstMet f i).length = i → ((List.range i).map f).Nodup
  | 0, _ => List.nodup_nil
  | i + 1, h => by
    rw [PyProof.Rows.firstMet_succ] at h
    have hle := PyProof.Rows.firstMet_length_le f i
    unfold PyProof.Rows.step_dedup at h
    split at h
    · omega
    · rename_i hn
      rw [List.length_append] at h
      have h2 : (PyProof.Rows.firstMet f i).length = i := Nat.succ.inj h
      rw [PyProof.Rows.firstMet_any] at hn
      rw [List.range_succ, List.map_append]
      refine List.nodup_append.mpr ⟨first_nodup f i h2, by simp, fun a ha b hb e => hn (List.any_eq_true.mpr ⟨a, ha, ?_⟩)⟩
      rw [e, List.mem_singleton.mp hb]
      exact beq_self_eq_true _
theorem ddN_eq {ns : List Int} : ddN ns = ns.length ↔ ns.Nodup := by
  constructor
  · intro h
    have := first_nodup (fun i => ns.getD i 0) ns.length h
    have e : (List.range ns.length).map (fun i => ns.getD i 0) = ns := by
      apply List.ext_getElem?
      intro i
      by_cases hi : i < ns.length
      · rw [List.getElem?_map, List.getElem?_range hi, List.getElem?_eq_getElem hi]
        show some (ns.getD i 0) = _
        rw [List.getD_eq_getElem?_getD, List.getElem?_eq_getElem hi]
        rfl
      · rw [List.getElem?_eq_none (by rw [List.length_map, List.length_range]; omega), List.getElem?_eq_none (by omega)]
    rwa [e] at this
  · exact ddN_nodup
theorem all_ints {H : Hp} {m : Int} : ∀ {zs : List (V × Option Int)}, (∀ z ∈ zs, El H z.1 z.2) → (zs.map (·.2)).all (numOk m) = true → ∃ ns : List Int, zs.map (·.1) = ns.map V.int ∧ zs.map (·.2) = ns.map some
  | [], _, _ => ⟨[], rfl, rfl⟩
  | z :: r, el, h => by
    rw [List.map_cons, List.all_cons, Bool.and_eq_true] at h
    obtain ⟨ns, e1, e2⟩ := all_ints (fun y hy => el y (List.mem_cons_of_mem _ hy)) h.2
    have e := el z (List.mem_cons_self ..)
    obtain ⟨x, o⟩ := z
    cases o with
    | none => cases h.1
    | some n =>
      have ex : x = .int n := e.inv
      subst ex
      exact ⟨n :: ns, by rw [List.map_cons, e1]; rfl, by rw [List.map_cons, e2]; rfl⟩
/-! ### is_spot, is_web -/
def sp_is_spot (K : PySem.W.Frag) : Sp := fun vs H Q _ => ∃ (x : V) (d : DSp) (m : Int), vs = [x, .int m] ∧ SpotAt H x d ∧ ∀ H', Same H H' → Q (.bl (spotOk (m - 1) d)) H'
/-- slots: 0 thing, 1 many, 2 one -/
def N_is_spot : List Str := ["thing", "many", "one"]
def t_is_spot (K : PySem.W.Frag) : TS :=
    tSeq (tIfS (tOr (tNot (tB (tCB (rIsi K) (tCons (tVar 0) (tCons (tC (.ty "list")) (tNil)))))) (tNot (tB (tCB (rAll K) (tCons (tLc (iList K (tVar 0)) (gName 2) (tYes) (tCall (sp_is_number K) [] E0 (tCons (tVar 2) (tCons (tOp rSub (tVar 1) (tC (.int 1))) (tNil)))) [2]) (tNil)))))) (tRet (tC (.bl false))) (tNext))
    (tRet (tOp rEq (tLenSetN K (tVar 0)) (tCB (rLen K) (tCons (tVar 0) (tNil)))))
theorem r_is_spot {K : PySem.W.Frag} (vs : List V) (H : Hp) (Q : VK) (E : XK) (h : sp_is_spot K vs H Q E) : t_is_spot K { nx := fun _ H' => Q .non H', rt := Q } (start N_is_spot vs) H := by
  obtain ⟨x, d, m, rfl, hd, k⟩ := h
  cases d with
  | none =>
    obtain ⟨t, ty, kt⟩ := OddV.ty (K := K) hd
    exact ⟨x, rfl, _, _, _, _, _, rfl, .ty _, ty, kit_ty kt, false, rfl, iteT (k H (Same.refl _))⟩
  | some os =>
    obtain ⟨p, zs, rfl, hp, rfl, el, hl⟩ := hd
    refine ⟨.ref p, rfl, _, _, _, _, _, rfl, .ty _, .base (.lst hp), kit_ty kLL, true, rfl, iteF ?_⟩
    refine ⟨.ref p, rfl, p, rfl, ⟨_, .of hp⟩, lcL zs (·.1) (fun _ => true) (fun z => .bl (numOk (m - 1) z.2)) (.of hp) (by omega) (fun z hz H1 Qy Qf s1 hy _ => ?_) (fun D H1 _ s1 hD => ?_)⟩
    · exact ⟨z.1, rfl, .int m, rfl, m, 1, rfl, rfl, z.1, z.2, m - 1, rfl, (el z hz).same s1, hy rfl H1 (Same.refl _)⟩
    · rw [List.filter_eq_self.mpr (fun _ _ => rfl)] at hD
      have hD2 : H1 D = some (.lst ((zs.map fun z => numOk (m - 1) z.2).map V.bl)) := by rw [hD, List.map_map]; rfl
      have e1 : (zs.map fun z => numOk (m - 1) z.2).all id = (zs.map (·.2)).all (numOk (m - 1)) := by rw [List.all_map, List.all_map]; rfl
      refine ⟨D, _, rfl, .of hD2, (zs.map (·.2)).all (numOk (m - 1)), congrArg V.bl e1, ite2 (fun c => ?_) (fun c => ?_)⟩
      · have c2 : (zs.map (·.2)).all (numOk (m - 1)) = false := by simpa using c
        have := k H1 s1
        rw [spotOk_some] at this
        rw [c2, Bool.false_and] at this
        exact this
      · have c2 : (zs.map (·.2)).all (numOk (m - 1)) = true := by simpa using c
        obtain ⟨ns, e2, e3⟩ := all_ints el c2
        have hp1 : SqL K H1 p (zs.map (·.1)) := .of (s1 _ _ hp)
        have nl : ns.length ≤ 1000 := by
          have := congrArg List.length e2
          rw [List.length_map, List.length_map] at this
          omega
        refine ⟨.ref p, rfl, p, ns, rfl, by rw [← e2]; exact hp1, by omega, .ref p, rfl, p, _, rfl, .inl hp1, rfl, ?_⟩
        have := k H1 s1
        rw [spotOk_some] at this
        rw [c2, Bool.true_and] at this
        have e4 : decide (V.int ((ddN ns : Nat) : Int) = V.int (((zs.map (·.1)).length : Nat) : Int)) = decide (zs.map (·.2)).Nodup := by
          rw [e2, e3, List.length_map, Bool.eq_iff_iff, decide_eq_true_iff, decide_eq_true_iff]
          constructor
          · intro h
            have h2 : ns.Nodup := ddN_eq.mp (Int.ofNat_inj.mp (V.int.inj h))
            exact List.pairwise_map.mpr (h2.imp fun hne e => hne (Option.some.inj e))
          · intro h
            have h2 : ns.Nodup := (List.pairwise_map.mp h).imp fun hne e => hne (congrArg some e)
            rw [ddN_eq.mpr h2]
        rw [e4]
        exact this
def sp_is_web (K : PySem.W.Frag) : Sp := fun vs H Q _ => ∃ (x : V) (d : DWb), vs = [x] ∧ WebO H x d ∧ ∀ H', Same H H' → Q (.bl (webOk d)) H'
/-- slots: 0 thing, 1 spot -/
def N_is_web : List Str := ["thing", "spot"]
def t_is_web (K : PySem.W.Frag) : TS :=
    tSeq (tIfS (tOr (tNot (tB (tCB (rIsi K) (tCons (tVar 0) (tCons (tC (.ty "list")) (tNil)))))) (tNot (tTest (tChain rLe rLe (tC (.int 1)) (tCB (rLen K) (tCons (tVar 0) (tNil))) (tC (.int 200)))))) (tRet (tC (.bl false))) (tNext))
    (tRet (tCB (rAll K) (tCons (tLc (iList K (tVar 0)) (gName 1) (tYes) (tCall (sp_is_spot K) [] E0 (tCons (tVar 1) (tCons (tCB (rLen K) (tCons (tVar 0) (tNil))) (tNil)))) [1]) (tNil))))
theorem r_is_web {K : PySem.W.Frag} (vs : List V) (H : Hp) (Q : VK) (E : XK) (h : sp_is_web K vs H Q E) : t_is_web K { nx := fun _ H' => Q .non H', rt := Q } (start N_is_web vs) H := by
  obtain ⟨x, d, rfl, hd, k⟩ := h
  cases d with
  | none =>
    obtain ⟨t, ty, kt⟩ := OddV.ty (K := K) hd
    exact ⟨x, rfl, _, _, _, _, _, rfl, .ty _, ty, kit_ty kt, false, rfl, iteT (k H (Same.refl _))⟩
  | some ds =>
    obtain ⟨p, zs, rfl, hp, rfl, el, hl⟩ := hd
    have lz : ((zs.map (·.1)).length : Int) = (zs.length : Int) := by rw [List.length_map]
    have k2 : ∀ H', Same H H' → Q (.bl (decide (1 ≤ zs.length) && decide (zs.length ≤ 200) && (zs.map (·.2)).all (spotOk ((zs.length : Int) - 1)))) H' := fun H' s => by
      have := k H' s
      rw [webOk_some] at this
      rw [List.length_map] at this
      exact this
    refine ⟨.ref p, rfl, _, _, _, _, _, rfl, .ty _, .base (.lst hp), kit_ty kLL, true, rfl, iteF ?_⟩
    refine ⟨.ref p, rfl, p, _, rfl, .inl (.of hp), 1, _, rfl, rfl, decide (1 ≤ zs.length), ?_, ite2 (fun c1 => ?_) (fun c1 => ?_)⟩
    · rw [lz]
      exact congrArg V.bl (by rw [Bool.eq_iff_iff, decide_eq_true_iff, decide_eq_true_iff]; omega)
    · refine ⟨_, 200, rfl, rfl, decide (zs.length ≤ 200), ?_, ite2 (fun c2 => ?_) (fun c2 => ?_)⟩
      · rw [lz]
        exact congrArg V.bl (by rw [Bool.eq_iff_iff, decide_eq_true_iff, decide_eq_true_iff]; omega)
      · have e2 : decide (zs.length ≤ 200) = false := by simpa using c2
        have := k2 H (Same.refl _)
        rw [e2, Bool.and_false, Bool.false_and] at this
        exact this
      · have e2 : decide (zs.length ≤ 200) = true := by simpa using c2
        refine ⟨.ref p, rfl, p, rfl, ⟨_, .of hp⟩, lcL zs (·.1) (fun _ => true) (fun z => .bl (spotOk ((zs.length : Int) - 1) z.2)) (.of hp) (by omega) (fun z hz H1 Qy Qf s1 hy _ => ?_) (fun D H1 _ s1 hD => ?_)⟩
        · refine ⟨z.1, rfl, .ref p, rfl, p, _, rfl, .inl (.of (s1 _ _ hp)), z.1, z.2, (zs.length : Int), ?_, (el z hz).same s1, fun H2 s2 => hy rfl H2 s2⟩
          rw [lz]
          rfl
        · rw [List.filter_eq_self.mpr (fun _ _ => rfl)] at hD
          have hD2 : H1 D = some (.lst ((zs.map fun z => spotOk ((zs.length : Int) - 1) z.2).map V.bl)) := by rw [hD, List.map_map]; rfl
          have e1 : (zs.map fun z => spotOk ((zs.length : Int) - 1) z.2).all id = (zs.map (·.2)).all (spotOk ((zs.length : Int) - 1)) := by rw [List.all_map, List.all_map]; rfl
          refine ⟨D, _, rfl, .of hD2, ?_⟩
          have := k2 H1 s1
          rw [c1, e2, Bool.true_and, Bool.true_and] at this
          rw [e1]
          exact this
    · have e1 : decide (1 ≤ zs.length) = false := by simpa using c1
      have := k2 H (Same.refl _)
      rw [e1, Bool.false_and, Bool.false_and] at this
      exact ⟨false, rfl, iteT this⟩
/-! ### need_form, need_game, need_row: what they refuse -/
def AnyE (K : PySem.W.Frag) (H : Hp) (E : XK) (nm : Str) : Prop := ∀ H', Same H H' → E (.ref (He.ga K nm)) none H'
theorem AnyE.same {K : PySem.W.Frag} {H H1 : Hp} {E : XK} {nm : Str} (h : AnyE K H E nm) (s : Same H H1) : AnyE K H1 E nm := fun H' s2 => h H' (s.trans s2)
/-- a web: odd, or of the form and this -/
def FArg (K : PySem.W.Frag) (x : V) (H : Hp) (E : XK) (good : Addr → List (List Nat) → Prop) : Prop :=
  (∃ d, WebO H x d ∧ webOk d = false ∧ AnyE K H E "NoWeb") ∨ ∃ a W, x = .ref a ∧ Web H a W ∧ Form W ∧ good a W
/-- .. or with a ring, or without and this -/
def WArg (K : PySem.W.Frag) (x : V) (H : Hp) (E : XK) (good : Addr → List (List Nat) → Prop) : Prop :=
  (∃ d, WebO H x d ∧ webOk d = false ∧ AnyE K H E "NoWeb") ∨ (∃ a W, x = .ref a ∧ Web H a W ∧ Form W ∧ ¬ Good W ∧ AnyE K H E "Ringed") ∨ ∃ a W, x = .ref a ∧ Web H a W ∧ Good W ∧ good a W
/-- a row: odd, or good and this -/
def RArg (K : PySem.W.Frag) (x : V) (W : List (List Nat)) (H : Hp) (E : XK) (good : Addr → List Nat → Prop) : Prop :=
  (∃ d, SpotAt H x d ∧ rowOk W.length d = false ∧ AnyE K H E "NoRow") ∨ ∃ r R, x = .ref r ∧ H r = some (.lst (nvs R)) ∧ RowOk W R ∧ good r R
def sp_need_form (K : PySem.W.Frag) : Sp := fun vs H Q E => ∃ x, vs = [x] ∧ FArg K x H E fun _ _ => ∀ H', Same H H' → Q .non H'
/-- slots: 0 web -/
def N_need_form : List Str := ["web"]
def t_need_form (K : PySem.W.Frag) (E : XK) : TS :=
    tIfS (tNot (tB (tCall (sp_is_web K) [] E0 (tCons (tVar 0) (tNil))))) (tRaiseC E (.ref (He.ga K "NoWeb"))) (tNext)
theorem r_need_form {K : PySem.W.Frag} (vs : List V) (H : Hp) (Q : VK) (E : XK) (h : sp_need_form K vs H Q E) : t_need_form K E { nx := fun _ H' => Q .non H', rt := Q } (start N_need_form vs) H := by
  obtain ⟨x, rfl, h⟩ := h
  rcases h with ⟨d, hd, hb, he⟩ | ⟨a, W, rfl, w, F, k⟩
  · exact ⟨x, rfl, x, d, rfl, hd, fun H1 s1 => ⟨false, congrArg V.bl hb, iteT (he H1 s1)⟩⟩
  · exact ⟨.ref a, rfl, .ref a, dW W, rfl, F.o w, fun H1 s1 => ⟨true, congrArg V.bl F.ok, iteF (k H1 s1)⟩⟩
theorem PO.short {W : List (List Nat)} {o : List Nat} (F : Form W) (p : PO W o) (h : ¬ Good W) : o.length < W.length := by
  refine Classical.byContradiction fun hn => h ⟨F, _, (p.rank F ?_).1⟩
  cases e : restL W o with
  | nil => rfl
  | cons s r =>
    have hs : s ∈ restL W o := by rw [e]; exact List.mem_cons_self ..
    have := nodup_len W.length (s :: o) (List.nodup_cons.mpr ⟨restL_not hs, p.nd⟩) fun x hx => by
      rcases List.mem_cons.mp hx with h | h
      · rw [h]; exact restL_lt s hs
      · exact p.lt x h
    rw [List.length_cons] at this
    omega
def sp_need_game (K : PySem.W.Frag) : Sp := fun vs H Q E => ∃ x, vs = [x] ∧ WArg K x H E fun _ _ => ∀ H', Same H H' → Q .non H'
/-- slots: 0 web -/
def N_need_game : List Str := ["web"]
def t_need_game (K : PySem.W.Frag) (E : XK) : TS :=
    tSeq (tDrop (tCall (sp_need_form K) [] E (tCons (tVar 0) (tNil))))
    (tIfS (tTest (tOp rLt (tCB (rLen K) (tCons (tCall (sp_play_order K) [] E0 (tCons (tVar 0) (tNil))) (tNil))) (tCB (rLen K) (tCons (tVar 0) (tNil))))) (tRaiseC E (.ref (He.ga K "Ringed"))) (tNext))
theorem r_need_game {K : PySem.W.Frag} (vs : List V) (H : Hp) (Q : VK) (E : XK) (h : sp_need_game K vs H Q E) : t_need_game K E { nx := fun _ H' => Q .non H', rt := Q } (start N_need_game vs) H := by
  obtain ⟨x, rfl, h⟩ := h
  rcases h with ⟨d, hd, hb, he⟩ | ⟨a, W, rfl, w, F, hn, he⟩ | ⟨a, W, rfl, w, G, k⟩
  · exact ⟨x, rfl, x, rfl, .inl ⟨d, hd, hb, he⟩⟩
  · refine ⟨.ref a, rfl, .ref a, rfl, .inr ⟨a, W, rfl, w, F, fun H1 s1 => ?_⟩⟩
    refine ⟨.ref a, rfl, a, W, rfl, w.same s1, F, fun o p H2 hp np s2 ho => ?_⟩
    obtain ⟨q, l⟩ := (w.same s1).same s2
    have hs := hp.short F hn
    refine ⟨p, _, rfl, .inl (.of ho), .ref a, rfl, a, _, rfl, .inl (.of l.top), _, _, rfl, rfl, true, congrArg V.bl ?_, iteT (he H2 (s1.trans s2))⟩
    rw [nvs_length, refs_len, decide_eq_true_iff]
    omega
  · refine ⟨.ref a, rfl, .ref a, rfl, .inr ⟨a, W, rfl, w, G.1, fun H1 s1 => ?_⟩⟩
    refine ⟨.ref a, rfl, a, W, rfl, w.same s1, G.1, fun o p H2 hp np s2 ho => ?_⟩
    obtain ⟨q, l⟩ := (w.same s1).same s2
    refine ⟨p, _, rfl, .inl (.of ho), .ref a, rfl, a, _, rfl, .inl (.of l.top), _, _, rfl, rfl, false, congrArg V.bl ?_, iteF (k H2 (s1.trans s2))⟩
    rw [nvs_length, refs_len, hp.length G]
    simp
def sp_need_row (K : PySem.W.Frag) : Sp := fun vs H Q E => ∃ (a : Addr) (x : V) (W : List (List Nat)), vs = [.ref a, x] ∧ Web H a W ∧ RArg K x W H E fun _ _ => ∀ H', Same H H' → Q .non H'
/-- slots: 0 web, 1 row, 2 spot -/
def N_need_row : List Str := ["web", "row", "spot"]
def t_need_row (K : PySem.W.Frag) (E : XK) : TS :=
    tSeq (tIfS (tOr (tNot (tB (tCB (rIsi K) (tCons (tVar 1) (tCons (tC (.ty "list")) (tNil)))))) (tTest (tOp rGt (tCB (rLen K) (tCons (tVar 1) (tNil))) (tC (.int 24))))) (tRaiseC E (.ref (He.ga K "NoRow"))) (tNext))
    (tIfS (tNot (tB (tCB (rAll K) (tCons (tLc (iList K (tVar 1)) (gName 2) (tYes) (tCall (sp_is_number K) [] E0 (tCons (tVar 2) (tCons (tOp rSub (tCB (rLen K) (tCons (tVar 0) (tNil))) (tC (.int 1))) (tNil)))) [2]) (tNil))))) (tRaiseC E (.ref (He.ga K "NoRow"))) (tNext))
theorem r_need_row {K : PySem.W.Frag} (vs : List V) (H : Hp) (Q : VK) (E : XK) (h : sp_need_row K vs H Q E) : t_need_row K E { nx := fun _ H' => Q .non H', rt := Q } (start N_need_row vs) H := by
  obtain ⟨a, x, W, rfl, ⟨q, l⟩, h⟩ := h
  have key : ∀ d, SpotAt H x d → (rowOk W.length d = true → ∀ H', Same H H' → Q .non H') → (rowOk W.length d = false → AnyE K H E "NoRow") → t_need_row K E { nx := fun _ H' => Q .non H', rt := Q } (start N_need_row [.ref a, x]) H := by
    intro d hd k0 k1
    cases d with
    | none =>
      obtain ⟨t, ty, kt⟩ := OddV.ty (K := K) hd
      exact ⟨x, rfl, _, _, _, _, _, rfl, .ty _, ty, kit_ty kt, false, rfl, iteT (k1 rfl H (Same.refl _))⟩
    | some os =>
      obtain ⟨p, zs, rfl, hp, rfl, el, hl⟩ := hd
      rw [rowOk_some, List.length_map] at k0 k1
      refine ⟨.ref p, rfl, _, _, _, _, _, rfl, .ty _, .base (.lst hp), kit_ty kLL, true, rfl, iteF ⟨.ref p, rfl, p, _, rfl, .inl (.of hp), _, 24, rfl, rfl, _, rfl, ite2 (fun c => ?_) (fun c => ?_)⟩⟩
      · have c2 : ¬ zs.length ≤ 24 := by
          have := of_decide_eq_true c
          rw [List.length_map] at this
          omega
        exact k1 (by rw [decide_eq_false c2]; rfl) H (Same.refl _)
      · have c2 : zs.length ≤ 24 := Nat.le_of_not_lt fun z => c (decide_eq_true (by rw [List.length_map]; omega))
        rw [decide_eq_true c2, Bool.true_and] at k0 k1
        refine ⟨.ref p, rfl, p, rfl, ⟨_, .of hp⟩, lcL zs (·.1) (fun _ => true) (fun z => .bl (numOk ((W.length : Int) - 1) z.2)) (.of hp) (by omega) (fun z hz H1 Qy Qf s1 hy _ => ?_) (fun D H1 _ s1 hD => ?_)⟩
        · refine ⟨z.1, rfl, .ref a, rfl, a, _, rfl, .inl (.of (s1 _ _ l.top)), _, 1, rfl, rfl, z.1, z.2, (W.length : Int) - 1, ?_, (el z hz).same s1, hy rfl H1 (Same.refl _)⟩
          rw [refs_len]
          rfl
        · rw [List.filter_eq_self.mpr (fun _ _ => rfl)] at hD
          have hD2 : H1 D = some (.lst ((zs.map fun z => numOk ((W.length : Int) - 1) z.2).map V.bl)) := by rw [hD, List.map_map]; rfl
          have e1 : (zs.map fun z => numOk ((W.length : Int) - 1) z.2).all id = (zs.map (·.2)).all (numOk ((W.length : Int) - 1)) := by rw [List.all_map, List.all_map]; rfl
          refine ⟨D, _, rfl, .of hD2, (zs.map (·.2)).all (numOk ((W.length : Int) - 1)), congrArg V.bl e1, ite2 (fun c3 => ?_) (fun c3 => ?_)⟩
          · exact k1 (by simpa using c3) H1 s1
          · exact k0 (by simpa using c3) H1 s1
  rcases h with ⟨d, hd, hb, he⟩ | ⟨r, R, rfl, hr, ok, k⟩
  · exact key d hd (fun z => by rw [hb] at z; cases z) fun _ => he
  · have hl := ok.len
    have ho : rowOk W.length (dRow R) = true := by
      show (decide ((R.map fun n : Nat => some (n : Int)).length ≤ 24) && (R.map fun n : Nat => some (n : Int)).all (numOk ((W.length : Int) - 1))) = true
      rw [List.length_map, decide_eq_true hl, Bool.true_and]
      exact nums_ok.mp ok.lt
    exact key (dRow R) (row_at hr (by omega)) (fun _ => k) fun z => by rw [ho] at z; cases z
end Sp

namespace Sp
open PySem PySem.Spec PyProof.Rows L2
/-! ### numbers_of, lengths_of, shown_moves -/
def sp_numbers_of (K : PySem.W.Frag) : Sp := fun vs H Q E => ∃ x, vs = [x] ∧ WArg K x H E fun _ W => ∀ (g : List Nat) (p : Addr) (H' : Hp), IsF mex W g → H p = none → Same H H' → H' p = some (.lst (nvs g)) → Q (.ref p) H'
/-- slots: 0 web, 1 found, 2 spot, 3 other -/
def N_numbers_of : List Str := ["web", "found", "spot", "other"]
def t_numbers_of (K : PySem.W.Frag) (E : XK) : TS :=
    tSeq (tDrop (tCall (sp_need_game K) [] E (tCons (tVar 0) (tNil))))
    (tSeq (tAsg (tOp rRep (tLst (tCons (tC (.int 0)) (tNil))) (tCB (rLen K) (tCons (tVar 0) (tNil)))) (gName 1))
    (tSeq (tFor (iList K (tCall (sp_play_order K) [] E0 (tCons (tVar 0) (tNil)))) (gName 2) (tAsg (tCall (sp_least_missing K) [] E0 (tCons (tLc (iList K (tOp (rIxL K) (tVar 0) (tVar 2))) (gName 3) (tYes) (tOp (rIxL K) (tVar 1) (tVar 3)) [3]) (tNil))) (gSub (tVar 1) (tVar 2) rSetL)))
    (tRet (tVar 1))))
theorem r_numbers_of {K : PySem.W.Frag} (vs : List V) (H : Hp) (Q : VK) (E : XK) (h : sp_numbers_of K vs H Q E) : t_numbers_of K E { nx := fun _ H' => Q .non H', rt := Q } (start N_numbers_of vs) H := by
  obtain ⟨x, rfl, h⟩ := h
  rcases h with ⟨d, hd, hb, he⟩ | ⟨a, W, rfl, w, F, hn, he⟩ | ⟨a, W, rfl, w, G, k⟩
  · exact ⟨x, rfl, x, rfl, .inl ⟨d, hd, hb, he⟩⟩
  · exact ⟨.ref a, rfl, .ref a, rfl, .inr (.inl ⟨a, W, rfl, w, F, hn, he⟩)⟩
  have hle := G.1.le
  refine ⟨.ref a, rfl, .ref a, rfl, .inr (.inr ⟨a, W, rfl, w, G, fun H1 s1 => ?_⟩)⟩
  obtain ⟨q, l⟩ := w.same s1
  -- found = [0] * len(web)
  refine ⟨line_le (Nat.le_of_ble_eq_true rfl), fun p np => ⟨.ref a, rfl, a, _, rfl, .inl (.of (same_new np _ _ l.top)), p, _, _, rfl, rfl, upd_same, by omega, by rw [refs_len]; omega, ?_, fun fA nf => ?_⟩⟩
  · rw [refs_len]
    exact line_le (by show 1 * _ ≤ _; omega)
  have sP : Same H1 (upd H1 p (.lst [V.int 0])) := same_new np
  have nfH : H fA = none := (s1.trans sP).free nf
  have s2 : Same H (upd (upd H1 p (.lst [V.int 0])) fA (.lst (List.replicate ((refs W.length q).length : Int).toNat [V.int 0]).flatten)) := (s1.trans sP).new nf
  have hf2 : (upd (upd H1 p (.lst [V.int 0])) fA (.lst (List.replicate ((refs W.length q).length : Int).toNat [V.int 0]).flatten)) fA = some (.lst (nvs (List.replicate W.length 0))) := by
    rw [upd_same, flat_rep, refs_len, Int.toNat_natCast, nvs_rep]
    rfl
  generalize upd (upd H1 p (.lst [V.int 0])) fA (.lst (List.replicate ((refs W.length q).length : Int).toNat [V.int 0]).flatten) = H2 at s2 hf2
  -- for spot in play_order(web)
  refine ⟨.ref a, rfl, a, W, rfl, w.same s2, G.1, fun o oA H3 hp no s3 ho => ?_⟩
  have of_ : oA ≠ fA := (ne_of_none hf2 no).symm
  have noH := s2.free no
  refine ⟨oA, rfl, ⟨_, .of ho⟩, for_list (xs := nvs o) (fun i σ H4 => ∃ (g : List Nat) (y2 : Option V), σ = [some (.ref a), some (.ref fA), y2, none] ∧ Same H H4 ∧ H4 oA = some (.lst (nvs o)) ∧ H4 fA = some (.lst (nvs g)) ∧ PartF mex W o i g)
    ⟨_, none, rfl, s2.trans s3, ho, s3 _ _ hf2, PartF.start mex W o⟩ (fun i σ H4 _ hP => ?_) (fun i x σ H4 hx hP => ?_) (fun σ H4 hP => ?_)⟩
  · obtain ⟨_, _, _, _, h, _⟩ := hP
    exact .of h
  · obtain ⟨g, y2, rfl, s4, ho4, hf4, P4⟩ := hP
    obtain ⟨s, hs, rfl⟩ := nvs_item hx
    have hsn := hp.lt s (List.mem_of_getElem? hs)
    obtain ⟨q4, l4⟩ := w.same s4
    have hr4 := l4.at_ s hsn
    -- least_missing([..])
    refine ⟨.ref a, rfl, nv s, rfl, a, _, (s : Int), _, rfl, rfl, .of l4.top, refs_at hsn, q4 s, rfl, ⟨_, .of hr4⟩, lcL (row W s) nv (fun _ => true) (fun t => nv (g.getD t 0)) (.of hr4) (by have := G.1.row_len s; omega) (fun t ht H5 Qy Qf s5 hy _ => ?_) (fun D H5 nD s5 hD => ?_)⟩
    · exact ⟨.ref fA, rfl, nv t, rfl, fA, _, (t : Int), _, rfl, rfl, .of (s5 _ _ hf4), at_getD (by rw [P4.len]; exact G.1.lt s t ht), hy rfl H5 (Same.refl _)⟩
    · rw [List.filter_eq_self.mpr (fun _ _ => rfl)] at hD
      have hD2 : H5 D = some (.lst (nvs (vals g (row W s)))) := by rw [hD, nvs, vals, List.map_map]; rfl
      refine ⟨D, _, rfl, .of hD2, ?_⟩
      have hf5 := s5 _ _ hf4
      -- found[spot] = ..
      refine ⟨.ref fA, rfl, nv s, rfl, fA, _, (s : Int), s, rfl, rfl, hf5, ix_at (by rw [nvs_length, P4.len]; exact hsn), _, some (nv s), rfl, (s4.trans s5).mut nfH, ?_, ?_, P4.turn hp hs⟩
      · rw [upd_ne of_]
        exact s5 _ _ ho4
      · rw [upd_same, nvs_set]
  · obtain ⟨g, y2, rfl, s4, ho4, hf4, P4⟩ := hP
    rw [nvs_length] at P4
    exact ⟨.ref fA, rfl, k g fA H4 (P4.stop G hp) nfH s4 hf4⟩
def sp_lengths_of (K : PySem.W.Frag) : Sp := fun vs H Q E => ∃ x, vs = [x] ∧ WArg K x H E fun _ W => ∀ (g : List Nat) (p : Addr) (H' : Hp), IsF lenF W g → H p = none → Same H H' → H' p = some (.lst (nvs g)) → Q (.ref p) H'
/-- slots: 0 web, 1 found, 2 spot, 3 other -/
def N_lengths_of : List Str := ["web", "found", "spot", "other"]
def t_lengths_of (K : PySem.W.Frag) (E : XK) : TS :=
    tSeq (tDrop (tCall (sp_need_game K) [] E (tCons (tVar 0) (tNil))))
    (tSeq (tAsg (tOp rRep (tLst (tCons (tC (.int 0)) (tNil))) (tCB (rLen K) (tCons (tVar 0) (tNil)))) (gName 1))
    (tSeq (tFor (iList K (tCall (sp_play_order K) [] E0 (tCons (tVar 0) (tNil)))) (gName 2) (tIfS (tTest (tOp rGt (tCB (rLen K) (tCons (tOp (rIxL K) (tVar 0) (tVar 2)) (tNil))) (tC (.int 0)))) (tAsg (tOp rAdd (tC (.int 1)) (tCB (rMax K) (tCons (tLc (iList K (tOp (rIxL K) (tVar 0) (tVar 2))) (gName 3) (tYes) (tOp (rIxL K) (tVar 1) (tVar 3)) [3]) (tNil)))) (gSub (tVar 1) (tVar 2) rSetL)) (tNext)))
    (tRet (tVar 1))))
theorem r_lengths_of {K : PySem.W.Frag} (vs : List V) (H : Hp) (Q : VK) (E : XK) (h : sp_lengths_of K vs H Q E) : t_lengths_of K E { nx := fun _ H' => Q .non H', rt := Q } (start N_lengths_of vs) H := by
  obtain ⟨x, rfl, h⟩ := h
  rcases h with ⟨d, hd, hb, he⟩ | ⟨a, W, rfl, w, F, hn, he⟩ | ⟨a, W, rfl, w, G, k⟩
  · exact ⟨x, rfl, x, rfl, .inl ⟨d, hd, hb, he⟩⟩
  · exact ⟨.ref a, rfl, .ref a, rfl, .inr (.inl ⟨a, W, rfl, w, F, hn, he⟩)⟩
  have hle := G.1.le
  refine ⟨.ref a, rfl, .ref a, rfl, .inr (.inr ⟨a, W, rfl, w, G, fun H1 s1 => ?_⟩)⟩
  obtain ⟨q, l⟩ := w.same s1
  refine ⟨line_le (Nat.le_of_ble_eq_true rfl), fun p np => ⟨.ref a, rfl, a, _, rfl, .inl (.of (same_new np _ _ l.top)), p, _, _, rfl, rfl, upd_same, by omega, by rw [refs_len]; omega, ?_, fun fA nf => ?_⟩⟩
  · rw [refs_len]
    exact line_le (by show 1 * _ ≤ _; omega)
  have sP : Same H1 (upd H1 p (.lst [V.int 0])) := same_new np
  have nfH : H fA = none := (s1.trans sP).free nf
  have s2 : Same H (upd (upd H1 p (.lst [V.int 0])) fA (.lst (List.replicate ((refs W.length q).length : Int).toNat [V.int 0]).flatten)) := (s1.trans sP).new nf
  have hf2 : (upd (upd H1 p (.lst [V.int 0])) fA (.lst (List.replicate ((refs W.length q).length : Int).toNat [V.int 0]).flatten)) fA = some (.lst (nvs (List.replicate W.length 0))) := by
    rw [upd_same, flat_rep, refs_len, Int.toNat_natCast, nvs_rep]
    rfl
  generalize upd (upd H1 p (.lst [V.int 0])) fA (.lst (List.replicate ((refs W.length q).length : Int).toNat [V.int 0]).flatten) = H2 at s2 hf2
  refine ⟨.ref a, rfl, a, W, rfl, w.same s2, G.1, fun o oA H3 hp no s3 ho => ?_⟩
  have of_ : oA ≠ fA := (ne_of_none hf2 no).symm
  have noH := s2.free no
  refine ⟨oA, rfl, ⟨_, .of ho⟩, for_list (xs := nvs o) (fun i σ H4 => ∃ (g : List Nat) (y2 : Option V), σ = [some (.ref a), some (.ref fA), y2, none] ∧ Same H H4 ∧ H4 oA = some (.lst (nvs o)) ∧ H4 fA = some (.lst (nvs g)) ∧ PartF lenF W o i g)
    ⟨_, none, rfl, s2.trans s3, ho, s3 _ _ hf2, PartF.start lenF W o⟩ (fun i σ H4 _ hP => ?_) (fun i x σ H4 hx hP => ?_) (fun σ H4 hP => ?_)⟩
  · obtain ⟨_, _, _, _, h, _⟩ := hP
    exact .of h
  · obtain ⟨g, y2, rfl, s4, ho4, hf4, P4⟩ := hP
    obtain ⟨s, hs, rfl⟩ := nvs_item hx
    have hsn := hp.lt s (List.mem_of_getElem? hs)
    obtain ⟨q4, l4⟩ := w.same s4
    have hr4 := l4.at_ s hsn
    refine ⟨.ref a, rfl, nv s, rfl, a, _, (s : Int), _, rfl, rfl, .of l4.top, refs_at hsn, q4 s, _, rfl, .inl (.of hr4), _, 0, rfl, rfl, _, rfl, ite2 (fun c => ?_) (fun c => ?_)⟩
    · refine ⟨.ref a, rfl, nv s, rfl, a, _, (s : Int), _, rfl, rfl, .of l4.top, refs_at hsn, q4 s, rfl, ⟨_, .of hr4⟩, lcL (row W s) nv (fun _ => true) (fun t => nv (g.getD t 0)) (.of hr4) (by have := G.1.row_len s; omega) (fun t ht H5 Qy Qf s5 hy _ => ?_) (fun D H5 nD s5 hD => ?_)⟩
      · exact ⟨.ref fA, rfl, nv t, rfl, fA, _, (t : Int), _, rfl, rfl, .of (s5 _ _ hf4), at_getD (by rw [P4.len]; exact G.1.lt s t ht), hy rfl H5 (Same.refl _)⟩
      · rw [List.filter_eq_self.mpr (fun _ _ => rfl)] at hD
        have hD2 : H5 D = some (.lst ((vals g (row W s)).map (fun n : Nat => (n : Int)) |>.map V.int)) := by rw [← nvs_int, hD, nvs, vals, List.map_map]; rfl
        refine ⟨D, _, rfl, .of hD2, ?_, fun m hm hge => ?_⟩
        · rw [List.length_map, vals_length]
          have := of_decide_eq_true c
          rw [nvs_length] at this
          omega
        obtain ⟨m', hm', rfl⟩ := List.mem_map.mp hm
        have hmx : lenF (vals g (row W s)) = 1 + m' := lenF_max hm' fun x hx => Int.ofNat_le.mp (hge _ (List.mem_map.mpr ⟨x, hx, rfl⟩))
        have hf5 := s5 _ _ hf4
        refine ⟨1, _, rfl, rfl, .ref fA, rfl, nv s, rfl, fA, _, (s : Int), s, rfl, rfl, hf5, ix_at (by rw [nvs_length, P4.len]; exact hsn), _, some (nv s), rfl, (s4.trans s5).mut nfH, ?_, ?_, P4.turn hp hs⟩
        · rw [upd_ne of_]
          exact s5 _ _ ho4
        · rw [upd_same, hmx, ← nvs_set]
          rfl
    · have h0 : row W s = [] := by
        cases e : row W s with
        | nil => rfl
        | cons x t =>
          rw [wrow, nvs_length, e, List.length_cons] at c
          exact absurd (decide_eq_true (by omega)) c
      refine ⟨g, some (nv s), rfl, s4, ho4, hf4, ?_⟩
      have hno := P4.no s (not_take hp.nd hs)
      have hlt : s < g.length := by rw [P4.len]; exact hsn
      have e : g = g.set s (lenF (vals g (row W s))) := by
        rw [h0]
        refine ext_getD (by rw [List.length_set]) fun t ht => ?_
        rw [getD_set hlt]
        by_cases e : s = t
        · subst e
          rw [if_pos rfl, hno]
          rfl
        · rw [if_neg e]
      rw [e]
      exact P4.turn hp hs
  · obtain ⟨g, y2, rfl, s4, ho4, hf4, P4⟩ := hP
    rw [nvs_length] at P4
    exact ⟨.ref fA, rfl, k g fA H4 (P4.stop G hp) nfH s4 hf4⟩
/-! ### shown_moves, and the law on it -/
structure Shows (W : List (List Nat)) (g : List Nat) (s : Nat) (m : List Nat) : Prop where
  len : m.length = g.getD s 0
  at_ : ∀ k < m.length, ∃ t, m[k]? = some t ∧ t ∈ row W s ∧ g.getD t 0 = k
theorem idx_at {l : List Nat} {n : Nat} (h : n ∈ l) : l[l.idxOf n]? = some n := by
  have h1 : l.idxOf n < l.length := List.idxOf_lt_length_iff.mpr h
  rw [List.getElem?_eq_getElem h1]
  exact congrArg some (List.getElem_idxOf h1)
theorem idx_first : ∀ {l : List Nat} {n m z : Nat}, m < l.idxOf n → l[m]? = some z → z ≠ n
  | a :: r, n, 0, z, h, hz, e => by
    have e1 : a = z := Option.some.inj hz
    subst e1
    subst e
    rw [List.idxOf_cons_self] at h
    exact absurd h (Nat.not_lt_zero _)
  | a :: r, n, m + 1, z, h, hz, e => by
    by_cases ea : a = n
    · subst ea
      rw [List.idxOf_cons_self] at h
      exact absurd h (Nat.not_lt_zero _)
    · have h2 : (a :: r).idxOf n = r.idxOf n + 1 := by
        rw [List.idxOf_cons, beq_eq_false_iff_ne.mpr ea]
        rfl
      rw [h2] at h
      exact idx_first (l := r) (n := n) (m := m) (z := z) (by omega) hz e
def sp_shown_moves (K : PySem.W.Frag) : Sp := fun vs H Q E => ∃ (x : V) (s : Nat), vs = [x, nv s] ∧ WArg K x H E fun _ W => s < W.length ∧ ∀ (g m : List Nat) (p : Addr) (H' : Hp), IsF mex W g → Shows W g s m → H p = none → Same H H' → H' p = some (.lst (nvs m)) → Q (.ref p) H'
/-- slots: 0 web, 1 spot, 2 numbers, 3 ahead, 4 other, 5 number -/
def N_shown_moves : List Str := ["web", "spot", "numbers", "ahead", "other", "number"]
def t_shown_moves (K : PySem.W.Frag) (E : XK) : TS :=
    tSeq (tAsg (tCall (sp_numbers_of K) [] E (tCons (tVar 0) (tNil))) (gName 2))
    (tSeq (tAsg (tLc (iList K (tOp (rIxL K) (tVar 0) (tVar 1))) (gName 4) (tYes) (tOp (rIxL K) (tVar 2) (tVar 4)) [4]) (gName 3))
    (tRet (tLc (iRng1 (tCons (tOp (rIxL K) (tVar 2) (tVar 1)) (tNil))) (gName 5) (tYes) (tOp (rIxL K) (tOp (rIxL K) (tVar 0) (tVar 1)) (tBM K "list" (rIndex K) (tVar 3) (tCons (tVar 5) (tNil)))) [5])))
theorem r_shown_moves {K : PySem.W.Frag} (vs : List V) (H : Hp) (Q : VK) (E : XK) (h : sp_shown_moves K vs H Q E) : t_shown_moves K E { nx := fun _ H' => Q .non H', rt := Q } (start N_shown_moves vs) H := by
  obtain ⟨x, s, rfl, h⟩ := h
  rcases h with ⟨d, hd, hb, he⟩ | ⟨a, W, rfl, w, F, hn, he⟩ | ⟨a, W, rfl, w, G, hs, k⟩
  · exact ⟨x, rfl, x, rfl, .inl ⟨d, hd, hb, he⟩⟩
  · exact ⟨.ref a, rfl, .ref a, rfl, .inr (.inl ⟨a, W, rfl, w, F, hn, he⟩)⟩
  refine ⟨.ref a, rfl, .ref a, rfl, .inr (.inr ⟨a, W, rfl, w, G, fun g fA H1 hg nf s1 hf => ?_⟩)⟩
  obtain ⟨q, l⟩ := w.same s1
  have hr1 := l.at_ s hs
  have gl := hg.len
  -- ahead
  refine ⟨.ref a, rfl, nv s, rfl, a, _, (s : Int), _, rfl, rfl, .of l.top, refs_at hs, q s, rfl, ⟨_, .of hr1⟩, lcL (row W s) nv (fun _ => true) (fun t => nv (g.getD t 0)) (.of hr1) (by have := G.1.row_len s; omega) (fun t ht H3 Qy Qf s3 hy _ => ?_) (fun D H3 nD s3 hD => ?_)⟩
  · exact ⟨.ref fA, rfl, nv t, rfl, fA, _, (t : Int), _, rfl, rfl, .of (s3 _ _ hf), at_getD (by rw [gl]; exact G.1.lt s t ht), hy rfl H3 (Same.refl _)⟩
  · rw [List.filter_eq_self.mpr (fun _ _ => rfl)] at hD
    have hD2 : H3 D = some (.lst (nvs (vals g (row W s)))) := by rw [hD, nvs, vals, List.map_map]; rfl
    have mx := mex_is (vals g (row W s))
    rw [← hg.at_ s hs] at mx
    have hf3 := s3 _ _ hf
    have hgle : g.getD s 0 ≤ 200 := by
      rw [hg.at_ s hs]
      have h1 := mex_le (vals g (row W s))
      rw [vals_length] at h1
      have := G.1.row_len s
      omega
    have place : ∀ n < g.getD s 0, ∃ t, (row W s)[(vals g (row W s)).idxOf n]? = some t ∧ t ∈ row W s ∧ g.getD t 0 = n := fun n hn => by
      have h1 := idx_at (mx.all n hn)
      have h2 := h1
      unfold vals at h1
      rw [List.getElem?_map] at h1
      cases e : (row W s)[(List.map (fun t => g.getD t 0) (row W s)).idxOf n]? with
      | none => rw [e] at h1; cases h1
      | some t =>
        rw [e] at h1
        exact ⟨t, e, List.mem_of_getElem? e, Option.some.inj h1⟩
    refine ⟨.ref fA, rfl, nv s, rfl, fA, _, (s : Int), _, rfl, rfl, .of hf3, at_getD (by rw [gl]; exact hs), _, rfl, by omega, by omega, ?_⟩
    rw [Int.toNat_natCast]
    refine lcR (n := g.getD s 0) (fun _ => true) (fun n => nv ((row W s).getD ((vals g (row W s)).idxOf n) 0)) (by omega) (fun n hn H4 Qy Qf s4 hy _ => ?_) (fun p H4 np s4 hp => ?_)
    · obtain ⟨t, ht, _, _⟩ := place n hn
      have l4 := (l.same s3).same s4
      refine ⟨.ref a, rfl, nv s, rfl, a, _, (s : Int), _, rfl, rfl, .of l4.top, refs_at hs, .ref D, rfl, .inl ⟨rfl, _, .of (s4 _ _ hD2)⟩, nv n, rfl, D, _, nv n, (vals g (row W s)).idxOf n, nv n, rfl, rfl, .of (s4 _ _ hD2), rfl, flat_nvs _, nvs_get (idx_at (mx.all n hn)), beq_self_eq_true _, fun m z' hm hz => ?_, q s, _, ((vals g (row W s)).idxOf n : Int), nv t, rfl, rfl, .of (l4.at_ s hs), nvs_at ht, ?_⟩
      · obtain ⟨z, hz2, rfl⟩ := nvs_item hz
        have := idx_first hm hz2
        show ((z : Int) == (n : Int)) = false
        rw [beq_eq_false_iff_ne]
        omega
      · have e : nv t = nv ((row W s).getD ((vals g (row W s)).idxOf n) 0) := by rw [List.getD_eq_getElem?_getD, ht]; rfl
        rw [e]
        exact hy rfl H4 (Same.refl _)
    · rw [List.filter_eq_self.mpr (fun _ _ => rfl)] at hp
      have hp2 : H4 p = some (.lst (nvs ((List.range (g.getD s 0)).map fun n => (row W s).getD ((vals g (row W s)).idxOf n) 0))) := by rw [hp, nvs, List.map_map]; rfl
      refine k g _ p H4 hg ⟨by rw [List.length_map, List.length_range], fun n hn => ?_⟩ (s1.free (s3.free np)) ((s1.trans s3).trans s4) hp2
      rw [List.length_map, List.length_range] at hn
      obtain ⟨t, ht, hm, e⟩ := place n hn
      refine ⟨t, ?_, hm, e⟩
      rw [List.getElem?_map, List.getElem?_range hn]
      show some ((row W s).getD _ 0) = some t
      rw [List.getD_eq_getElem?_getD, ht]
      rfl
/-! ### rows -/
def sp_moves_in (K : PySem.W.Frag) : Sp := fun vs H Q E => ∃ (x y : V), vs = [x, y] ∧ WArg K x H E fun _ W => RArg K y W H E fun _ R => ∀ (p : Addr) (H' : Hp), H p = none → Same H H' → Mvs H' p (mvs W R) → Q (.ref p) H'
/-- slots: 0 web, 1 row -/
def N_moves_in : List Str := ["web", "row"]
def t_moves_in (K : PySem.W.Frag) (E : XK) : TS :=
    tSeq (tDrop (tCall (sp_need_game K) [] E (tCons (tVar 0) (tNil))))
    (tSeq (tDrop (tCall (sp_need_row K) [] E (tCons (tVar 0) (tCons (tVar 1) (tNil)))))
    (tRet (tCall (sp_moves_of K) [] E0 (tCons (tVar 0) (tCons (tVar 1) (tNil))))))
theorem r_moves_in {K : PySem.W.Frag} (vs : List V) (H : Hp) (Q : VK) (E : XK) (h : sp_moves_in K vs H Q E) : t_moves_in K E { nx := fun _ H' => Q .non H', rt := Q } (start N_moves_in vs) H := by
  obtain ⟨x, y, rfl, h⟩ := h
  rcases h with ⟨d, hd, hb, he⟩ | ⟨a, W, rfl, w, F, hn, he⟩ | ⟨a, W, rfl, w, G, h2⟩
  · exact ⟨x, rfl, x, rfl, .inl ⟨d, hd, hb, he⟩⟩
  · exact ⟨.ref a, rfl, .ref a, rfl, .inr (.inl ⟨a, W, rfl, w, F, hn, he⟩)⟩
  refine ⟨.ref a, rfl, .ref a, rfl, .inr (.inr ⟨a, W, rfl, w, G, fun H1 s1 => ?_⟩)⟩
  rcases h2 with ⟨d, hd, hb, he⟩ | ⟨r, R, rfl, hr, ok, k⟩
  · exact ⟨.ref a, rfl, y, rfl, a, y, W, rfl, w.same s1, .inl ⟨d, hd.same s1, hb, he.same s1⟩⟩
  refine ⟨.ref a, rfl, .ref r, rfl, a, .ref r, W, rfl, w.same s1, .inr ⟨r, R, rfl, s1 _ _ hr, ok, fun H2 s2 => ?_⟩⟩
  have s12 := s1.trans s2
  exact ⟨.ref a, rfl, .ref r, rfl, a, r, W, R, rfl, w.same s12, G.1, s12 _ _ hr, ok, fun p H3 np s3 M _ => k p H3 (s12.free np) (s12.trans s3) M⟩
def sp_row_number (K : PySem.W.Frag) : Sp := fun vs H Q E => ∃ (x y : V), vs = [x, y] ∧ WArg K x H E fun _ W => RArg K y W H E fun _ R => ∀ (g : List Nat) (H' : Hp), IsF mex W g → Same H H' → Q (nv (xo (vals g R))) H'
/-- slots: 0 web, 1 row, 2 numbers, 3 spot -/
def N_row_number : List Str := ["web", "row", "numbers", "spot"]
def t_row_number (K : PySem.W.Frag) (E : XK) : TS :=
    tSeq (tAsg (tCall (sp_numbers_of K) [] E (tCons (tVar 0) (tNil))) (gName 2))
    (tSeq (tDrop (tCall (sp_need_row K) [] E (tCons (tVar 0) (tCons (tVar 1) (tNil)))))
    (tRet (tCall (sp_laid_over K) [] E0 (tCons (tLc (iList K (tVar 1)) (gName 3) (tYes) (tOp (rIxL K) (tVar 2) (tVar 3)) [3]) (tNil)))))
theorem r_row_number {K : PySem.W.Frag} (vs : List V) (H : Hp) (Q : VK) (E : XK) (h : sp_row_number K vs H Q E) : t_row_number K E { nx := fun _ H' => Q .non H', rt := Q } (start N_row_number vs) H := by
  obtain ⟨x, y, rfl, h⟩ := h
  rcases h with ⟨d, hd, hb, he⟩ | ⟨a, W, rfl, w, F, hn, he⟩ | ⟨a, W, rfl, w, G, h2⟩
  · exact ⟨x, rfl, x, rfl, .inl ⟨d, hd, hb, he⟩⟩
  · exact ⟨.ref a, rfl, .ref a, rfl, .inr (.inl ⟨a, W, rfl, w, F, hn, he⟩)⟩
  refine ⟨.ref a, rfl, .ref a, rfl, .inr (.inr ⟨a, W, rfl, w, G, fun g gA H1 hg _ s1 hgA => ?_⟩)⟩
  rcases h2 with ⟨d, hd, hb, he⟩ | ⟨r, R, rfl, hr, ok, k⟩
  · exact ⟨.ref a, rfl, y, rfl, a, y, W, rfl, w.same s1, .inl ⟨d, hd.same s1, hb, he.same s1⟩⟩
  have hl := ok.len
  refine ⟨.ref a, rfl, .ref r, rfl, a, .ref r, W, rfl, w.same s1, .inr ⟨r, R, rfl, s1 _ _ hr, ok, fun H2 s2 => ?_⟩⟩
  have s12 := s1.trans s2
  have hg2 := s2 _ _ hgA
  refine ⟨.ref r, rfl, r, rfl, ⟨_, .of (s12 _ _ hr)⟩, lcL R nv (fun _ => true) (fun t => nv (g.getD t 0)) (.of (s12 _ _ hr)) (by omega) (fun t ht H3 Qy Qf s3 hy _ => ?_) (fun D H3 _ s3 hD => ?_)⟩
  · exact ⟨.ref gA, rfl, nv t, rfl, gA, _, (t : Int), _, rfl, rfl, .of (s3 _ _ hg2), at_getD (by rw [hg.len]; exact ok.lt t ht), hy rfl H3 (Same.refl _)⟩
  · rw [List.filter_eq_self.mpr (fun _ _ => rfl)] at hD
    have hD2 : H3 D = some (.lst (nvs (vals g R))) := by rw [hD, nvs, vals, List.map_map]; rfl
    exact ⟨D, vals g R, rfl, .of hD2, by rw [vals_length]; omega, vals_lt G hg R, fun H4 s4 => k g H4 hg ((s12.trans s3).trans s4)⟩
def sp_is_lost (K : PySem.W.Frag) : Sp := fun vs H Q E => ∃ (x y : V), vs = [x, y] ∧ WArg K x H E fun _ W => RArg K y W H E fun _ R => ∀ (b : Bool) (H' : Hp), Same H H' → Q (.bl b) H'
/-- slots: 0 web, 1 row -/
def N_is_lost : List Str := ["web", "row"]
def t_is_lost (K : PySem.W.Frag) (E : XK) : TS :=
    tRet (tOp rEq (tCall (sp_row_number K) [] E (tCons (tVar 0) (tCons (tVar 1) (tNil)))) (tC (.int 0)))
theorem r_is_lost {K : PySem.W.Frag} (vs : List V) (H : Hp) (Q : VK) (E : XK) (h : sp_is_lost K vs H Q E) : t_is_lost K E { nx := fun _ H' => Q .non H', rt := Q } (start N_is_lost vs) H := by
  obtain ⟨x, y, rfl, h⟩ := h
  rcases h with ⟨d, hd, hb, he⟩ | ⟨a, W, rfl, w, F, hn, he⟩ | ⟨a, W, rfl, w, G, h2⟩
  · exact ⟨x, rfl, y, rfl, x, y, rfl, .inl ⟨d, hd, hb, he⟩⟩
  · exact ⟨.ref a, rfl, y, rfl, .ref a, y, rfl, .inr (.inl ⟨a, W, rfl, w, F, hn, he⟩)⟩
  rcases h2 with ⟨d, hd, hb, he⟩ | ⟨r, R, rfl, hr, ok, k⟩
  · exact ⟨.ref a, rfl, y, rfl, .ref a, y, rfl, .inr (.inr ⟨a, W, rfl, w, G, .inl ⟨d, hd, hb, he⟩⟩)⟩
  exact ⟨.ref a, rfl, .ref r, rfl, .ref a, .ref r, rfl, .inr (.inr ⟨a, W, rfl, w, G, .inr ⟨r, R, rfl, hr, ok, fun g H1 hg s1 => ⟨rfl, k _ H1 s1⟩⟩⟩)⟩
def sp_parting_row (K : PySem.W.Frag) : Sp := fun vs H Q E => ∃ (x y z : V), vs = [x, y, z] ∧ WArg K x H E fun _ W => RArg K y W H E fun _ A => RArg K z W H E fun _ B => ∀ (v : V) (H' : Hp), Same H H' → Q v H'
/-- slots: 0 web, 1 one, 2 other -/
def N_parting_row : List Str := ["web", "one", "other"]
def t_parting_row (K : PySem.W.Frag) (E : XK) : TS :=
    tSeq (tIfS (tTest (tOp rEq (tCall (sp_row_number K) [] E (tCons (tVar 0) (tCons (tVar 1) (tNil)))) (tCall (sp_row_number K) [] E (tCons (tVar 0) (tCons (tVar 2) (tNil)))))) (tRet (tC .non)) (tNext))
    (tSeq (tIfS (tTest (tOp rLe (tCB (rLen K) (tCons (tVar 1) (tNil))) (tCB (rLen K) (tCons (tVar 2) (tNil))))) (tRet (tCB (rList K) (tCons (tVar 1) (tNil)))) (tNext))
    (tRet (tCB (rList K) (tCons (tVar 2) (tNil)))))
theorem r_parting_row {K : PySem.W.Frag} (vs : List V) (H : Hp) (Q : VK) (E : XK) (h : sp_parting_row K vs H Q E) : t_parting_row K E { nx := fun _ H' => Q .non H', rt := Q } (start N_parting_row vs) H := by
  obtain ⟨x, y, z, rfl, h⟩ := h
  rcases h with ⟨d, hd, hb, he⟩ | ⟨a, W, rfl, w, F, hn, he⟩ | ⟨a, W, rfl, w, G, h2⟩
  · exact ⟨x, rfl, y, rfl, x, y, rfl, .inl ⟨d, hd, hb, he⟩⟩
  · exact ⟨.ref a, rfl, y, rfl, .ref a, y, rfl, .inr (.inl ⟨a, W, rfl, w, F, hn, he⟩)⟩
  rcases h2 with ⟨d, hd, hb, he⟩ | ⟨r, A, rfl, hr, okA, h3⟩
  · exact ⟨.ref a, rfl, y, rfl, .ref a, y, rfl, .inr (.inr ⟨a, W, rfl, w, G, .inl ⟨d, hd, hb, he⟩⟩)⟩
  refine ⟨.ref a, rfl, .ref r, rfl, .ref a, .ref r, rfl, .inr (.inr ⟨a, W, rfl, w, G, .inr ⟨r, A, rfl, hr, okA, fun g H1 hg s1 => ?_⟩⟩)⟩
  rcases h3 with ⟨d, hd, hb, he⟩ | ⟨s, B, rfl, hs, okB, k⟩
  · exact ⟨.ref a, rfl, z, rfl, .ref a, z, rfl, .inr (.inr ⟨a, W, rfl, w.same s1, G, .inl ⟨d, hd.same s1, hb, he.same s1⟩⟩)⟩
  refine ⟨.ref a, rfl, .ref s, rfl, .ref a, .ref s, rfl, .inr (.inr ⟨a, W, rfl, w.same s1, G, .inr ⟨s, B, rfl, s1 _ _ hs, okB, fun g2 H2 hg2 s2 => ?_⟩⟩)⟩
  have s12 := s1.trans s2
  refine ⟨rfl, _, rfl, ite2 (fun c => k _ H2 s12) (fun c => ?_)⟩
  have hr2 := s12 _ _ hr
  have hs2 := s12 _ _ hs
  refine ⟨.ref r, rfl, r, _, rfl, .inl (.of hr2), .ref s, rfl, s, _, rfl, .inl (.of hs2), _, _, rfl, rfl, _, rfl, ite2 (fun c3 => ?_) (fun c3 => ?_)⟩
  · exact ⟨.ref r, rfl, r, _, rfl, .inl (.of hr2), fun p np => k _ _ (s12.new np)⟩
  · exact ⟨.ref s, rfl, s, _, rfl, .inl (.of hs2), fun p np => k _ _ (s12.new np)⟩
/-! ### good moves -/
def goodM (W : List (List Nat)) (g R : List Nat) : List (Nat × Nat) := (mvs W R).filter fun m => decide (xo (vals g (R.set m.1 m.2)) = 0)
theorem lost_mvs {W : List (List Nat)} {g R : List Nat} (F : Form W) (hg : IsF mex W g) (hR : ∀ x ∈ R, x < W.length) : xo (vals g R) = 0 ↔ ∀ m ∈ mvs W R, xo (vals g (R.set m.1 m.2)) ≠ 0 := by
  rw [lost_iff hg hR]
  constructor
  · intro h m hm
    obtain ⟨h1, h2⟩ := (mem_mvs F).mp hm
    refine h m.1 (R.getD m.1 0) ?_ m.2 h2
    rw [List.getD_eq_getElem?_getD, List.getElem?_eq_getElem h1]
    rfl
  · intro h p s hp t ht
    refine h (p, t) ((mem_mvs F).mpr ⟨(List.getElem?_eq_some_iff.mp hp).1, ?_⟩)
    have es : R.getD p 0 = s := by rw [List.getD_eq_getElem?_getD, hp]; rfl
    rw [es]
    exact ht
theorem goodM_nil {W : List (List Nat)} {g R : List Nat} (F : Form W) (hg : IsF mex W g) (hR : ∀ x ∈ R, x < W.length) : goodM W g R = [] ↔ xo (vals g R) = 0 := by
  rw [lost_mvs F hg hR]
  constructor
  · intro h m hm z
    have : m ∈ goodM W g R := List.mem_filter.mpr ⟨hm, decide_eq_true z⟩
    rw [h] at this
    cases this
  · intro h
    refine List.filter_eq_nil_iff.mpr fun m hm z => h m hm (of_decide_eq_true z)
theorem goodM_mem {W : List (List Nat)} {g R : List Nat} {m : Nat × Nat} : m ∈ goodM W g R ↔ m ∈ mvs W R ∧ xo (vals g (R.set m.1 m.2)) = 0 := by
  unfold goodM
  rw [List.mem_filter, decide_eq_true_iff]
theorem goodM_len (W : List (List Nat)) (g R : List Nat) : (goodM W g R).length ≤ (mvs W R).length := List.length_filter_le _ _
def sp_good_moves (K : PySem.W.Frag) : Sp := fun vs H Q E => ∃ (x y : V), vs = [x, y] ∧ WArg K x H E fun _ W => RArg K y W H E fun _ R => ∀ (g : List Nat) (p : Addr) (H' : Hp), IsF mex W g → H p = none → Same H H' → Mvs H' p (goodM W g R) → (goodM W g R).length ≤ 4800 → Q (.ref p) H'
/-- slots: 0 web, 1 row, 2 numbers, 3 found, 4 move, 5 spot -/
def N_good_moves : List Str := ["web", "row", "numbers", "found", "move", "spot"]
def t_good_moves (K : PySem.W.Frag) (E : XK) : TS :=
    tSeq (tAsg (tCall (sp_numbers_of K) [] E (tCons (tVar 0) (tNil))) (gName 2))
    (tSeq (tDrop (tCall (sp_need_row K) [] E (tCons (tVar 0) (tCons (tVar 1) (tNil)))))
    (tSeq (tAsg (tLst (tNil)) (gName 3))
    (tSeq (tFor (iList K (tCall (sp_moves_of K) [] E0 (tCons (tVar 0) (tCons (tVar 1) (tNil))))) (gName 4) (tIfS (tTest (tOp rEq (tCall (sp_laid_over K) [] E0 (tCons (tLc (iList K (tCall (sp_behind K) [] E0 (tCons (tVar 1) (tCons (tVar 4) (tNil))))) (gName 5) (tYes) (tOp (rIxL K) (tVar 2) (tVar 5)) [5]) (tNil))) (tC (.int 0)))) (tDrop (tBM K "list" rAppend (tVar 3) (tCons (tVar 4) (tNil)))) (tNext)))
    (tRet (tVar 3)))))
theorem r_good_moves {K : PySem.W.Frag} (vs : List V) (H : Hp) (Q : VK) (E : XK) (h : sp_good_moves K vs H Q E) : t_good_moves K E { nx := fun _ H' => Q .non H', rt := Q } (start N_good_moves vs) H := by
  obtain ⟨x, y, rfl, h⟩ := h
  rcases h with ⟨d, hd, hb, he⟩ | ⟨a, W, rfl, w, F, hn, he⟩ | ⟨a, W, rfl, w, G, h2⟩
  · exact ⟨x, rfl, x, rfl, .inl ⟨d, hd, hb, he⟩⟩
  · exact ⟨.ref a, rfl, .ref a, rfl, .inr (.inl ⟨a, W, rfl, w, F, hn, he⟩)⟩
  refine ⟨.ref a, rfl, .ref a, rfl, .inr (.inr ⟨a, W, rfl, w, G, fun g gA H1 hg _ s1 hgA => ?_⟩)⟩
  rcases h2 with ⟨d, hd, hb, he⟩ | ⟨r, R, rfl, hr, ok, k⟩
  · exact ⟨.ref a, rfl, y, rfl, a, y, W, rfl, w.same s1, .inl ⟨d, hd.same s1, hb, he.same s1⟩⟩
  have hlen := ok.len
  refine ⟨.ref a, rfl, .ref r, rfl, a, .ref r, W, rfl, w.same s1, .inr ⟨r, R, rfl, s1 _ _ hr, ok, fun H2 s2 => ?_⟩⟩
  have s12 := s1.trans s2
  refine ⟨Nat.zero_le _, fun fA nf => ?_⟩
  have nfH := s12.free nf
  have s3 := s12.new (o := .lst []) nf
  have hg3 := same_new (o := .lst []) nf _ _ (s2 _ _ hgA)
  have M3 : Mvs (upd H2 fA (.lst [])) fA [] := .nil upd_same
  have gf : gA ≠ fA := ne_of_none (s2 _ _ hgA) nf
  generalize upd H2 fA (.lst []) = H3 at s3 hg3 M3
  refine ⟨.ref a, rfl, .ref r, rfl, a, r, W, R, rfl, w.same s3, G.1, s3 _ _ hr, ok, fun mA H4 nm s4 MA ml => ?_⟩
  have s04 := s3.trans s4
  have hg4 := s4 _ _ hg3
  have M4 := M3.same s4
  obtain ⟨xs, hx, xl, get⟩ := MA.get
  have mf : mA ≠ fA := by
    obtain ⟨zs, h1, _⟩ := M3
    exact (ne_of_none h1 nm).symm
  refine ⟨mA, rfl, ⟨_, .of hx⟩, for_list (xs := xs) (fun i σ H5 => ∃ y4 : Option V, σ = [some (.ref a), some (.ref r), some (.ref gA), some (.ref fA), y4, none] ∧ Same H H5 ∧ H5 gA = some (.lst (nvs g)) ∧ H5 mA = some (.lst xs) ∧ (∀ (i : Nat) (k : Nat × Nat), (mvs W R)[i]? = some k → ∃ p, xs[i]? = some (.ref p) ∧ H5 p = some (.tup [nv k.1, nv k.2])) ∧ Mvs H5 fA (((mvs W R).take i).filter fun m => decide (xo (vals g (R.set m.1 m.2)) = 0)))
    ⟨none, rfl, s04, hg4, hx, get, M4⟩ (fun i σ H5 _ hP => ?_) (fun i x σ H5 hi hP => ?_) (fun σ H5 hP => ?_)⟩
  · obtain ⟨_, _, _, _, h5, _⟩ := hP
    exact .of h5
  · obtain ⟨y4, rfl, s5, hg5, hx5, get5, M5⟩ := hP
    have hil := (List.getElem?_eq_some_iff.mp hi).1
    have hm : (mvs W R)[i]? = some ((mvs W R)[i]'(by omega)) := List.getElem?_eq_getElem (by omega)
    generalize (mvs W R)[i]'(by omega) = m at hm
    obtain ⟨p, hp, ht⟩ := get5 i m hm
    rw [hi] at hp
    have ex : x = V.ref p := Option.some.inj hp
    subst ex
    have hmm := List.mem_of_getElem? hm
    obtain ⟨m1, m2⟩ := (mem_mvs G.1).mp hmm
    have okS := rowOk_set G.1 ok hmm
    have et : (mvs W R).take (i + 1) = (mvs W R).take i ++ [m] := by
      rw [List.take_add_one, hm]
      rfl
    refine ⟨.ref r, rfl, .ref p, rfl, r, p, R, m, rfl, s5 _ _ hr, by omega, ht, m1, fun bA H6 nb s6 hb => ?_⟩
    have hg6 := s6 _ _ hg5
    have lS := okS.len
    refine ⟨bA, rfl, ⟨_, .of hb⟩, lcL (R.set m.1 m.2) nv (fun _ => true) (fun t => nv (g.getD t 0)) (.of hb) (by omega) (fun t ht H7 Qy Qf s7 hy _ => ?_) (fun D H7 _ s7 hD => ?_)⟩
    · exact ⟨.ref gA, rfl, nv t, rfl, gA, _, (t : Int), _, rfl, rfl, .of (s7 _ _ hg6), at_getD (by rw [hg.len]; exact okS.lt t ht), hy rfl H7 (Same.refl _)⟩
    rw [List.filter_eq_self.mpr (fun _ _ => rfl)] at hD
    have hD2 : H7 D = some (.lst (nvs (vals g (R.set m.1 m.2)))) := by rw [hD, nvs, vals, List.map_map]; rfl
    refine ⟨D, vals g (R.set m.1 m.2), rfl, .of hD2, by rw [vals_length]; omega, vals_lt G hg _, fun H8 s8 => ⟨rfl, decide (xo (vals g (R.set m.1 m.2)) = 0), congrArg V.bl (dec_nv _ 0), ite2 (fun c => ?_) (fun c => ?_)⟩⟩
    · have s58 := (s6.trans s7).trans s8
      have s08 := s5.trans s58
      obtain ⟨ys, hys, yl, grow⟩ := (M5.same s58).grow
      have hyl : ys.length ≤ 4800 := by
        have h1 := List.length_filter_le (fun m : Nat × Nat => decide (xo (vals g (R.set m.1 m.2)) = 0)) ((mvs W R).take i)
        rw [List.length_take] at h1
        omega
      refine ⟨.ref fA, rfl, .inl ⟨rfl, _, .of hys⟩, .ref p, rfl, fA, _, _, rfl, rfl, hys, line_lt (by omega), some (.ref p), rfl, s08.mut nfH, ?_, ?_, fun i2 k2 hk2 => ?_, ?_⟩
      · rw [upd_ne gf]
        exact s58 _ _ hg5
      · rw [upd_ne mf]
        exact s58 _ _ hx5
      · obtain ⟨p2, hp2, ht2⟩ := get5 i2 k2 hk2
        refine ⟨p2, hp2, ?_⟩
        have ne : p2 ≠ fA := fun e => by
          have h1 := s58 _ _ ht2
          rw [e, hys] at h1
          cases h1
        rw [upd_ne ne]
        exact s58 _ _ ht2
      · have M9 := grow H8 p m (Same.refl _) (s58 _ _ ht)
        rw [et, List.filter_append, List.filter_cons, if_pos c]
        exact M9
    · have s58 := (s6.trans s7).trans s8
      refine ⟨some (.ref p), rfl, s5.trans s58, s58 _ _ hg5, s58 _ _ hx5, fun i2 k2 hk2 => ?_, ?_⟩
      · obtain ⟨p2, hp2, ht2⟩ := get5 i2 k2 hk2
        exact ⟨p2, hp2, s58 _ _ ht2⟩
      · rw [et, List.filter_append, List.filter_cons, if_neg c, List.filter_nil, List.append_nil]
        exact M5.same s58
  · obtain ⟨y4, rfl, s5, hg5, _, _, M5⟩ := hP
    rw [xl, List.take_length] at M5
    exact ⟨.ref fA, rfl, k g fA H5 hg nfH s5 M5 (by have := goodM_len W g R; omega)⟩
/-! ### moves that are none -/
inductive OddM (H : Hp) (nr nw : Nat) : V → Prop
  | int (z : Int) : OddM H nr nw (.int z)
  | non : OddM H nr nw .non
  | lst {p : Addr} {xs : List V} (h : H p = some (.lst xs)) : OddM H nr nw (.ref p)
  | len {p : Addr} {xs : List V} (h : H p = some (.tup xs)) (hl : xs.length ≠ 2) : OddM H nr nw (.ref p)
  | two {p : Addr} {x y : V} {o o2 : Option Int} (h : H p = some (.tup [x, y])) (ex : El H x o) (ey : El H y o2) (hb : (numOk ((nr : Int) - 1) o && numOk ((nw : Int) - 1) o2) = false) : OddM H nr nw (.ref p)
theorem OddM.same {H H1 : Hp} {nr nw : Nat} {m : V} (h : OddM H nr nw m) (s : Same H H1) : OddM H1 nr nw m := by
  cases h with
  | int z => exact .int z
  | non => exact .non
  | lst h => exact .lst (s _ _ h)
  | len h hl => exact .len (s _ _ h) hl
  | two h ex ey hb => exact .two (s _ _ h) (ex.same s) (ey.same s) hb
theorem kIT : kitB "int" "tuple" = some false := by decide +kernel
theorem kNT : kitB "NoneType" "tuple" = some false := by decide +kernel
theorem kLT : kitB "list" "tuple" = some false := by decide +kernel
def sp_is_move (K : PySem.W.Frag) : Sp := fun vs H Q _ => ∃ (a r : Addr) (m : V) (W : List (List Nat)) (R : List Nat), vs = [.ref a, .ref r, m] ∧ Web H a W ∧ H r = some (.lst (nvs R)) ∧ OddM H R.length W.length m ∧ Q (.bl false) H
/-- slots: 0 web, 1 row, 2 move -/
def N_is_move : List Str := ["web", "row", "move"]
def t_is_move (K : PySem.W.Frag) : TS :=
    tSeq (tIfS (tOr (tNot (tB (tCB (rIsi K) (tCons (tVar 2) (tCons (tC (.ty "tuple")) (tNil)))))) (tTest (tOp rNe (tCB (rLen K) (tCons (tVar 2) (tNil))) (tC (.int 2))))) (tRet (tC (.bl false))) (tNext))
    (tSeq (tIfS (tOr (tNot (tB (tCall (sp_is_number K) [] E0 (tCons (tOp (rIxT K) (tVar 2) (tC (.int 0))) (tCons (tOp rSub (tCB (rLen K) (tCons (tVar 1) (tNil))) (tC (.int 1))) (tNil)))))) (tNot (tB (tCall (sp_is_number K) [] E0 (tCons (tOp (rIxT K) (tVar 2) (tC (.int 1))) (tCons (tOp rSub (tCB (rLen K) (tCons (tVar 0) (tNil))) (tC (.int 1))) (tNil))))))) (tRet (tC (.bl false))) (tNext))
    (tRet (tOp (rIn K false) (tOp (rIxT K) (tVar 2) (tC (.int 1))) (tOp (rIxL K) (tVar 0) (tOp (rIxL K) (tVar 1) (tOp (rIxT K) (tVar 2) (tC (.int 0))))))))
theorem r_is_move {K : PySem.W.Frag} (vs : List V) (H : Hp) (Q : VK) (E : XK) (h : sp_is_move K vs H Q E) : t_is_move K { nx := fun _ H' => Q .non H', rt := Q } (start N_is_move vs) H := by
  obtain ⟨a, r, m, W, R, rfl, ⟨q, l⟩, hr, hm, k⟩ := h
  cases hm with
  | int z => exact ⟨.int z, rfl, _, _, _, _, _, rfl, .ty _, .base (.int _), kit_ty kIT, false, rfl, iteT k⟩
  | non => exact ⟨.non, rfl, _, _, _, _, _, rfl, .ty _, .base .non, kit_ty kNT, false, rfl, iteT k⟩
  | @lst p xs h => exact ⟨.ref p, rfl, _, _, _, _, _, rfl, .ty _, .base (.lst h), kit_ty kLT, false, rfl, iteT k⟩
  | @len p xs h hl =>
    refine ⟨.ref p, rfl, _, _, _, _, _, rfl, .ty _, .base (.tup h), kit_ty kTT, true, rfl, iteF ⟨.ref p, rfl, p, _, rfl, .inr (.of h), rfl, true, ?_, iteT k⟩⟩
    refine congrArg V.bl ?_
    rw [Bool.not_eq_true', decide_eq_false_iff_not]
    intro e
    have := V.int.inj e
    omega
  | @two p x y o o2 h ex ey hb =>
    refine ⟨.ref p, rfl, _, _, _, _, _, rfl, .ty _, .base (.tup h), kit_ty kTT, true, rfl, iteF ⟨.ref p, rfl, p, _, rfl, .inr (.of h), rfl, false, rfl, iteF ?_⟩⟩
    refine ⟨.ref p, rfl, p, _, 0, x, rfl, rfl, .of h, rfl, .ref r, rfl, r, _, rfl, .inl (.of hr), _, 1, rfl, rfl, x, o, (R.length : Int) - 1, by rw [nvs_length]; rfl, ex, ?_⟩
    cases e1 : numOk ((R.length : Int) - 1) o with
    | false => exact ⟨false, rfl, iteT k⟩
    | true =>
      rw [e1, Bool.true_and] at hb
      refine ⟨true, rfl, iteF ⟨.ref p, rfl, p, _, 1, y, rfl, rfl, .of h, rfl, .ref a, rfl, a, _, rfl, .inl (.of l.top), _, 1, rfl, rfl, y, o2, (W.length : Int) - 1, by rw [refs_len]; rfl, ey, ?_⟩⟩
      rw [hb]
      exact ⟨false, rfl, iteT k⟩
def sp_played (K : PySem.W.Frag) : Sp := fun vs H Q E => ∃ (x y m : V), vs = [x, y, m] ∧ WArg K x H E fun _ W => RArg K y W H E fun _ R => OddM H R.length W.length m ∧ AnyE K H E "NoMove"
/-- slots: 0 web, 1 row, 2 move -/
def N_played : List Str := ["web", "row", "move"]
def t_played (K : PySem.W.Frag) (E : XK) : TS :=
    tSeq (tDrop (tCall (sp_need_game K) [] E (tCons (tVar 0) (tNil))))
    (tSeq (tDrop (tCall (sp_need_row K) [] E (tCons (tVar 0) (tCons (tVar 1) (tNil)))))
    (tSeq (tIfS (tNot (tB (tCall (sp_is_move K) [] E0 (tCons (tVar 0) (tCons (tVar 1) (tCons (tVar 2) (tNil))))))) (tRaiseC E (.ref (He.ga K "NoMove"))) (tNext))
    (tRet (tCall (sp_behind K) [] E0 (tCons (tVar 1) (tCons (tVar 2) (tNil)))))))
theorem r_played {K : PySem.W.Frag} (vs : List V) (H : Hp) (Q : VK) (E : XK) (h : sp_played K vs H Q E) : t_played K E { nx := fun _ H' => Q .non H', rt := Q } (start N_played vs) H := by
  obtain ⟨x, y, m, rfl, h⟩ := h
  rcases h with ⟨d, hd, hb, he⟩ | ⟨a, W, rfl, w, F, hn, he⟩ | ⟨a, W, rfl, w, G, h2⟩
  · exact ⟨x, rfl, x, rfl, .inl ⟨d, hd, hb, he⟩⟩
  · exact ⟨.ref a, rfl, .ref a, rfl, .inr (.inl ⟨a, W, rfl, w, F, hn, he⟩)⟩
  refine ⟨.ref a, rfl, .ref a, rfl, .inr (.inr ⟨a, W, rfl, w, G, fun H1 s1 => ?_⟩)⟩
  rcases h2 with ⟨d, hd, hb, he⟩ | ⟨r, R, rfl, hr, ok, hm, he⟩
  · exact ⟨.ref a, rfl, y, rfl, a, y, W, rfl, w.same s1, .inl ⟨d, hd.same s1, hb, he.same s1⟩⟩
  refine ⟨.ref a, rfl, .ref r, rfl, a, .ref r, W, rfl, w.same s1, .inr ⟨r, R, rfl, s1 _ _ hr, ok, fun H2 s2 => ?_⟩⟩
  have s12 := s1.trans s2
  exact ⟨.ref a, rfl, .ref r, rfl, m, rfl, a, r, m, W, R, rfl, w.same s12, s12 _ _ hr, hm.same s12, false, rfl, iteT (he H2 s12)⟩
/-! ### ring_in, joined_webs, paired_web -/
def sp_ring_in (K : PySem.W.Frag) : Sp := fun vs H Q E => ∃ x, vs = [x] ∧ FArg K x H E fun _ _ => ∀ (v : V) (H' : Hp), Same H H' → Q v H'
/-- slots: 0 web, 1 done, 2 rest, 3 way, 4 ahead, 5 at, 6 other -/
def N_ring_in : List Str := ["web", "done", "rest", "way", "ahead", "at", "other"]
def t_ring_in (K : PySem.W.Frag) (E : XK) : TS :=
    tSeq (tDrop (tCall (sp_need_form K) [] E (tCons (tVar 0) (tNil))))
    (tSeq (tAsg (tCall (sp_play_order K) [] E0 (tCons (tVar 0) (tNil))) (gName 1))
    (tSeq (tAsg (tLc (iRng1 (tCons (tCB (rLen K) (tCons (tVar 0) (tNil))) (tNil))) (gName 5) (tTest (tOp (rIn K true) (tVar 5) (tVar 1))) (tVar 5) [5]) (gName 2))
    (tSeq (tIfS (tTest (tOp rEq (tCB (rLen K) (tCons (tVar 2) (tNil))) (tC (.int 0)))) (tRet (tC .non)) (tNext))
    (tSeq (tAsg (tLst (tCons (tOp (rIxL K) (tVar 2) (tC (.int 0))) (tNil))) (gName 3))
    (tSeq (tWhile (tTest (tOp rGt (tCB (rLen K) (tCons (tVar 3) (tNil))) (tC (.int 0)))) (tSeq (tAsg (tLc (iList K (tOp (rIxL K) (tVar 0) (tOp (rIxL K) (tVar 3) (tOp rSub (tCB (rLen K) (tCons (tVar 3) (tNil))) (tC (.int 1)))))) (gName 6) (tTest (tOp (rIn K false) (tVar 6) (tVar 2))) (tVar 6) [6]) (gName 4))
    (tSeq (tIfS (tTest (tOp (rIn K false) (tOp (rIxL K) (tVar 4) (tC (.int 0))) (tVar 3))) (tRet (tSl (rSlL K) (tVar 3) (tPart (tBM K "list" (rIndex K) (tVar 3) (tCons (tOp (rIxL K) (tVar 4) (tC (.int 0))) (tNil)))) (tNoPart))) (tNext))
    (tDrop (tBM K "list" rAppend (tVar 3) (tCons (tOp (rIxL K) (tVar 4) (tC (.int 0))) (tNil)))))))
    (tRet (tC .non)))))))
theorem r_ring_in {K : PySem.W.Frag} (vs : List V) (H : Hp) (Q : VK) (E : XK) (h : sp_ring_in K vs H Q E) : t_ring_in K E { nx := fun _ H' => Q .non H', rt := Q } (start N_ring_in vs) H := by
  obtain ⟨x, rfl, h⟩ := h
  rcases h with ⟨d, hd, hb, he⟩ | ⟨a, W, rfl, w, F, k⟩
  · exact ⟨x, rfl, x, rfl, .inl ⟨d, hd, hb, he⟩⟩
  have k0 : ∀ (rk : Nat → Nat) (H' : Hp), Ranked W rk → (∀ s < W.length, rk s < W.length) → Same H H' → Q .non H' := fun _ H' _ _ s => k _ H' s
  have k1 : ∀ (r : List Nat) (p : Addr) (H' : Hp), IsRing W r → H p = none → Same H H' → H' p = some (.lst (nvs r)) → Q (.ref p) H' := fun _ _ H' _ _ s _ => k _ H' s
  have hle := F.le
  refine ⟨.ref a, rfl, .ref a, rfl, .inr ⟨a, W, rfl, w, F, fun H1 s1 => ⟨.ref a, rfl, a, W, rfl, w.same s1, F, fun o oA H2 po no s2 ho => ?_⟩⟩⟩
  have s12 := s1.trans s2
  obtain ⟨q, l⟩ := w
  have l2 := l.same s12
  refine ⟨.ref a, rfl, a, _, rfl, .inl (.of l2.top), _, rfl, by omega, by rw [refs_len]; omega, ?_⟩
  rw [refs_len, Int.toNat_natCast]
  refine lcR (n := W.length) (fun x => decide (x ∉ o)) nv (by omega) (fun x hx H3 Qy Qf s3 hy hf => ?_) (fun D H3 n3 s3 hD => ?_)
  · refine ⟨nv x, rfl, .ref oA, rfl, oA, _, rfl, .inl (.of (s3 _ _ ho)), rfl, flat_nvs _, decide (x ∉ o), ?_, ite2 (fun c => ?_) (fun c => ?_)⟩
    · rw [if_pos rfl, inV_nv, decide_not]
    · exact ⟨nv x, rfl, hy c H3 (Same.refl _)⟩
    · exact hf (Bool.eq_false_iff.mpr c) H3 (Same.refl _)
  have hR := restL_lt (W := W) (o := o)
  have hRl := restL_len W o
  have ahead := fun {s : Nat} h => PO.ahead F po (s := s) h
  have rank := PO.rank F po
  change H3 D = some (.lst (nvs (restL W o))) at hD
  generalize restL W o = R at hD hR hRl ahead rank
  have s13 := s12.trans s3
  refine ⟨.ref D, rfl, D, _, rfl, .inl (.of hD), rfl, _, rfl, ite2 (fun c => ?_) (fun c => ?_)⟩
  · have c2 : R = [] := by
      have h1 := of_decide_eq_true c
      rw [nvs_length] at h1
      have h2 := V.int.inj h1
      exact List.length_eq_zero_iff.mp (by omega)
    obtain ⟨h1, h2⟩ := rank c2
    exact k0 _ H3 h1 h2 s13
  have hne : R ≠ [] := fun e => c (by rw [e]; rfl)
  obtain ⟨x0, R', eR⟩ : ∃ x0 R', R = x0 :: R' := by
    cases R with
    | nil => exact absurd rfl hne
    | cons x0 R' => exact ⟨x0, R', rfl⟩
  have hx0 : x0 ∈ R := by rw [eR]; exact List.mem_cons_self ..
  have at0 : atI (nvs R) 0 = some (nv x0) := by rw [eR]; exact nvs_at (l := x0 :: R') (i := 0) rfl
  refine ⟨.ref D, rfl, D, _, 0, nv x0, rfl, rfl, .of hD, at0, line_le (Nat.le_of_ble_eq_true rfl), fun yA ny => ?_⟩
  have nyH := s13.free ny
  have hD4 := same_new (o := .lst [nv x0]) ny _ _ hD
  have s4 := s13.new (o := .lst [nv x0]) ny
  have hy4 : (upd H3 yA (.lst [nv x0])) yA = some (.lst (nvs [x0])) := upd_same
  have dy : D ≠ yA := ne_of_none hD ny
  generalize upd H3 yA (.lst [nv x0]) = H4 at hD4 s4 hy4
  refine ⟨fun m σ H5 => ∃ (way : List Nat) (y4 : Option V), σ = [some (.ref a), some (.ref oA), some (.ref D), some (.ref yA), y4, none, none] ∧ Same H H5 ∧ H5 D = some (.lst (nvs R)) ∧ H5 yA = some (.lst (nvs way)) ∧ Way W R way ∧ m = W.length + 1 - way.length,
    ⟨_, [x0], none, rfl, s4, hD4, hy4, .one hx0, rfl⟩, fun m σ H5 hW => ?_⟩
  obtain ⟨way, y4, rfl, s5, hD5, hy5, wy, em⟩ := hW
  have wl : way.length ≤ W.length := nodup_len _ _ wy.nd fun x hx => hR x (wy.inR x hx)
  have wpos : 0 < way.length := List.length_pos_iff.mpr wy.ne
  refine ⟨.ref yA, rfl, yA, _, rfl, .inl (.of hy5), _, 0, rfl, rfl, true, congrArg V.bl (decide_eq_true (by rw [nvs_length]; omega)), iteT ?_⟩
  refine ⟨fun σ' H' => ∃ (way' : List Nat) (y4 : Option V), σ' = [some (.ref a), some (.ref oA), some (.ref D), some (.ref yA), y4, none, none] ∧ Same H H' ∧ H' D = some (.lst (nvs R)) ∧ H' yA = some (.lst (nvs way')) ∧ Way W R way' ∧ way'.length = way.length + 1, fun σ' H' hN => ?_, ?_⟩
  · obtain ⟨way', y4', e1, e2, e3, e4, e5, e6⟩ := hN
    exact ⟨W.length + 1 - way'.length, by omega, way', y4', e1, e2, e3, e4, e5, rfl⟩
  obtain ⟨s, hs⟩ : ∃ s, way[way.length - 1]? = some s := ⟨_, List.getElem?_eq_getElem (by omega)⟩
  have hsR := wy.inR s (List.mem_of_getElem? hs)
  have hsW := hR s hsR
  have es : way.getD (way.length - 1) 0 = s := by rw [List.getD_eq_getElem?_getD, hs]; rfl
  have l5 := l.same s5
  have ei : V.int (((nvs way).length : Int) - 1) = V.int ((way.length - 1 : Nat) : Int) := congrArg V.int (by rw [nvs_length]; omega)
  refine ⟨.ref a, rfl, .ref yA, rfl, .ref yA, rfl, yA, _, rfl, .inl (.of hy5), _, 1, rfl, rfl, yA, _, ((way.length - 1 : Nat) : Int), nv s, rfl, ei, .of hy5, nvs_at hs, a, _, (s : Int), _, rfl, rfl, .of l5.top, refs_at hsW, q s, rfl, ⟨_, .of (l5.at_ s hsW)⟩, lcL (row W s) nv (fun x => decide (x ∈ R)) nv (.of (l5.at_ s hsW)) (by have := F.row_len s; omega) (fun x hx H6 Qy Qf s6 hy hf => ?_) (fun AA H6 nA s6 hA => ?_)⟩
  · refine ⟨nv x, rfl, .ref D, rfl, D, _, rfl, .inl (.of (s6 _ _ hD5)), rfl, flat_nvs _, decide (x ∈ R), ?_, ite2 (fun c => ?_) (fun c => ?_)⟩
    · rw [if_neg Bool.false_ne_true, inV_nv]
    · exact ⟨nv x, rfl, hy c H6 (Same.refl _)⟩
    · exact hf (Bool.eq_false_iff.mpr c) H6 (Same.refl _)
  obtain ⟨x, A', eA⟩ : ∃ x A', (row W s).filter (fun x => decide (x ∈ R)) = x :: A' := by
    obtain ⟨t, ht, htR⟩ := ahead hsR
    cases e : (row W s).filter (fun x => decide (x ∈ R)) with
    | nil => exact absurd (decide_eq_true htR) (List.filter_eq_nil_iff.mp e t ht)
    | cons x A' => exact ⟨x, A', rfl⟩
  have hxm : x ∈ (row W s).filter fun x => decide (x ∈ R) := by rw [eA]; exact List.mem_cons_self ..
  have hxr := (List.mem_filter.mp hxm).1
  have hxR : x ∈ R := of_decide_eq_true (List.mem_filter.mp hxm).2
  rw [eA] at hA
  have hA0 : atI ((x :: A').map nv) 0 = some (nv x) := nvs_at (l := x :: A') (i := 0) rfl
  have hy6 := s6 _ _ hy5
  have s06 := s5.trans s6
  refine ⟨.ref AA, rfl, AA, _, 0, nv x, rfl, rfl, .of hA, hA0, .ref yA, rfl, yA, _, rfl, .inl (.of hy6), rfl, flat_nvs _, decide (x ∈ way), ?_, ite2 (fun c => ?_) (fun c => ?_)⟩
  · rw [if_neg Bool.false_ne_true, inV_nv]
  · have c2 : x ∈ way := of_decide_eq_true c
    obtain ⟨j, hj⟩ := List.mem_iff_getElem?.mp c2
    have hjl := (List.getElem?_eq_some_iff.mp hj).1
    refine ⟨.ref yA, rfl, .ref yA, rfl, .inl ⟨rfl, _, .of hy6⟩, .ref AA, rfl, AA, _, 0, nv x, rfl, rfl, .of hA, hA0, yA, _, nv x, j, nv x, rfl, rfl, .of hy6, rfl, flat_nvs _, nvs_get hj, (show ((x : Int) == (x : Int)) = true from beq_self_eq_true _), fun m2 z' hm hz => ?_, (j : Int), rfl, yA, _, rfl, .of hy6, fun p np => ?_⟩
    · obtain ⟨y, hy, rfl⟩ := nvs_item hz
      show ((y : Int) == (x : Int)) = false
      rw [beq_eq_false_iff_ne]
      intro e
      have e2 : y = x := Int.ofNat_inj.mp e
      subst e2
      obtain ⟨h1, e3⟩ := List.getElem?_eq_some_iff.mp hy
      obtain ⟨h2, e4⟩ := List.getElem?_eq_some_iff.mp hj
      have := (List.getElem_inj wy.nd).mp (e3.trans e4.symm)
      omega
    · have ec : cutV (nvs way) (some (j : Int)) none = nvs (way.drop j) := cut_from nv way j
      rw [ec]
      refine k1 (way.drop j) p _ (wy.ring hR hjl ?_) (s06.free np) (s06.new np) upd_same
      rw [es, List.getD_eq_getElem?_getD, hj]
      exact hxr
  · have c2 : x ∉ way := fun z => c (decide_eq_true z)
    refine ⟨.ref yA, rfl, .inl ⟨rfl, _, .of hy6⟩, .ref AA, rfl, AA, _, 0, nv x, rfl, rfl, .of hA, hA0, yA, _, _, rfl, rfl, hy6, by rw [nvs_length]; exact line_lt (by omega), way ++ [x], _, rfl, s06.mut nyH, ?_, ?_, wy.more hxR c2 (by rw [es]; exact hxr), List.length_append⟩
    · rw [upd_ne dy]
      exact s6 _ _ hD5
    · rw [upd_same, nvs_append]
      rfl
/-! ### two lists of lists as one -/
def catF {α : Type} (n : Nat) (f g : Nat → α) : Nat → α := fun i => if i < n then f i else g (i - n)
theorem catF_lt {α : Type} {n : Nat} {f g : Nat → α} {i : Nat} (h : i < n) : catF n f g i = f i := if_pos h
theorem catF_ge {α : Type} {n : Nat} {f g : Nat → α} (i : Nat) : catF n f g (n + i) = g i := by
  unfold catF
  rw [if_neg (by omega), Nat.add_sub_cancel_left]
theorem range_cat {α : Type} (n m : Nat) (f g : Nat → α) : (List.range (n + m)).map (catF n f g) = (List.range n).map f ++ (List.range m).map g := by
  induction m with
  | zero =>
    rw [Nat.add_zero, List.range_zero, List.map_nil, List.append_nil]
    exact List.map_congr_left fun i hi => catF_lt (List.mem_range.mp hi)
  | succ m ih =>
    rw [← Nat.add_assoc, List.range_succ, List.map_append, ih, List.range_succ (n := m), List.map_append, List.append_assoc]
    congr 2
    show [catF n f g (n + m)] = [g m]
    rw [catF_ge]
theorem refs_cat (n m : Nat) (q r : Nat → Addr) : refs n q ++ refs m r = refs (n + m) (catF n q r) := by
  have h := range_cat n m (fun i => V.ref (q i)) (fun i => V.ref (r i))
  rw [← show (List.range (n + m)).map (fun i => V.ref (catF n q r i)) = (List.range (n + m)).map (catF n (fun i => V.ref (q i)) fun i => V.ref (r i)) from List.map_congr_left fun i _ => by
    unfold catF
    split <;> rfl] at h
  exact h.symm
theorem row_cat (W V : List (List Nat)) (i : Nat) : row (W ++ V) i = catF W.length (row W) (row V) i := by
  rcases nat_split W.length i with h | ⟨t, rfl⟩
  · rw [catF_lt h]
    exact row_of (by rw [List.getElem?_append_left h]; exact row_get h)
  · rw [catF_ge]
    by_cases h : t < V.length
    · exact row_of (by rw [List.getElem?_append_right (by omega), Nat.add_sub_cancel_left]; exact row_get h)
    · rw [row_nil (W := V) (by omega), row_nil (by rw [List.length_append]; omega)]
section
variable {H0 H H1 : Hp} {a b p : Addr} {n m : Nat} {q r : Nat → Addr} {c d : Nat → List V}
theorem LL.cat (A : LL H a n q c) (B : LL H b m r d) (np : H p = none) : LL (upd H p (.lst (refs n q ++ refs m r))) p (n + m) (catF n q r) (catF n c d) := by
  refine ⟨by rw [upd_same, refs_cat], fun i hi => ?_⟩
  rcases nat_split n i with h | ⟨t, rfl⟩
  · rw [catF_lt h, catF_lt h]
    exact same_new np _ _ (A.at_ i h)
  · rw [catF_ge, catF_ge]
    exact same_new np _ _ (B.at_ t (by omega))
theorem Own.cat (A : Own H0 H1 a n q c) (s0 : Same H0 H1) (s : Same H1 H) (B : Own H1 H b m r d) (np : H p = none) : Own H0 (upd H p (.lst (refs n q ++ refs m r))) p (n + m) (catF n q r) (catF n c d) := by
  have A2 := A.ll.same s
  have qr : ∀ i j, i < n → j < m → q i ≠ r j := fun i j hi hj => ne_of_none (A.ll.at_ i hi) (B.nq j hj)
  refine ⟨A2.cat B.ll np, fun i j hi hj e => ?_, fun i hi => ?_, s0.free (s.free np), fun i hi => ?_⟩
  · rcases nat_split n i with h | ⟨t, rfl⟩ <;> rcases nat_split n j with h2 | ⟨u, rfl⟩
    · rw [catF_lt h, catF_lt h2] at e
      exact A.inj i j h h2 e
    · rw [catF_lt h, catF_ge] at e
      exact absurd e (qr i u h (by omega))
    · rw [catF_lt h2, catF_ge] at e
      exact absurd e.symm (qr j t h2 (by omega))
    · rw [catF_ge, catF_ge] at e
      rw [B.inj t u (by omega) (by omega) e]
  · rcases nat_split n i with h | ⟨t, rfl⟩
    · rw [catF_lt h]
      exact ne_of_none (A2.at_ i h) np
    · rw [catF_ge]
      exact ne_of_none (B.ll.at_ t (by omega)) np
  · rcases nat_split n i with h | ⟨t, rfl⟩
    · rw [catF_lt h]
      exact A.nq i h
    · rw [catF_ge]
      exact s0.free (B.nq t (by omega))
end
theorem wrow_cat (W V : List (List Nat)) : wrow (W ++ V) = catF W.length (wrow W) (wrow V) := by
  funext i
  show nvs (row (W ++ V) i) = _
  rw [row_cat]
  unfold catF
  split <;> rfl
theorem WebN.cat {H0 H H1 : Hp} {a b : Addr} {W U : List (List Nat)} (A : WebN H0 H1 a W) (s0 : Same H0 H1) (s : Same H1 H) (B : WebN H1 H b U) :
    ∃ xs ys, H a = some (.lst xs) ∧ H b = some (.lst ys) ∧ xs.length = W.length ∧ ys.length = U.length ∧ ∀ p, H p = none → WebN H0 (upd H p (.lst (xs ++ ys))) p (W ++ U) := by
  obtain ⟨q, A⟩ := A
  obtain ⟨r, B⟩ := B
  refine ⟨_, _, s _ _ A.ll.top, B.ll.top, refs_len _ _, refs_len _ _, fun p np => ⟨catF W.length q r, ?_⟩⟩
  rw [List.length_append, wrow_cat]
  exact A.cat s0 s B np
theorem Web.cat {H : Hp} {a b : Addr} {W U : List (List Nat)} (A : Web H a W) (B : Web H b U) :
    ∃ xs ys, H a = some (.lst xs) ∧ H b = some (.lst ys) ∧ xs.length = W.length ∧ ys.length = U.length ∧ ∀ p, H p = none → Web (upd H p (.lst (xs ++ ys))) p (W ++ U) := by
  obtain ⟨q, A⟩ := A
  obtain ⟨r, B⟩ := B
  refine ⟨_, _, A.top, B.top, refs_len _ _, refs_len _ _, fun p np => ⟨catF W.length q r, ?_⟩⟩
  unfold WebAt
  rw [List.length_append, wrow_cat]
  exact LL.cat A B np
theorem webN_range {H0 H : Hp} {p : Addr} {n : Nat} {f : Nat → List Nat} (h : LolN H0 H p ((List.range n).map fun i => nvs (f i))) : WebN H0 H p ((List.range n).map f) := by
  obtain ⟨q, O⟩ := h.own
  refine ⟨q, ?_⟩
  rw [List.length_map, List.length_range]
  exact O.congr fun i hi => by rw [wrow, row_map hi]
theorem LL.web {H : Hp} {p : Addr} {n : Nat} {q : Nat → Addr} {f : Nat → List Nat} (h : LL H p n q fun i => nvs (f i)) : Web H p ((List.range n).map f) := ⟨q, by
  unfold WebAt
  rw [List.length_map, List.length_range]
  exact h.congr fun i hi => by rw [wrow, row_map hi]⟩
theorem rows_map (W : List (List Nat)) (f : List Nat → List Nat) : (List.range W.length).map (fun i => f (row W i)) = W.map f := by
  have h : ((List.range W.length).map (row W)).map f = W.map f := by rw [rows_range]
  rw [List.map_map] at h
  exact h
def sp_joined_webs (K : PySem.W.Frag) : Sp := fun vs H Q E => ∃ (x y : V), vs = [x, y] ∧ FArg K x H E fun _ W => FArg K y H E fun _ U => (W.length + U.length ≤ 200 → ∀ (v : V) (H' : Hp), Same H H' → Q v H') ∧ (200 < W.length + U.length → AnyE K H E "TooMany")
/-- slots: 0 one, 1 other, 2 spot, 3 at -/
def N_joined_webs : List Str := ["one", "other", "spot", "at"]
def t_joined_webs (K : PySem.W.Frag) (E : XK) : TS :=
    tSeq (tDrop (tCall (sp_need_form K) [] E (tCons (tVar 0) (tNil))))
    (tSeq (tDrop (tCall (sp_need_form K) [] E (tCons (tVar 1) (tNil))))
    (tSeq (tIfS (tTest (tOp rGt (tOp rAdd (tCB (rLen K) (tCons (tVar 0) (tNil))) (tCB (rLen K) (tCons (tVar 1) (tNil)))) (tC (.int 200)))) (tRaiseC E (.ref (He.ga K "TooMany"))) (tNext))
    (tRet (tOp rCat (tLc (iList K (tVar 0)) (gName 2) (tYes) (tCB (rList K) (tCons (tVar 2) (tNil))) [2]) (tLc (iList K (tVar 1)) (gName 2) (tYes) (tLc (iList K (tVar 2)) (gName 3) (tYes) (tOp rAdd (tCB (rLen K) (tCons (tVar 0) (tNil))) (tVar 3)) [3]) [2])))))
theorem r_joined_webs {K : PySem.W.Frag} (vs : List V) (H : Hp) (Q : VK) (E : XK) (h : sp_joined_webs K vs H Q E) : t_joined_webs K E { nx := fun _ H' => Q .non H', rt := Q } (start N_joined_webs vs) H := by
  obtain ⟨x, y, rfl, h⟩ := h
  rcases h with ⟨d, hd, hb, he⟩ | ⟨a, W, rfl, w, F, h⟩
  · exact ⟨x, rfl, x, rfl, .inl ⟨d, hd, hb, he⟩⟩
  rcases h with ⟨d, hd, hb, he⟩ | ⟨b, U, rfl, u, G, k0, he⟩
  · exact ⟨.ref a, rfl, .ref a, rfl, .inr ⟨a, W, rfl, w, F, fun H1 s1 => ⟨y, rfl, y, rfl, .inl ⟨d, hd.same s1, hb, he.same s1⟩⟩⟩⟩
  refine ⟨.ref a, rfl, .ref a, rfl, .inr ⟨a, W, rfl, w, F, fun H1 s1 => ⟨.ref b, rfl, .ref b, rfl, .inr ⟨b, U, rfl, u.same s1, G, fun H2 s2 => ?_⟩⟩⟩⟩
  have s12 := s1.trans s2
  obtain ⟨q, l⟩ := w.same s12
  obtain ⟨r, m⟩ := u.same s12
  by_cases hle : W.length + U.length ≤ 200
  rotate_left
  · exact ⟨.ref a, rfl, a, _, rfl, .inl (.of l.top), .ref b, rfl, b, _, rfl, .inl (.of m.top), _, _, rfl, rfl, _, 200, rfl, rfl, true, congrArg V.bl (decide_eq_true (by rw [refs_len, refs_len]; omega)), iteT (he (by omega) H2 s12)⟩
  have k : ∀ (p : Addr) (H' : Hp), Same H H' → WebN H H' p (joinW W U) → Q (.ref p) H' := fun p H' s _ => k0 hle _ H' s
  refine ⟨.ref a, rfl, a, _, rfl, .inl (.of l.top), .ref b, rfl, b, _, rfl, .inl (.of m.top), _, _, rfl, rfl, _, 200, rfl, rfl, false, congrArg V.bl (decide_eq_false (by rw [refs_len, refs_len]; omega)), iteF ?_⟩
  refine ⟨.ref a, rfl, a, rfl, ⟨_, .of l.top⟩, lcLN (List.range W.length) (fun i => V.ref (q i)) (wrow W) (.of l.top) (by rw [List.length_range]; omega) (fun i hi H3 Qy s3 hy => ?_) (fun D H3 s3 hD => ?_)⟩
  · exact ⟨.ref (q i), rfl, q i, _, rfl, .inl (.of (s3 _ _ (l.at_ i (List.mem_range.mp hi)))), fun p np => hy p _ np (same_new np) upd_same⟩
  have l3 := l.same s3
  have m3 := m.same s3
  refine ⟨.ref b, rfl, b, rfl, ⟨_, .of m3.top⟩, lcLN (List.range U.length) (fun i => V.ref (r i)) (fun i => nvs ((row U i).map fun x => W.length + x)) (.of m3.top) (by rw [List.length_range]; omega) (fun i hi H4 Qy s4 hy => ?_) (fun D2 H4 s4 hD2 => ?_)⟩
  · have hr := s4 _ _ (m3.at_ i (List.mem_range.mp hi))
    refine ⟨.ref (r i), rfl, r i, rfl, ⟨_, .of hr⟩, lcL (row U i) nv (fun _ => true) (fun x => nv (W.length + x)) (.of hr) (by have := G.row_len i; omega) (fun x hx H5 Qy2 Qf2 s5 hy2 _ => ?_) (fun D5 H5 n5 s5 hD5 => ?_)⟩
    · refine ⟨.ref a, rfl, a, _, rfl, .inl (.of (s5 _ _ (s4 _ _ l3.top))), nv x, rfl, _, (x : Int), rfl, rfl, ?_⟩
      rw [refs_len]
      exact hy2 rfl H5 (Same.refl _)
    · rw [List.filter_eq_self.mpr (fun _ _ => rfl)] at hD5
      refine hy D5 H5 n5 s5 ?_
      rw [hD5, nvs, List.map_map]
      rfl
  have wN : WebN H2 H3 D W := hD.own
  have uN : WebN H3 H4 D2 (U.map fun r => r.map fun x => W.length + x) := by
    have := webN_range (f := fun i => (row U i).map fun x => W.length + x) hD2
    rw [rows_map U fun r => r.map fun x => W.length + x] at this
    exact this
  obtain ⟨xs, ys, hx, hy, xl, yl, cat⟩ := wN.cat s3 s4 uN
  refine ⟨D, D2, xs, ys, rfl, rfl, hx, hy, line_le (by rw [xl, yl, List.length_map]; omega), fun p np => ?_⟩
  exact k p _ (((s12.trans s3).trans s4).new np) ((cat p np).back s12)
/-! ### paired webs -/
theorem pairs_succ (W U : List (List Nat)) (s : Nat) : (List.range (s + 1)).map (fun s => pairR W U (s / U.length) (s % U.length)) = (List.range s).map (fun s => pairR W U (s / U.length) (s % U.length)) ++ [pairR W U (s / U.length) (s % U.length)] := by
  rw [List.range_succ, List.map_append]
  rfl
theorem cmul_small {i j : Int} (h1 : 0 ≤ i) (h2 : i ≤ 1000) (h3 : 0 ≤ j) (h4 : j ≤ 1000) : CMul i j := .inl ⟨by omega, by omega⟩
def sp_paired_web (K : PySem.W.Frag) : Sp := fun vs H Q E => ∃ (x y : V), vs = [x, y] ∧ FArg K x H E fun _ W => FArg K y H E fun _ U => (W.length * U.length ≤ 200 → ∀ (v : V) (H' : Hp), Same H H' → Q v H') ∧ (200 < W.length * U.length → AnyE K H E "TooMany")
/-- slots: 0 one, 1 other, 2 found, 3 first, 4 second, 5 moves, 6 at -/
def N_paired_web : List Str := ["one", "other", "found", "first", "second", "moves", "at"]
def t_paired_web (K : PySem.W.Frag) (E : XK) : TS :=
    tSeq (tDrop (tCall (sp_need_form K) [] E (tCons (tVar 0) (tNil))))
    (tSeq (tDrop (tCall (sp_need_form K) [] E (tCons (tVar 1) (tNil))))
    (tSeq (tIfS (tTest (tOp rGt (tOp rMul (tCB (rLen K) (tCons (tVar 0) (tNil))) (tCB (rLen K) (tCons (tVar 1) (tNil)))) (tC (.int 200)))) (tRaiseC E (.ref (He.ga K "TooMany"))) (tNext))
    (tSeq (tAsg (tLst (tNil)) (gName 2))
    (tSeq (tFor (iRng1 (tCons (tCB (rLen K) (tCons (tVar 0) (tNil))) (tNil))) (gName 3) (tFor (iRng1 (tCons (tCB (rLen K) (tCons (tVar 1) (tNil))) (tNil))) (gName 4) (tSeq (tAsg (tLc (iList K (tOp (rIxL K) (tVar 0) (tVar 3))) (gName 6) (tYes) (tOp rAdd (tOp rMul (tVar 6) (tCB (rLen K) (tCons (tVar 1) (tNil)))) (tVar 4)) [6]) (gName 5))
    (tDrop (tBM K "list" rAppend (tVar 2) (tCons (tOp rCat (tVar 5) (tLc (iList K (tOp (rIxL K) (tVar 1) (tVar 4))) (gName 6) (tYes) (tOp rAdd (tOp rMul (tVar 3) (tCB (rLen K) (tCons (tVar 1) (tNil)))) (tVar 6)) [6])) (tNil)))))))
    (tRet (tVar 2))))))
theorem r_paired_web {K : PySem.W.Frag} (vs : List V) (H : Hp) (Q : VK) (E : XK) (h : sp_paired_web K vs H Q E) : t_paired_web K E { nx := fun _ H' => Q .non H', rt := Q } (start N_paired_web vs) H := by
  obtain ⟨x, y, rfl, h⟩ := h
  rcases h with ⟨d, hd, hb, he⟩ | ⟨a, W, rfl, w, F, h⟩
  · exact ⟨x, rfl, x, rfl, .inl ⟨d, hd, hb, he⟩⟩
  rcases h with ⟨d, hd, hb, he⟩ | ⟨b, U, rfl, u, G, k0, he⟩
  · exact ⟨.ref a, rfl, .ref a, rfl, .inr ⟨a, W, rfl, w, F, fun H1 s1 => ⟨y, rfl, y, rfl, .inl ⟨d, hd.same s1, hb, he.same s1⟩⟩⟩⟩
  refine ⟨.ref a, rfl, .ref a, rfl, .inr ⟨a, W, rfl, w, F, fun H1 s1 => ⟨.ref b, rfl, .ref b, rfl, .inr ⟨b, U, rfl, u.same s1, G, fun H2 s2 => ?_⟩⟩⟩⟩
  have s12 := s1.trans s2
  obtain ⟨q, l⟩ := w.same s12
  obtain ⟨r, m⟩ := u.same s12
  have hW := F.le
  have hU := G.le
  have cm : ∀ {i j : Nat}, i ≤ 200 → j ≤ 200 → CMul (i : Int) (j : Int) := fun h1 h2 => cmul_small (by omega) (by omega) (by omega) (by omega)
  by_cases hle : W.length * U.length ≤ 200
  rotate_left
  · have il : 200 < ((W.length : Nat) : Int) * ((U.length : Nat) : Int) := by
      rw [← Int.natCast_mul]
      omega
    exact ⟨.ref a, rfl, a, _, rfl, .inl (.of l.top), .ref b, rfl, b, _, rfl, .inl (.of m.top), _, _, rfl, rfl, by rw [refs_len, refs_len]; exact cm hW hU, _, 200, rfl, rfl, true, congrArg V.bl (decide_eq_true (by rw [refs_len, refs_len]; omega)), iteT (he (by omega) H2 s12)⟩
  have k : ∀ (p : Addr) (H' : Hp), Same H H' → WebN H H' p (pairW W U) → Q (.ref p) H' := fun p H' s _ => k0 hle _ H' s
  have il : ((W.length : Nat) : Int) * ((U.length : Nat) : Int) ≤ 200 := by
    rw [← Int.natCast_mul]
    omega
  refine ⟨.ref a, rfl, a, _, rfl, .inl (.of l.top), .ref b, rfl, b, _, rfl, .inl (.of m.top), _, _, rfl, rfl, by rw [refs_len, refs_len]; exact cm hW hU, _, 200, rfl, rfl, false, congrArg V.bl (decide_eq_false (by rw [refs_len, refs_len]; omega)), iteF ?_⟩
  -- found
  refine ⟨Nat.zero_le _, fun fA nf => ?_⟩
  have l3 := l.same (same_new (o := .lst []) nf)
  have m3 := m.same (same_new (o := .lst []) nf)
  have w1 : WebN H2 (upd H2 fA (.lst [])) fA [] := webN_nil upd_same nf
  have s3 : Same H2 (upd H2 fA (.lst [])) := same_new nf
  generalize upd H2 fA (.lst []) = H3 at l3 m3 w1 s3
  refine ⟨.ref a, rfl, a, _, rfl, .inl (.of l3.top), _, rfl, by omega, by rw [refs_len]; omega, ?_⟩
  rw [refs_len, Int.toNat_natCast]
  refine for_range (fun i σ H4 => ∃ (y3 y4 y5 : Option V), σ = [some (.ref a), some (.ref b), some (.ref fA), y3, y4, y5, none] ∧ Same H2 H4 ∧ WebN H2 H4 fA ((List.range (i * U.length)).map fun s => pairR W U (s / U.length) (s % U.length)))
    ⟨none, none, none, rfl, s3, by rw [Nat.zero_mul]; exact w1⟩ (fun i σ H4 hi hP => ?_) (fun σ H4 hP => ?_)
  · obtain ⟨y3, y4, y5, rfl, s4, w4⟩ := hP
    rw [Int.zero_add]
    have m4 := m.same s4
    have iu : i * U.length + U.length ≤ W.length * U.length := by
      have := Nat.mul_le_mul_right U.length (show i + 1 ≤ W.length from hi)
      rwa [Nat.succ_mul] at this
    refine ⟨.ref b, rfl, b, _, rfl, .inl (.of m4.top), _, rfl, by omega, by rw [refs_len]; omega, ?_⟩
    rw [refs_len, Int.toNat_natCast]
    refine for_range (fun j σ H5 => ∃ (y4 y5 : Option V), σ = [some (.ref a), some (.ref b), some (.ref fA), some (nv i), y4, y5, none] ∧ Same H2 H5 ∧ WebN H2 H5 fA ((List.range (i * U.length + j)).map fun s => pairR W U (s / U.length) (s % U.length)))
      ⟨y4, y5, rfl, s4, w4⟩ (fun j σ H5 hj hP => ?_) (fun σ H5 hP => ?_)
    · obtain ⟨y4, y5, rfl, s5, w5⟩ := hP
      rw [Int.zero_add]
      obtain ⟨xs, hx, xl, grow⟩ := w5.grow s5
      have l5 := l.same s5
      have hr5 := l5.at_ i hi
      refine ⟨.ref a, rfl, nv i, rfl, a, _, (i : Int), _, rfl, rfl, .of l5.top, refs_at hi, q i, rfl, ⟨_, .of hr5⟩, lcL (row W i) nv (fun _ => true) (fun x => nv (x * U.length + j)) (.of hr5) (by have := F.row_len i; omega) (fun x hx H6 Qy Qf s6 hy _ => ?_) (fun D1 H6 n6 s6 hD1 => ?_)⟩
      · refine ⟨nv x, rfl, .ref b, rfl, b, _, rfl, .inl (.of (m.same (s5.trans s6)).top), _, _, rfl, rfl, by rw [refs_len]; exact cm (by have := F.lt i x hx; omega) hU, nv j, rfl, _, (j : Int), rfl, rfl, ?_⟩
        rw [refs_len]
        exact hy rfl H6 (Same.refl _)
      rw [List.filter_eq_self.mpr (fun _ _ => rfl)] at hD1
      have m6 := m.same (s5.trans s6)
      have hr6 := m6.at_ j hj
      refine ⟨.ref fA, rfl, .inl ⟨rfl, _, .of (s6 _ _ hx)⟩, .ref D1, rfl, .ref b, rfl, nv j, rfl, b, _, (j : Int), _, rfl, rfl, .of m6.top, refs_at hj, r j, rfl, ⟨_, .of hr6⟩, lcL (row U j) nv (fun _ => true) (fun y => nv (i * U.length + y)) (.of hr6) (by have := G.row_len j; omega) (fun x hx H7 Qy Qf s7 hy _ => ?_) (fun D2 H7 n7 s7 hD2 => ?_)⟩
      · refine ⟨nv i, rfl, .ref b, rfl, b, _, rfl, .inl (.of (m6.same s7).top), (i : Int), _, rfl, rfl, by rw [refs_len]; exact cm (by omega) hU, nv x, rfl, _, (x : Int), rfl, rfl, ?_⟩
        rw [refs_len]
        exact hy rfl H7 (Same.refl _)
      rw [List.filter_eq_self.mpr (fun _ _ => rfl)] at hD2
      have hx7 := s7 _ _ (s6 _ _ hx)
      have s57 := s6.trans s7
      refine ⟨D1, D2, _, _, rfl, rfl, s7 _ _ hD1, hD2, line_le (by rw [List.length_map, List.length_map]; have := F.row_len i; have := G.row_len j; omega), fun p np => ?_⟩
      have hp : (upd H7 p (.lst ((row W i).map (fun x => nv (x * U.length + j)) ++ (row U j).map fun y => nv (i * U.length + y)))) p = some (.lst (nvs (pairR W U i j))) := by
        rw [upd_same, pairR, nvs_append, nvs, nvs, List.map_map, List.map_map]
        rfl
      have s58 := s57.new (o := .lst ((row W i).map (fun x => nv (x * U.length + j)) ++ (row U j).map fun y => nv (i * U.length + y))) np
      have hx8 := same_new (o := .lst ((row W i).map (fun x => nv (x * U.length + j)) ++ (row U j).map fun y => nv (i * U.length + y))) np _ _ hx7
      generalize upd H7 p (.lst ((row W i).map (fun x => nv (x * U.length + j)) ++ (row U j).map fun y => nv (i * U.length + y))) = H8 at hp s58 hx8
      have xl2 : xs.length = i * U.length + j := by rw [xl, List.length_map, List.length_range]
      refine ⟨fA, _, _, rfl, rfl, hx8, by rw [xl2]; exact line_lt (by omega), ?_⟩
      have w8 := grow H8 p (pairR W U i j) s58 (s57.free np) hp
      have e2 := pairs_succ W U (i * U.length + j)
      rw [pair_div hj, pair_mod hj] at e2
      rw [← e2] at w8
      exact ⟨_, _, rfl, (s5.trans s58).mut nf, w8⟩
    · obtain ⟨y4, y5, rfl, s5, w5⟩ := hP
      refine ⟨_, _, _, rfl, s5, ?_⟩
      rw [Nat.succ_mul]
      exact w5
  · obtain ⟨y3, y4, y5, rfl, s4, w4⟩ := hP
    exact ⟨.ref fA, rfl, k fA H4 (s12.trans s4) (w4.back s12)⟩
end Sp

namespace Sp
open PySem PySem.Spec PyProof.Rows L2
abbrev exNs : List Str := ["NoWeb", "Ringed", "NoRow", "NoMove", "TooMany"]
/-! ### xs.count(y), xs flat -/
def rCntB (K : PySem.W.Frag) : V → List V → Hp → VK → Prop := fun x xs H Q => ∃ (a : Addr) (ys : List V) (y : V), x = .ref a ∧ xs = [y] ∧ SqL K H a ys ∧ flatV y = true ∧ ys.all flatV = true ∧ Q (.int ((ys.countP fun z => eqV z y : Nat) : Int)) H
theorem countP_eqU {y : V} : ∀ {ys : List V} {us : List Value}, Vals ys us → ys.all flatV = true → us.countP (eqU y) = ys.countP fun z => eqV z y
  | _, _, .nil, _ => rfl
  | _, _, @Paired.cons _ _ _ z u _ _ r t, f => by
    rw [List.all_cons, Bool.and_eq_true] at f
    rw [List.countP_cons, List.countP_cons, countP_eqU t f.2, eqU_of r f.1]
theorem mt_countB {X : Cx} : MtR X "list.count" (rCntB X.K) := by
  intro pins s σ H x xs v us Q I rx rxs h
  obtain ⟨a, ys, y, rfl, rfl, hs, fy, fys, q⟩ := h
  cases rx
  cases rxs with
  | cons ry rt =>
    rename_i uy ut
    cases rt
    obtain ⟨its, rv, ⟨⟨cls, dd, data, sl⟩, n, ho, hc, hdn, hd⟩, hlen⟩ := I.list hs
    simp only at hc hd
    subst hc hd
    refine call_meets PySem.F.slot_list_count ⟨_, ho, rfl⟩ PySem.F.entry_list_count (PySem.F.args_list_count_2 _ _)
      (SeqAt.list_countAt a its.toArray n dd sl uy (eqU y)) ⟨ho, fun u' hu' => mem_eqAt ry fy rv fys u' (by simpa using hu'), ?_⟩
    have ec : its.toArray.toList.countP (eqU y) = ys.countP fun z => eqV z y := by
      rw [List.toList_toArray]
      exact countP_eqU rv fys
    refine ⟨.int ((ys.countP fun z => eqV z y : Nat) : Int), H, I.tok _, ⟨s.toks, ?_⟩, q⟩
    show Value.int ((its.toArray.toList.countP (eqU y) : Nat) : Int) s.toks = Value.int ((ys.countP fun z => eqV z y : Nat) : Int) s.toks
    rw [ec]
/-! ### what is asked, and what comes of it -/
inductive Ask (H : Hp) : Nat → V → V → V → V → V → Option Str → Prop
  | web {n : Nat} {x y r s m : V} {d : DWb} (hn : n ≤ 11) (hd : WebO H x d) (hb : webOk d = false) : Ask H n x y r s m (some "NoWeb")
  | other {n : Nat} {y r s m : V} {a : Addr} {W : List (List Nat)} {d : DWb} (hn : n = 10 ∨ n = 11) (w : Web H a W) (F : Form W) (hd : WebO H y d) (hb : webOk d = false) : Ask H n (.ref a) y r s m (some "NoWeb")
  | ring {n : Nat} {y r s m : V} {a : Addr} {W : List (List Nat)} (h1 : 1 ≤ n) (h9 : n ≤ 9) (w : Web H a W) (F : Form W) (hn : ¬ Good W) : Ask H n (.ref a) y r s m (some "Ringed")
  | row1 {n : Nat} {y r s m : V} {a : Addr} {W : List (List Nat)} {d : DSp} (h1 : 4 ≤ n) (h9 : n ≤ 9) (w : Web H a W) (G : Good W) (hd : SpotAt H r d) (hb : rowOk W.length d = false) : Ask H n (.ref a) y r s m (some "NoRow")
  | row2 {n : Nat} {y s m : V} {a r : Addr} {W : List (List Nat)} {R : List Nat} {d : DSp} (h9 : n = 9) (w : Web H a W) (G : Good W) (hr : H r = some (.lst (nvs R))) (ok : RowOk W R) (hd : SpotAt H s d) (hb : rowOk W.length d = false) : Ask H n (.ref a) y (.ref r) s m (some "NoRow")
  | move {n : Nat} {y s m : V} {a r : Addr} {W : List (List Nat)} {R : List Nat} (h8 : n = 8) (w : Web H a W) (G : Good W) (hr : H r = some (.lst (nvs R))) (ok : RowOk W R) (hm : OddM H R.length W.length m) : Ask H n (.ref a) y (.ref r) s m (some "NoMove")
  | many {n : Nat} {r s m : V} {a b : Addr} {W U : List (List Nat)} (hn : (n = 10 ∧ 200 < W.length + U.length) ∨ (n = 11 ∧ 200 < W.length * U.length)) (w : Web H a W) (F : Form W) (u : Web H b U) (G : Form U) : Ask H n (.ref a) (.ref b) r s m (some "TooMany")
  | ok0 {n : Nat} {y r s m : V} {a : Addr} {W : List (List Nat)} (h0 : n = 0) (w : Web H a W) (F : Form W) : Ask H n (.ref a) y r s m none
  | ok1 {n : Nat} {y r s m : V} {a : Addr} {W : List (List Nat)} (h1 : 1 ≤ n) (h3 : n ≤ 3) (w : Web H a W) (G : Good W) : Ask H n (.ref a) y r s m none
  | ok4 {n : Nat} {y s m : V} {a r : Addr} {W : List (List Nat)} {R : List Nat} (h4 : 4 ≤ n) (h7 : n ≤ 7) (w : Web H a W) (G : Good W) (hr : H r = some (.lst (nvs R))) (ok : RowOk W R) : Ask H n (.ref a) y (.ref r) s m none
  | ok9 {n : Nat} {y m : V} {a r s : Addr} {W : List (List Nat)} {R S : List Nat} (h9 : n = 9) (w : Web H a W) (G : Good W) (hr : H r = some (.lst (nvs R))) (ok : RowOk W R) (hs : H s = some (.lst (nvs S))) (okS : RowOk W S) : Ask H n (.ref a) y (.ref r) (.ref s) m none
  | two {n : Nat} {r s m : V} {a b : Addr} {W U : List (List Nat)} (hn : (n = 10 ∧ W.length + U.length ≤ 200) ∨ (n = 11 ∧ W.length * U.length ≤ 200)) (w : Web H a W) (F : Form W) (u : Web H b U) (G : Form U) : Ask H n (.ref a) (.ref b) r s m none
theorem Ask.le {H : Hp} {n : Nat} {x y r s m : V} {o : Option Str} (h : Ask H n x y r s m o) : n ≤ 11 := by cases h <;> omega
theorem Ask.nm {H : Hp} {n : Nat} {x y r s m : V} {o : Option Str} (h : Ask H n x y r s m o) : ∀ nm, o = some nm → nm ∈ exNs := by
  intro nm e
  cases h <;> first
    | (cases e; done)
    | (have e2 := Option.some.inj e; subst e2; decide)
section
variable {K : PySem.W.Frag} {H : Hp} {E : XK} {n : Nat} {x y r s m : V} {o : Option Str}
theorem ask0 (h : Ask H n x y r s m o) (hn : n = 0) (k : ∀ nm, o = some nm → AnyE K H E nm) : FArg K x H E fun _ _ => o = none := by
  cases h <;> first
    | (exfalso; omega)
    | skip
  case web d _ hb hd => exact .inl ⟨d, hd, hb, k _ rfl⟩
  case ok0 a W _ w F => exact .inr ⟨a, W, rfl, w, F, rfl⟩
theorem ask1 (h : Ask H n x y r s m o) (h1 : 1 ≤ n) (h3 : n ≤ 3) (k : ∀ nm, o = some nm → AnyE K H E nm) : WArg K x H E fun _ _ => o = none := by
  cases h <;> first
    | (exfalso; omega)
    | skip
  case web d _ hb hd => exact .inl ⟨d, hd, hb, k _ rfl⟩
  case ring a W _ _ w F hn => exact .inr (.inl ⟨a, W, rfl, w, F, hn, k _ rfl⟩)
  case ok1 a W _ _ w G => exact .inr (.inr ⟨a, W, rfl, w, G, rfl⟩)
theorem ask4 (h : Ask H n x y r s m o) (h1 : 4 ≤ n) (h3 : n ≤ 7) (k : ∀ nm, o = some nm → AnyE K H E nm) : WArg K x H E fun _ W => RArg K r W H E fun _ _ => o = none := by
  cases h <;> first
    | (exfalso; omega)
    | skip
  case web d _ hb hd => exact .inl ⟨d, hd, hb, k _ rfl⟩
  case ring a W _ _ w F hn => exact .inr (.inl ⟨a, W, rfl, w, F, hn, k _ rfl⟩)
  case row1 a W d _ _ w G hb hd => exact .inr (.inr ⟨a, W, rfl, w, G, .inl ⟨d, hd, hb, k _ rfl⟩⟩)
  case ok4 a r W R _ _ w G hr ok => exact .inr (.inr ⟨a, W, rfl, w, G, .inr ⟨r, R, rfl, hr, ok, rfl⟩⟩)
theorem ask8 (h : Ask H n x y r s m o) (h8 : n = 8) (k : ∀ nm, o = some nm → AnyE K H E nm) : WArg K x H E fun _ W => RArg K r W H E fun _ R => OddM H R.length W.length m ∧ AnyE K H E "NoMove" := by
  cases h <;> first
    | (exfalso; omega)
    | skip
  case web d _ hb hd => exact .inl ⟨d, hd, hb, k _ rfl⟩
  case ring a W _ _ w F hn => exact .inr (.inl ⟨a, W, rfl, w, F, hn, k _ rfl⟩)
  case row1 a W d _ _ w G hb hd => exact .inr (.inr ⟨a, W, rfl, w, G, .inl ⟨d, hd, hb, k _ rfl⟩⟩)
  case move a r W R _ w G hr ok hm => exact .inr (.inr ⟨a, W, rfl, w, G, .inr ⟨r, R, rfl, hr, ok, hm, k _ rfl⟩⟩)
theorem ask9 (h : Ask H n x y r s m o) (h9 : n = 9) (k : ∀ nm, o = some nm → AnyE K H E nm) : WArg K x H E fun _ W => RArg K r W H E fun _ _ => RArg K s W H E fun _ _ => o = none := by
  cases h <;> first
    | (exfalso; omega)
    | skip
  case web d _ hb hd => exact .inl ⟨d, hd, hb, k _ rfl⟩
  case ring a W _ _ w F hn => exact .inr (.inl ⟨a, W, rfl, w, F, hn, k _ rfl⟩)
  case row1 a W d _ _ w G hb hd => exact .inr (.inr ⟨a, W, rfl, w, G, .inl ⟨d, hd, hb, k _ rfl⟩⟩)
  case row2 a r W R d _ w G hr ok hb hd => exact .inr (.inr ⟨a, W, rfl, w, G, .inr ⟨r, R, rfl, hr, ok, .inl ⟨d, hd, hb, k _ rfl⟩⟩⟩)
  case ok9 a r s W R S _ w G hr ok hs okS => exact .inr (.inr ⟨a, W, rfl, w, G, .inr ⟨r, R, rfl, hr, ok, .inr ⟨s, S, rfl, hs, okS, rfl⟩⟩⟩)
theorem ask10 (h : Ask H n x y r s m o) (hn : n = 10) (k : ∀ nm, o = some nm → AnyE K H E nm) : FArg K x H E fun _ W => FArg K y H E fun _ U => (W.length + U.length ≤ 200 → o = none) ∧ (200 < W.length + U.length → AnyE K H E "TooMany") := by
  cases h <;> first
    | (exfalso; omega)
    | skip
  case web d _ hb hd => exact .inl ⟨d, hd, hb, k _ rfl⟩
  case other a W d _ w F hb hd => exact .inr ⟨a, W, rfl, w, F, .inl ⟨d, hd, hb, k _ rfl⟩⟩
  case many a b W U hn2 w F u G => exact .inr ⟨a, W, rfl, w, F, .inr ⟨b, U, rfl, u, G, fun h => absurd h (by omega), fun _ => k _ rfl⟩⟩
  case two a b W U hn2 w F u G => exact .inr ⟨a, W, rfl, w, F, .inr ⟨b, U, rfl, u, G, fun _ => rfl, fun h => absurd h (by omega)⟩⟩
theorem ask11 (h : Ask H n x y r s m o) (hn : n = 11) (k : ∀ nm, o = some nm → AnyE K H E nm) : FArg K x H E fun _ W => FArg K y H E fun _ U => (W.length * U.length ≤ 200 → o = none) ∧ (200 < W.length * U.length → AnyE K H E "TooMany") := by
  cases h <;> first
    | (exfalso; omega)
    | skip
  case web d _ hb hd => exact .inl ⟨d, hd, hb, k _ rfl⟩
  case other a W d _ w F hb hd => exact .inr ⟨a, W, rfl, w, F, .inl ⟨d, hd, hb, k _ rfl⟩⟩
  case many a b W U hn2 w F u G => exact .inr ⟨a, W, rfl, w, F, .inr ⟨b, U, rfl, u, G, fun h => by rcases hn2 with ⟨z, _⟩ | ⟨_, z⟩ <;> omega, fun _ => k _ rfl⟩⟩
  case two a b W U hn2 w F u G => exact .inr ⟨a, W, rfl, w, F, .inr ⟨b, U, rfl, u, G, fun _ => rfl, fun h => by rcases hn2 with ⟨z, _⟩ | ⟨_, z⟩ <;> omega⟩⟩
end
theorem FArg.imp {K : PySem.W.Frag} {x : V} {H : Hp} {E : XK} {p p2 : Addr → List (List Nat) → Prop} (h : FArg K x H E p) (i : ∀ a W, Form W → p a W → p2 a W) : FArg K x H E p2 := by
  rcases h with h | ⟨a, W, e, w, F, h⟩
  · exact .inl h
  · exact .inr ⟨a, W, e, w, F, i a W F h⟩
theorem WArg.imp {K : PySem.W.Frag} {x : V} {H : Hp} {E : XK} {p p2 : Addr → List (List Nat) → Prop} (h : WArg K x H E p) (i : ∀ a W, Good W → p a W → p2 a W) : WArg K x H E p2 := by
  rcases h with h | h | ⟨a, W, e, w, F, h⟩
  · exact .inl h
  · exact .inr (.inl h)
  · exact .inr (.inr ⟨a, W, e, w, F, i a W F h⟩)
theorem RArg.imp {K : PySem.W.Frag} {x : V} {W : List (List Nat)} {H : Hp} {E : XK} {p p2 : Addr → List Nat → Prop} (h : RArg K x W H E p) (i : ∀ a R, p a R → p2 a R) : RArg K x W H E p2 := by
  rcases h with h | ⟨a, R, e, w, F, h⟩
  · exact .inl h
  · exact .inr ⟨a, R, e, w, F, i a R h⟩
def sp__law_asked_one (K : PySem.W.Frag) : Sp := fun vs H Q E => ∃ (n : Nat) (x y r s m : V) (o : Option Str), vs = [nv n, x, r] ∧ n ≤ 7 ∧ Ask H n x y r s m o ∧ (o = none → ∀ H', Same H H' → Q .non H') ∧ ∀ nm, o = some nm → AnyE K H E nm
/-- slots: 0 _law_which, 1 _law_web, 2 _law_row -/
def N__law_asked_one : List Str := ["_law_which", "_law_web", "_law_row"]
def t__law_asked_one (K : PySem.W.Frag) (E : XK) : TS :=
    tIfS (tTest (tOp rEq (tVar 0) (tC (.int 0)))) (tDrop (tCall (sp_ring_in K) [] E (tCons (tVar 1) (tNil)))) (tIfS (tTest (tOp rEq (tVar 0) (tC (.int 1)))) (tDrop (tCall (sp_numbers_of K) [] E (tCons (tVar 1) (tNil)))) (tIfS (tTest (tOp rEq (tVar 0) (tC (.int 2)))) (tDrop (tCall (sp_lengths_of K) [] E (tCons (tVar 1) (tNil)))) (tIfS (tTest (tOp rEq (tVar 0) (tC (.int 3)))) (tDrop (tCall (sp_shown_moves K) [] E (tCons (tVar 1) (tCons (tC (.int 0)) (tNil))))) (tIfS (tTest (tOp rEq (tVar 0) (tC (.int 4)))) (tDrop (tCall (sp_moves_in K) [] E (tCons (tVar 1) (tCons (tVar 2) (tNil))))) (tIfS (tTest (tOp rEq (tVar 0) (tC (.int 5)))) (tDrop (tCall (sp_row_number K) [] E (tCons (tVar 1) (tCons (tVar 2) (tNil))))) (tIfS (tTest (tOp rEq (tVar 0) (tC (.int 6)))) (tDrop (tCall (sp_is_lost K) [] E (tCons (tVar 1) (tCons (tVar 2) (tNil))))) (tDrop (tCall (sp_good_moves K) [] E (tCons (tVar 1) (tCons (tVar 2) (tNil)))))))))))
theorem r__law_asked_one {K : PySem.W.Frag} (vs : List V) (H : Hp) (Q : VK) (E : XK) (h : sp__law_asked_one K vs H Q E) : t__law_asked_one K E { nx := fun _ H' => Q .non H', rt := Q } (start N__law_asked_one vs) H := by
  obtain ⟨n, x, y, r, s, m, o, rfl, hn, A, k, ke⟩ := h
  refine ⟨nv n, rfl, rfl, decide (n = 0), congrArg V.bl (dec_nv n 0), ite2 (fun c => ?_) (fun c0 => ?_)⟩
  · exact ⟨x, rfl, x, rfl, (ask0 A (of_decide_eq_true c) ke).imp fun _ _ _ e v H' s => k e H' s⟩
  have c0 : n ≠ 0 := fun z => c0 (decide_eq_true z)
  refine ⟨nv n, rfl, rfl, decide (n = 1), congrArg V.bl (dec_nv n 1), ite2 (fun c => ?_) (fun c1 => ?_)⟩
  · have c := of_decide_eq_true c
    exact ⟨x, rfl, x, rfl, (ask1 A (by omega) (by omega) ke).imp fun _ _ _ e _ _ H' _ _ s _ => k e H' s⟩
  have c1 : n ≠ 1 := fun z => c1 (decide_eq_true z)
  refine ⟨nv n, rfl, rfl, decide (n = 2), congrArg V.bl (dec_nv n 2), ite2 (fun c => ?_) (fun c2 => ?_)⟩
  · have c := of_decide_eq_true c
    exact ⟨x, rfl, x, rfl, (ask1 A (by omega) (by omega) ke).imp fun _ _ _ e _ _ H' _ _ s _ => k e H' s⟩
  have c2 : n ≠ 2 := fun z => c2 (decide_eq_true z)
  refine ⟨nv n, rfl, rfl, decide (n = 3), congrArg V.bl (dec_nv n 3), ite2 (fun c => ?_) (fun c3 => ?_)⟩
  · have c := of_decide_eq_true c
    exact ⟨x, rfl, x, 0, rfl, (ask1 A (by omega) (by omega) ke).imp fun _ _ G e => ⟨G.1.pos, fun _ _ _ H' _ _ _ s _ => k e H' s⟩⟩
  have c3 : n ≠ 3 := fun z => c3 (decide_eq_true z)
  refine ⟨nv n, rfl, rfl, decide (n = 4), congrArg V.bl (dec_nv n 4), ite2 (fun c => ?_) (fun c4 => ?_)⟩
  · have c := of_decide_eq_true c
    exact ⟨x, rfl, r, rfl, x, r, rfl, (ask4 A (by omega) (by omega) ke).imp fun _ _ _ h => h.imp fun _ _ e _ H' _ s _ => k e H' s⟩
  have c4 : n ≠ 4 := fun z => c4 (decide_eq_true z)
  refine ⟨nv n, rfl, rfl, decide (n = 5), congrArg V.bl (dec_nv n 5), ite2 (fun c => ?_) (fun c5 => ?_)⟩
  · have c := of_decide_eq_true c
    exact ⟨x, rfl, r, rfl, x, r, rfl, (ask4 A (by omega) (by omega) ke).imp fun _ _ _ h => h.imp fun _ _ e _ H' _ s => k e H' s⟩
  have c5 : n ≠ 5 := fun z => c5 (decide_eq_true z)
  refine ⟨nv n, rfl, rfl, decide (n = 6), congrArg V.bl (dec_nv n 6), ite2 (fun c => ?_) (fun c6 => ?_)⟩
  · have c := of_decide_eq_true c
    exact ⟨x, rfl, r, rfl, x, r, rfl, (ask4 A (by omega) (by omega) ke).imp fun _ _ _ h => h.imp fun _ _ e _ H' s => k e H' s⟩
  have c6 : n ≠ 6 := fun z => c6 (decide_eq_true z)
  exact ⟨x, rfl, r, rfl, x, r, rfl, (ask4 A (by omega) (by omega) ke).imp fun _ _ _ h => h.imp fun _ _ e _ _ H' _ _ s _ _ => k e H' s⟩
def sp__law_asked (K : PySem.W.Frag) : Sp := fun vs H Q E => ∃ (n : Nat) (x y r s m : V) (o : Option Str), vs = [nv n, x, y, r, s, m] ∧ Ask H n x y r s m o ∧ (o = none → ∀ H', Same H H' → Q .non H') ∧ ∀ nm, o = some nm → AnyE K H E nm
/-- slots: 0 _law_which, 1 _law_web, 2 _law_other, 3 _law_row, 4 _law_more, 5 _law_move -/
def N__law_asked : List Str := ["_law_which", "_law_web", "_law_other", "_law_row", "_law_more", "_law_move"]
def t__law_asked (K : PySem.W.Frag) (E : XK) : TS :=
    tIfS (tTest (tOp rLt (tVar 0) (tC (.int 8)))) (tDrop (tCall (sp__law_asked_one K) [] E (tCons (tVar 0) (tCons (tVar 1) (tCons (tVar 3) (tNil)))))) (tIfS (tTest (tOp rEq (tVar 0) (tC (.int 8)))) (tDrop (tCall (sp_played K) [] E (tCons (tVar 1) (tCons (tVar 3) (tCons (tVar 5) (tNil)))))) (tIfS (tTest (tOp rEq (tVar 0) (tC (.int 9)))) (tDrop (tCall (sp_parting_row K) [] E (tCons (tVar 1) (tCons (tVar 3) (tCons (tVar 4) (tNil)))))) (tIfS (tTest (tOp rEq (tVar 0) (tC (.int 10)))) (tDrop (tCall (sp_joined_webs K) [] E (tCons (tVar 1) (tCons (tVar 2) (tNil))))) (tDrop (tCall (sp_paired_web K) [] E (tCons (tVar 1) (tCons (tVar 2) (tNil))))))))
theorem r__law_asked {K : PySem.W.Frag} (vs : List V) (H : Hp) (Q : VK) (E : XK) (h : sp__law_asked K vs H Q E) : t__law_asked K E { nx := fun _ H' => Q .non H', rt := Q } (start N__law_asked vs) H := by
  obtain ⟨n, x, y, r, s, m, o, rfl, A, k, ke⟩ := h
  have hle := A.le
  refine ⟨nv n, rfl, (n : Int), 8, rfl, rfl, _, rfl, ite2 (fun c => ?_) (fun c => ?_)⟩
  · have c := of_decide_eq_true c
    exact ⟨nv n, rfl, x, rfl, r, rfl, n, x, y, r, s, m, o, rfl, by omega, A, fun e H' s => k e H' s, ke⟩
  have c : 8 ≤ n := Nat.le_of_not_lt fun z => c (decide_eq_true (by omega))
  refine ⟨nv n, rfl, rfl, decide (n = 8), congrArg V.bl (dec_nv n 8), ite2 (fun c8 => ?_) (fun c8 => ?_)⟩
  · exact ⟨x, rfl, r, rfl, m, rfl, x, r, m, rfl, ask8 A (of_decide_eq_true c8) ke⟩
  have c8 : n ≠ 8 := fun z => c8 (decide_eq_true z)
  refine ⟨nv n, rfl, rfl, decide (n = 9), congrArg V.bl (dec_nv n 9), ite2 (fun c9 => ?_) (fun c9 => ?_)⟩
  · exact ⟨x, rfl, r, rfl, s, rfl, x, r, s, rfl, (ask9 A (of_decide_eq_true c9) ke).imp fun _ _ _ h => h.imp fun _ _ h => h.imp fun _ _ e _ H' s => k e H' s⟩
  have c9 : n ≠ 9 := fun z => c9 (decide_eq_true z)
  refine ⟨nv n, rfl, rfl, decide (n = 10), congrArg V.bl (dec_nv n 10), ite2 (fun c10 => ?_) (fun c10 => ?_)⟩
  · exact ⟨x, rfl, y, rfl, x, y, rfl, (ask10 A (of_decide_eq_true c10) ke).imp fun _ _ _ h => h.imp fun _ _ _ h => ⟨fun z _ H' s => k (h.1 z) H' s, h.2⟩⟩
  have c10 : n ≠ 10 := fun z => c10 (decide_eq_true z)
  exact ⟨x, rfl, y, rfl, x, y, rfl, (ask11 A (by omega) ke).imp fun _ _ _ h => h.imp fun _ _ _ h => ⟨fun z _ H' s => k (h.1 z) H' s, h.2⟩⟩
/-! ### _law_told -/
def toldS : Option Str → Str
  | none => ""
  | some nm => if nm = "NoWeb" then "web" else if nm = "Ringed" then "ring" else if nm = "NoRow" then "row" else if nm = "NoMove" then "move" else "many"
theorem isX_b {ns : List Str} {K : PySem.W.Frag} {x y : Str} {a : Addr} {b : Bool} {H : Hp} {Q : VK} (T : XF ns K) (hx : x ∈ ns) (hy : y ∈ ns) (e : decide (x = y) = b) (q : Q (.bl b) H) : rIsX K a (.ref (He.ga K x)) none [.ref a, .ref (He.ga K y)] H Q := isX_own T hx hy (by rw [e]; exact q)
structure Told (nm : Str) (b1 b2 b3 b4 b5 : Bool) (j : Nat) (w : Str) : Prop where
  e1 : decide (nm = "NoWeb") = b1
  e2 : decide (nm = "Ringed") = b2
  e3 : decide (nm = "NoRow") = b3
  e4 : decide (nm = "NoMove") = b4
  e5 : decide (nm = "TooMany") = b5
  cnt : ([V.bl b1, V.bl b2, V.bl b3, V.bl b4, V.bl b5, V.bl true].countP fun z => eqV z (V.bl true)) = 2
  at_ : [V.bl b1, V.bl b2, V.bl b3, V.bl b4, V.bl b5, V.bl true][j]? = some (.bl true)
  no : ∀ (i : Nat) (z : V), i < j → [V.bl b1, V.bl b2, V.bl b3, V.bl b4, V.bl b5, V.bl true][i]? = some z → eqV z (V.bl true) = false
  wd : [V.str "web", V.str "ring", V.str "row", V.str "move", V.str "many"][j]? = some (.str w)
  ts : toldS (some nm) = w
theorem told_of {nm : Str} (h : nm ∈ exNs) : ∃ b1 b2 b3 b4 b5 j w, Told nm b1 b2 b3 b4 b5 j w := by
  rcases List.mem_cons.mp h with e | h
  · subst e
    exact ⟨true, false, false, false, false, 0, "web", by decide, by decide, by decide, by decide, by decide, rfl, rfl, fun i z hi => absurd hi (Nat.not_lt_zero i), rfl, by decide⟩
  rcases List.mem_cons.mp h with e | h
  · subst e
    exact ⟨false, true, false, false, false, 1, "ring", by decide, by decide, by decide, by decide, by decide, rfl, rfl, fun i z hi hz => by
      match i, hi with
      | 0, _ => cases hz; rfl, rfl, by decide⟩
  rcases List.mem_cons.mp h with e | h
  · subst e
    exact ⟨false, false, true, false, false, 2, "row", by decide, by decide, by decide, by decide, by decide, rfl, rfl, fun i z hi hz => by
      match i, hi with
      | 0, _ => cases hz; rfl
      | 1, _ => cases hz; rfl, rfl, by decide⟩
  rcases List.mem_cons.mp h with e | h
  · subst e
    exact ⟨false, false, false, true, false, 3, "move", by decide, by decide, by decide, by decide, by decide, rfl, rfl, fun i z hi hz => by
      match i, hi with
      | 0, _ => cases hz; rfl
      | 1, _ => cases hz; rfl
      | 2, _ => cases hz; rfl, rfl, by decide⟩
  rcases List.mem_cons.mp h with e | h
  · subst e
    exact ⟨false, false, false, false, true, 4, "many", by decide, by decide, by decide, by decide, by decide, rfl, rfl, fun i z hi hz => by
      match i, hi with
      | 0, _ => cases hz; rfl
      | 1, _ => cases hz; rfl
      | 2, _ => cases hz; rfl
      | 3, _ => cases hz; rfl, rfl, by decide⟩
  cases h
def sp__law_told (K : PySem.W.Frag) : Sp := fun vs H Q _ => ∃ (n : Nat) (x y r s m : V) (o : Option Str), vs = [nv n, x, y, r, s, m] ∧ Ask H n x y r s m o ∧ ∀ H', Same H H' → Q (.str (toldS o)) H'
/-- slots: 0 _law_which, 1 _law_web, 2 _law_other, 3 _law_row, 4 _law_more, 5 _law_move, 6 error, 7 _law_names -/
def N__law_told : List Str := ["_law_which", "_law_web", "_law_other", "_law_row", "_law_more", "_law_move", "error", "_law_names"]
def t__law_told (K : PySem.W.Frag) : TS :=
    tSeq (tTryAs K (.ref (He.ga K "GameError")) 6 (fun W => tDrop (tCallS (sp__law_asked K) (WE W) (tCons (tVar 0) (tCons (tVar 1) (tCons (tVar 2) (tCons (tVar 3) (tCons (tVar 4) (tCons (tVar 5) (tNil))))))))) (fun a cls d => tSeq (tAsg (tLst (tCons (tCB (rIsX K a cls d) (tCons (tVar 6) (tCons (tC (.ref (He.ga K "NoWeb"))) (tNil)))) (tCons (tCB (rIsX K a cls d) (tCons (tVar 6) (tCons (tC (.ref (He.ga K "Ringed"))) (tNil)))) (tCons (tCB (rIsX K a cls d) (tCons (tVar 6) (tCons (tC (.ref (He.ga K "NoRow"))) (tNil)))) (tNil))))) (gName 7))
    (tSeq (tAsg (tOp rCat (tVar 7) (tLst (tCons (tCB (rIsX K a cls d) (tCons (tVar 6) (tCons (tC (.ref (He.ga K "NoMove"))) (tNil)))) (tCons (tCB (rIsX K a cls d) (tCons (tVar 6) (tCons (tC (.ref (He.ga K "TooMany"))) (tNil)))) (tCons (tCB (rIsX K a cls d) (tCons (tVar 6) (tCons (tC (.ty "ValueError")) (tNil)))) (tNil)))))) (gName 7))
    (tSeq (tIfS (tOr (tTest (tOp rNe (tBM K "list" (rCntB K) (tVar 7) (tCons (tC (.bl true)) (tNil))) (tC (.int 2)))) (tNot (tB (tOp (rIxL K) (tVar 7) (tC (.int 5)))))) (tRet (tC (.str "several"))) (tNext))
    (tRet (tOp (rIxL K) (tLst (tCons (tC (.str "web")) (tCons (tC (.str "ring")) (tCons (tC (.str "row")) (tCons (tC (.str "move")) (tCons (tC (.str "many")) (tNil))))))) (tBM K "list" (rIndex K) (tVar 7) (tCons (tC (.bl true)) (tNil)))))))))
    (tRet (tC (.str "")))
theorem r__law_told {K : PySem.W.Frag} (T : XF exNs K) (vs : List V) (H : Hp) (Q : VK) (E : XK) (h : sp__law_told K vs H Q E) : t__law_told K { nx := fun _ H' => Q .non H', rt := Q } (start N__law_told vs) H := by
  obtain ⟨n, x, y, r, s, m, o, rfl, A, k⟩ := h
  refine ⟨nv n, rfl, x, rfl, y, rfl, r, rfl, s, rfl, m, rfl, n, x, y, r, s, m, o, rfl, A, fun e H1 s1 => ?_, fun nm e H1 s1 => ?_⟩
  · subst e
    exact k H1 s1
  subst e
  have hN := A.nm nm rfl
  obtain ⟨b1, b2, b3, b4, b5, j, w, D⟩ := told_of hN
  have k : ∀ H', Same H H' → Q (.str w) H' := fun H' s => by
    have := k H' s
    rw [D.ts] at this
    exact this
  have f6 : ([V.bl b1, V.bl b2, V.bl b3, V.bl b4, V.bl b5, V.bl true] : List V).all flatV = true := rfl
  refine ⟨true, (T _ hN).game, fun _ a0 n0 => ?_, fun q => nomatch q⟩
  refine ⟨.ref a0, rfl, isX_b T hN (by decide) D.e1 ⟨.ref a0, rfl, isX_b T hN (by decide) D.e2 ⟨.ref a0, rfl, isX_b T hN (by decide) D.e3 ⟨line_le (Nat.le_of_ble_eq_true rfl), fun p1 n1 => ?_⟩⟩⟩⟩
  have s2 := s1.new (o := .lst [.bl b1, .bl b2, .bl b3]) n1
  have h1 : (upd H1 p1 (.lst [.bl b1, .bl b2, .bl b3])) p1 = some (.lst [.bl b1, .bl b2, .bl b3]) := upd_same
  generalize upd H1 p1 (.lst [.bl b1, .bl b2, .bl b3]) = H2 at s2 h1
  refine ⟨.ref p1, rfl, .ref a0, rfl, isX_b T hN (by decide) D.e4 ⟨.ref a0, rfl, isX_b T hN (by decide) D.e5 ⟨.ref a0, rfl, isX_val T hN ⟨line_le (Nat.le_of_ble_eq_true rfl), fun p2 n2 => ⟨p1, p2, _, _, rfl, rfl, same_new n2 _ _ h1, upd_same, line_le (Nat.le_of_ble_eq_true rfl), fun p3 n3 => ?_⟩⟩⟩⟩⟩
  have s3 := (s2.new (o := .lst [.bl b4, .bl b5, .bl true]) n2).new (o := .lst ([.bl b1, .bl b2, .bl b3] ++ [.bl b4, .bl b5, .bl true])) n3
  have h3 : (upd (upd H2 p2 (.lst [.bl b4, .bl b5, .bl true])) p3 (.lst ([.bl b1, .bl b2, .bl b3] ++ [.bl b4, .bl b5, .bl true]))) p3 = some (.lst [.bl b1, .bl b2, .bl b3, .bl b4, .bl b5, .bl true]) := upd_same
  generalize upd (upd H2 p2 (.lst [.bl b4, .bl b5, .bl true])) p3 (.lst ([.bl b1, .bl b2, .bl b3] ++ [.bl b4, .bl b5, .bl true])) = H3 at s3 h3
  refine ⟨.ref p3, rfl, .inl ⟨rfl, _, .of h3⟩, p3, _, .bl true, rfl, rfl, .of h3, rfl, f6, ?_⟩
  rw [D.cnt]
  refine ⟨rfl, false, rfl, iteF ⟨.ref p3, rfl, p3, _, 5, .bl true, rfl, rfl, .of h3, rfl, true, rfl, iteF ?_⟩⟩
  refine ⟨line_le (Nat.le_of_ble_eq_true rfl), fun p4 n4 => ?_⟩
  have h34 := same_new (o := .lst [.str "web", .str "ring", .str "row", .str "move", .str "many"]) n4 _ _ h3
  have s4 := s3.new (o := .lst [.str "web", .str "ring", .str "row", .str "move", .str "many"]) n4
  refine ⟨.ref p3, rfl, .inl ⟨rfl, _, .of h34⟩, p3, _, .bl true, j, .bl true, rfl, rfl, .of h34, rfl, f6, D.at_, rfl, D.no, p4, _, (j : Int), .str w, rfl, rfl, .of upd_same, atI_nat D.wd, k _ s4⟩
end Sp

namespace Sp
open PySem PySem.Spec PyProof.Rows L2
abbrev rInsert : V → List V → Hp → VK → Prop := fun x vs H Q => ∃ (l : Addr) (xs : List V) (i : Int) (y : V), x = .ref l ∧ vs = [.int i, y] ∧ H l = some (.lst xs) ∧ xs.length < sizeLine ∧ 0 ≤ i ∧ i < 2 ^ 63 ∧ Q .non (upd H l (.lst (xs.take i.toNat ++ [y] ++ xs.drop i.toNat)))
theorem mod_pick (c : Int) {n : Nat} (h : 0 < n) : ∃ i : Nat, i < n ∧ c % (n : Int) = (i : Int) := by
  have p1 := Int.emod_nonneg c (show (n : Int) ≠ 0 by omega)
  have p2 := Int.emod_lt_of_pos c (show (0 : Int) < (n : Int) by omega)
  exact ⟨(c % (n : Int)).toNat, by omega, by omega⟩
theorem webN_own {H0 H : Hp} {p : Addr} {n : Nat} {q : Nat → Addr} {f : Nat → List Nat} (O : Own H0 H p n q fun i => nvs (f i)) : WebN H0 H p ((List.range n).map f) := by
  refine ⟨q, ?_⟩
  rw [List.length_map, List.length_range]
  exact O.congr fun i hi => by rw [wrow, row_map hi]
/-- one move more -/
def moreW (W : List (List Nat)) (x y : Nat) : List (List Nat) := (List.range W.length).map fun i => if i = x then row W x ++ [y] else row W i
theorem moreW_len (W : List (List Nat)) (x y : Nat) : (moreW W x y).length = W.length := by rw [moreW, List.length_map, List.length_range]
theorem moreW_form {W : List (List Nat)} (F : Form W) {x y : Nat} (hy : y < W.length) (hn : y ∉ row W x) : Form (moreW W x y) := by
  have h1 := F.pos
  have h2 := F.le
  refine ⟨by rw [moreW_len]; exact h1, by rw [moreW_len]; exact h2, fun s => ?_, fun s z hz => ?_⟩
  · by_cases hs : s < W.length
    · rw [moreW, row_map hs]
      by_cases e : s = x
      · rw [if_pos e]
        refine List.nodup_append.mpr ⟨F.nd x, by simp, fun a ha b hb e => ?_⟩
        rw [List.mem_singleton.mp hb] at e
        exact hn (e ▸ ha)
      · rw [if_neg e]
        exact F.nd s
    · rw [row_nil (by rw [moreW_len]; omega)]
      exact List.nodup_nil
  · rw [moreW_len]
    by_cases hs : s < W.length
    · rw [moreW, row_map hs] at hz
      by_cases e : s = x
      · rw [if_pos e] at hz
        rcases List.mem_append.mp hz with h | h
        · exact F.lt x z h
        · rw [List.mem_singleton.mp h]
          exact hy
      · rw [if_neg e] at hz
        exact F.lt s z hz
    · rw [row_nil (by rw [moreW_len]; omega)] at hz
      cases hz
/-! ### odd parts -/
theorem odd_at {H : Hp} {n : Nat} {p0 : Addr} {big : Int} (h0 : H p0 = some (.lst [.int 0])) (hbig : 1000 ≤ big) (hn : n ≤ 1000) : ∀ k : Nat, k < 7 → ∃ v o, atI [nv n, .int (-1), .bl true, .str "0", .non, .ref p0, .int big] (k : Int) = some v ∧ El H v o ∧ numOk ((n : Int) - 1) o = false
  | 0, _ => ⟨nv n, some (n : Int), atI_nat rfl, .int _, by rw [numOk_some, decide_eq_false (show ¬ (n : Int) ≤ (n : Int) - 1 by omega), Bool.and_false]⟩
  | 1, _ => ⟨.int (-1), some (-1), atI_nat rfl, .int _, by rw [numOk_some, decide_eq_false (show ¬ (0 : Int) ≤ -1 by omega), Bool.false_and]⟩
  | 2, _ => ⟨.bl true, none, atI_nat rfl, .bl _, rfl⟩
  | 3, _ => ⟨.str "0", none, atI_nat rfl, .str _, rfl⟩
  | 4, _ => ⟨.non, none, atI_nat rfl, .non, rfl⟩
  | 5, _ => ⟨.ref p0, none, atI_nat rfl, .lst h0, rfl⟩
  | 6, _ => ⟨.int big, some big, atI_nat rfl, .int _, by rw [numOk_some, decide_eq_false (show ¬ big ≤ (n : Int) - 1 by omega), Bool.and_false]⟩
  | k + 7, h => absurd h (by omega)
theorem pow_big : (1000 : Int) ≤ 10 ^ (20 : Int).toNat := by decide +kernel
theorem spot_ins {H : Hp} {p : Addr} {R : List Nat} {v : V} {o : Option Int} {t : Nat} (h : H p = some (.lst (nvs (R.take t) ++ [v] ++ nvs (R.drop t)))) (e : El H v o) (hl : R.length ≤ 900) :
    ∃ os, SpotAt H (.ref p) (some os) ∧ ∀ m, numOk m o = false → os.all (numOk m) = false := by
  refine ⟨_, ⟨p, (R.take t).map (fun n : Nat => (nv n, some (n : Int))) ++ [(v, o)] ++ (R.drop t).map fun n : Nat => (nv n, some (n : Int)), rfl, ?_, rfl, fun z hz => ?_, ?_⟩, fun m hm => ?_⟩
  · rw [List.map_append, List.map_append, List.map_map, List.map_map]
    exact h
  · rcases List.mem_append.mp hz with hz | hz
    · rcases List.mem_append.mp hz with hz | hz
      · obtain ⟨n, _, rfl⟩ := List.mem_map.mp hz
        exact .int _
      · rw [List.mem_singleton.mp hz]
        exact e
    · obtain ⟨n, _, rfl⟩ := List.mem_map.mp hz
      exact .int _
  · rw [List.length_append, List.length_append, List.length_map, List.length_map, List.length_take, List.length_drop]
    show _ + 1 + _ ≤ _
    omega
  · rw [List.map_append, List.map_append, List.all_append, List.all_append]
    show (_ && (numOk m o && true) && _) = false
    rw [hm, Bool.false_and, Bool.and_false, Bool.false_and]
/-- a web with a bad part -/
def BadW (H : Hp) (x : V) : Prop := ∃ d, WebO H x d ∧ webOk d = false
theorem BadW.same {H H1 : Hp} {x : V} (b : BadW H x) (s : Same H H1) : BadW H1 x := let ⟨d, h, e⟩ := b; ⟨d, h.same s, e⟩
theorem badW_of {H : Hp} {a : Addr} (zs : List (V × DSp)) (h : H a = some (.lst (zs.map (·.1)))) (hs : ∀ z ∈ zs, SpotAt H z.1 z.2) (hl : zs.length ≤ 1000) (hb : ∃ z ∈ zs, spotOk ((zs.length : Int) - 1) z.2 = false) : BadW H (.ref a) := by
  refine ⟨some (zs.map (·.2)), ⟨a, zs, rfl, h, rfl, hs, hl⟩, ?_⟩
  obtain ⟨z, hz, e⟩ := hb
  rw [webOk_some, List.length_map]
  have : (zs.map (·.2)).all (spotOk ((zs.length : Int) - 1)) = false := by
    rw [Bool.eq_false_iff]
    intro c
    have := List.all_eq_true.mp c z.2 (List.mem_map.mpr ⟨z, hz, rfl⟩)
    rw [e] at this
    cases this
  rw [this, Bool.and_false]
theorem badW_set {H : Hp} {a : Addr} {W : List (List Nat)} {q : Nat → Addr} {i : Nat} {x : V} {d : DSp} (F : Form W) (hi : i < W.length) (top : H a = some (.lst ((refs W.length q).set i x))) (rows : ∀ j < W.length, j ≠ i → H (q j) = some (.lst (nvs (row W j)))) (hx : SpotAt H x d) (hb : spotOk ((W.length : Int) - 1) d = false) : BadW H (.ref a) := by
  have hle := F.le
  refine badW_of ((List.range W.length).map fun j => if j = i then (x, d) else (V.ref (q j), dRow (row W j))) ?_ (fun z hz => ?_) (by rw [List.length_map, List.length_range]; omega) ⟨(x, d), List.mem_map.mpr ⟨i, List.mem_range.mpr hi, if_pos rfl⟩, ?_⟩
  · rw [top, List.map_map]
    congr 2
    rw [map_range_set]
    refine List.map_congr_left fun j _ => ?_
    show (if j = i then x else V.ref (q j)) = (if j = i then (x, d) else (V.ref (q j), dRow (row W j))).1
    split <;> rfl
  · obtain ⟨j, hj, rfl⟩ := List.mem_map.mp hz
    by_cases e : j = i
    · rw [if_pos e]
      exact hx
    · rw [if_neg e]
      exact row_at (rows j (List.mem_range.mp hj) e) (by have := F.row_len j; omega)
  · rw [List.length_map, List.length_range]
    exact hb
theorem badW_ins {H : Hp} {a : Addr} {W : List (List Nat)} {q : Nat → Addr} {i : Nat} {x : V} (F : Form W) (top : H a = some (.lst ((refs W.length q).take i ++ [x] ++ (refs W.length q).drop i))) (rows : ∀ j < W.length, H (q j) = some (.lst (nvs (row W j)))) (hx : OddV H x) : BadW H (.ref a) := by
  have hle := F.le
  have gs : ∀ z ∈ (List.range W.length).map fun j => (V.ref (q j), dRow (row W j)), SpotAt H z.1 z.2 := fun z hz => by
    obtain ⟨j, hj, rfl⟩ := List.mem_map.mp hz
    exact row_at (rows j (List.mem_range.mp hj)) (by have := F.row_len j; omega)
  refine badW_of (((List.range W.length).map fun j => (V.ref (q j), dRow (row W j))).take i ++ [(x, none)] ++ ((List.range W.length).map fun j => (V.ref (q j), dRow (row W j))).drop i) ?_ (fun z hz => ?_) ?_ ⟨(x, none), List.mem_append_left _ (List.mem_append_right _ (List.mem_singleton.mpr rfl)), rfl⟩
  · rw [top, List.map_append, List.map_append, List.map_take, List.map_drop, List.map_map]
    rfl
  · rcases List.mem_append.mp hz with hz | hz
    · rcases List.mem_append.mp hz with hz | hz
      · exact gs z (List.mem_of_mem_take hz)
      · rw [List.mem_singleton.mp hz]
        exact hx
    · exact gs z (List.mem_of_mem_drop hz)
  · rw [List.length_append, List.length_append, List.length_take, List.length_drop, List.length_map, List.length_range]
    show _ + 1 + _ ≤ _
    omega
theorem badW_odd {H : Hp} {x : V} (h : OddV H x) : BadW H x := ⟨none, h, rfl⟩
theorem badW_len {H : Hp} {a : Addr} {n : Nat} (w : Web H a ((List.range n).map fun _ => [])) (hn : n = 0 ∨ 200 < n) (hl : n ≤ 1000) : BadW H (.ref a) := by
  refine ⟨_, web_at w (by rw [List.length_map, List.length_range]; exact hl) fun s => ?_, ?_⟩
  · by_cases hs : s < n
    · rw [row_map hs]
      exact Nat.zero_le _
    · rw [row_nil (by rw [List.length_map, List.length_range]; omega)]
      exact Nat.zero_le _
  · show webOk (some _) = false
    rw [webOk_some, List.length_map, List.length_map, List.length_range]
    rcases hn with e | e
    · subst e
      rfl
    · rw [decide_eq_false (show ¬ n ≤ 200 by omega), Bool.and_false, Bool.false_and]
/-! ### _law_bad_row -/
def sp__law_bad_row (K : PySem.W.Frag) : Sp := fun vs H Q _ => ∃ (r : Addr) (R : List Nat) (n : Nat) (c : Int), vs = [.ref r, nv n, .int c] ∧ H r = some (.lst (nvs R)) ∧ R.length ≤ 100 ∧ n ≤ 1000 ∧ 1 ≤ n ∧ ∀ (x : V) (d : DSp) (H' : Hp), SpotAt H' x d → rowOk n d = false → Same H H' → Q x H'
/-- slots: 0 _law_row, 1 _law_many, 2 _law_cell, 3 _law_odd, 4 _law_at -/
def N__law_bad_row : List Str := ["_law_row", "_law_many", "_law_cell", "_law_odd", "_law_at"]
def t__law_bad_row (K : PySem.W.Frag) : TS :=
    tSeq (tAsg (tLst (tCons (tVar 1) (tCons (tUn (rU fun i => .int (-i)) (tC (.int 1))) (tCons (tC (.bl true)) (tCons (tC (.str "0")) (tCons (tC .non) (tCons (tLst (tCons (tC (.int 0)) (tNil))) (tCons (tOp rPow (tC (.int 10)) (tC (.int 20))) (tNil))))))))) (gName 3))
    (tSeq (tAsg (tOp rMod (tOp rDiv (tVar 2) (tC (.int 10))) (tOp rAdd (tCB (rLen K) (tCons (tVar 0) (tNil))) (tC (.int 1)))) (gName 4))
    (tSeq (tIfS (tTest (tOp rLt (tOp rMod (tVar 2) (tC (.int 10))) (tC (.int 7)))) (tRet (tOp rCat (tOp rCat (tSl (rSlL K) (tVar 0) (tNoPart) (tPart (tVar 4))) (tLst (tCons (tOp (rIxL K) (tVar 3) (tOp rMod (tVar 2) (tC (.int 10)))) (tNil)))) (tSl (rSlL K) (tVar 0) (tPart (tVar 4)) (tNoPart)))) (tNext))
    (tRet (tOp (rIxL K) (tLst (tCons (tOp rRep (tLst (tCons (tC (.int 0)) (tNil))) (tC (.int 25))) (tCons (tCB (rTuple K) (tCons (tVar 0) (tNil))) (tCons (tC .non) (tNil))))) (tOp rSub (tOp rMod (tVar 2) (tC (.int 10))) (tC (.int 7)))))))
theorem r__law_bad_row {K : PySem.W.Frag} (vs : List V) (H : Hp) (Q : VK) (E : XK) (h : sp__law_bad_row K vs H Q E) : t__law_bad_row K { nx := fun _ H' => Q .non H', rt := Q } (start N__law_bad_row vs) H := by
  obtain ⟨r, R, n, c, rfl, hr, hl, hn, hn1, k⟩ := h
  refine ⟨nv n, rfl, 1, rfl, line_le (Nat.le_of_ble_eq_true rfl), fun p0 n0 => ⟨10, 20, rfl, rfl, ⟨by decide, by decide, by decide⟩, line_le (Nat.le_of_ble_eq_true rfl), fun oA no => ?_⟩⟩
  have hbig := pow_big
  generalize hbe : ((10 : Int) ^ (20 : Int).toNat) = big at hbig
  dsimp only
  rw [hbe]
  have s1 : Same H (upd (upd H p0 (.lst [.int 0])) oA (.lst [nv n, .int (-1), .bl true, .str "0", .non, .ref p0, .int big])) := (same_new n0).new no
  have h0 : (upd (upd H p0 (.lst [.int 0])) oA (.lst [nv n, .int (-1), .bl true, .str "0", .non, .ref p0, .int big])) p0 = some (.lst [.int 0]) := same_new no _ _ upd_same
  have ho : (upd (upd H p0 (.lst [.int 0])) oA (.lst [nv n, .int (-1), .bl true, .str "0", .non, .ref p0, .int big])) oA = some (.lst [nv n, .int (-1), .bl true, .str "0", .non, .ref p0, .int big]) := upd_same
  generalize upd (upd H p0 (.lst [.int 0])) oA (.lst [nv n, .int (-1), .bl true, .str "0", .non, .ref p0, .int big]) = H1 at s1 h0 ho
  have hr1 := s1 _ _ hr
  refine ⟨.int c, rfl, c, 10, rfl, rfl, ⟨by decide, by decide⟩, .ref r, rfl, r, _, rfl, .inl (.of hr1), _, 1, rfl, rfl, _, _, rfl, rfl, by omega, ?_⟩
  obtain ⟨t, ht, et⟩ := mod_pick (c / 10) (n := R.length + 1) (by omega)
  have et : V.int (c / 10 % (((nvs R).length : Int) + 1)) = nv t := congrArg V.int (by rw [nvs_length]; exact et)
  dsimp only
  rw [et]
  obtain ⟨i, hi, ei⟩ := mod_pick c (n := 10) (by decide)
  have ei : c % 10 = (i : Int) := ei
  refine ⟨.int c, rfl, c, 10, rfl, rfl, (show (0 : Int) < 10 by decide), _, 7, rfl, rfl, _, rfl, ite2 (fun c1 => ?_) (fun c1 => ?_)⟩
  · have c2 : i < 7 := by have := of_decide_eq_true c1; omega
    refine ⟨.ref r, rfl, nv t, rfl, (t : Int), rfl, r, _, rfl, .of hr1, fun p1 n1 => ?_⟩
    have e1 : cutV (nvs R) none (some (t : Int)) = nvs (R.take t) := cut_to nv R t
    rw [e1]
    have u1 : Same H1 (upd H1 p1 (.lst (nvs (R.take t)))) := same_new n1
    have h1 : (upd H1 p1 (.lst (nvs (R.take t)))) p1 = some (.lst (nvs (R.take t))) := upd_same
    generalize upd H1 p1 (.lst (nvs (R.take t))) = H2 at u1 h1
    obtain ⟨v, o, hat, hel, hbad⟩ := odd_at (n := n) (u1 _ _ h0) hbig hn i c2
    rw [← ei] at hat
    refine ⟨.ref oA, rfl, .int c, rfl, c, 10, rfl, rfl, (show (0 : Int) < 10 by decide), oA, _, _, v, rfl, rfl, .of (u1 _ _ ho), hat, line_le (Nat.le_of_ble_eq_true rfl), fun p2 n2 => ⟨p1, p2, _, _, rfl, rfl, same_new n2 _ _ h1, upd_same, line_le (by rw [nvs_length, List.length_take]; show _ + 1 ≤ _; omega), fun p3 n3 => ?_⟩⟩
    have u3 : Same H1 (upd (upd H2 p2 (.lst [v])) p3 (.lst (nvs (R.take t) ++ [v]))) := (u1.new n2).new n3
    have u23 : Same H2 (upd (upd H2 p2 (.lst [v])) p3 (.lst (nvs (R.take t) ++ [v]))) := (same_new n2).new n3
    have h3 : (upd (upd H2 p2 (.lst [v])) p3 (.lst (nvs (R.take t) ++ [v]))) p3 = some (.lst (nvs (R.take t) ++ [v])) := upd_same
    generalize upd (upd H2 p2 (.lst [v])) p3 (.lst (nvs (R.take t) ++ [v])) = H3 at u3 u23 h3
    refine ⟨.ref r, rfl, nv t, rfl, (t : Int), rfl, r, _, rfl, .of (u3 _ _ hr1), fun p4 n4 => ?_⟩
    have e2 : cutV (nvs R) (some (t : Int)) none = nvs (R.drop t) := cut_from nv R t
    rw [e2]
    have u4 := u23.new (o := .lst (nvs (R.drop t))) n4
    have u14 := u3.new (o := .lst (nvs (R.drop t))) n4
    have h4 : (upd H3 p4 (.lst (nvs (R.drop t)))) p4 = some (.lst (nvs (R.drop t))) := upd_same
    have h34 := same_new (o := .lst (nvs (R.drop t))) n4 _ _ h3
    generalize upd H3 p4 (.lst (nvs (R.drop t))) = H4 at u4 u14 h4 h34
    refine ⟨p3, p4, _, _, rfl, rfl, h34, h4, line_le (by rw [List.length_append, nvs_length, nvs_length, List.length_take, List.length_drop]; show _ + 1 + _ ≤ _; omega), fun p5 n5 => ?_⟩
    obtain ⟨os, hos, hall⟩ := spot_ins (H := upd H4 p5 (.lst (nvs (R.take t) ++ [v] ++ nvs (R.drop t)))) (p := p5) upd_same (hel.same (u4.new n5)) (by omega)
    refine k _ _ _ hos ?_ ((s1.trans u14).new n5)
    rw [rowOk_some, hall _ hbad, Bool.and_false]
  · have c2 : ¬ i < 7 := fun z => c1 (decide_eq_true (by omega))
    refine ⟨line_le (Nat.le_of_ble_eq_true rfl), fun p1 n1 => ⟨p1, 25, _, rfl, rfl, upd_same, by decide, by decide, line_le (Nat.le_of_ble_eq_true rfl), fun p2 n2 => ?_⟩⟩
    have s2 : Same H1 (upd (upd H1 p1 (.lst [.int 0])) p2 (.lst (List.replicate (25 : Int).toNat [V.int 0]).flatten)) := (same_new n1).new n2
    have h2 : (upd (upd H1 p1 (.lst [.int 0])) p2 (.lst (List.replicate (25 : Int).toNat [V.int 0]).flatten)) p2 = some (.lst (nvs (List.replicate 25 0))) := by
      rw [upd_same, flat_rep, nvs_rep]
      rfl
    generalize upd (upd H1 p1 (.lst [.int 0])) p2 (.lst (List.replicate (25 : Int).toNat [V.int 0]).flatten) = H2 at s2 h2
    refine ⟨.ref r, rfl, r, _, rfl, .inl ⟨.of (s2 _ _ hr1), fun p3 n3 => ⟨line_le (Nat.le_of_ble_eq_true rfl), fun p4 n4 => ?_⟩⟩⟩
    have s4 : Same H2 (upd (upd H2 p3 (.tup (nvs R))) p4 (.lst [.ref p2, .ref p3, .non])) := (same_new n3).new n4
    have h3 : (upd (upd H2 p3 (.tup (nvs R))) p4 (.lst [.ref p2, .ref p3, .non])) p3 = some (.tup (nvs R)) := same_new n4 _ _ upd_same
    have h4 : (upd (upd H2 p3 (.tup (nvs R))) p4 (.lst [.ref p2, .ref p3, .non])) p4 = some (.lst [.ref p2, .ref p3, .non]) := upd_same
    generalize upd (upd H2 p3 (.tup (nvs R))) p4 (.lst [.ref p2, .ref p3, .non]) = H4 at s4 h3 h4
    have sA := (s1.trans s2).trans s4
    have h24 := s4 _ _ h2
    have pickd : ∃ v d, atI [V.ref p2, V.ref p3, V.non] (c % 10 - 7) = some v ∧ SpotAt H4 v d ∧ rowOk n d = false := by
      have e3 : c % 10 - 7 = ((i - 7 : Nat) : Int) := by omega
      rw [e3]
      have h3i : i - 7 < 3 := by omega
      generalize i - 7 = j at h3i
      match j, h3i with
      | 0, _ => exact ⟨.ref p2, dRow (List.replicate 25 0), atI_nat rfl, row_at h24 (by rw [List.length_replicate]; decide), rfl⟩
      | 1, _ => exact ⟨.ref p3, none, atI_nat rfl, OddV.tup h3, rfl⟩
      | 2, _ => exact ⟨.non, none, atI_nat rfl, OddV.non, rfl⟩
    obtain ⟨v, d, hat, hd, hb⟩ := pickd
    exact ⟨.int c, rfl, c, 10, rfl, rfl, (show (0 : Int) < 10 by decide), _, 7, rfl, rfl, p4, _, _, v, rfl, rfl, .of h4, hat, k v d H4 hd hb sA⟩
/-! ### _law_ringed -/
theorem mod_two {t k n : Nat} (ht : t < n) (hk : k < n) : (t + k) % n = if t + k < n then t + k else t + k - n := by
  by_cases h : t + k < n
  · rw [if_pos h, Nat.mod_eq_of_lt h]
  · rw [if_neg h, Nat.mod_eq_sub_mod (by omega), Nat.mod_eq_of_lt (by omega)]
theorem moreW_row {W : List (List Nat)} {x y s z : Nat} (hs : s < W.length) (h : z ∈ row W s) : z ∈ row (moreW W x y) s := by
  rw [moreW, row_map hs]
  by_cases e : s = x
  · rw [if_pos e]
    exact List.mem_append_left _ (e ▸ h)
  · rw [if_neg e]
    exact h
theorem moreW_new {W : List (List Nat)} {x y : Nat} (hs : x < W.length) : y ∈ row (moreW W x y) x := by
  rw [moreW, row_map hs, if_pos rfl]
  exact List.mem_append_right _ (List.mem_singleton.mpr rfl)
def sp__law_ringed (K : PySem.W.Frag) : Sp := fun vs H Q _ => ∃ (a : Addr) (W : List (List Nat)) (c : Int), vs = [.ref a, .int c] ∧ Web H a W ∧ Form W ∧ W.length ≤ 100 ∧ ∀ (W' : List (List Nat)) (p : Addr) (H' : Hp), Form W' → W'.length = W.length → ¬ Good W' → Same H H' → Web H' p W' → Q (.ref p) H'
/-- slots: 0 _law_web, 1 _law_cell, 2 _law_found, 3 _law_many, 4 _law_spots, 5 _law_k -/
def N__law_ringed : List Str := ["_law_web", "_law_cell", "_law_found", "_law_many", "_law_spots", "_law_k"]
def t__law_ringed (K : PySem.W.Frag) : TS :=
    tSeq (tAsg (tCall (sp__law_copied K) [] E0 (tCons (tVar 0) (tNil))) (gName 2))
    (tSeq (tAsg (tOp rAdd (tC (.int 1)) (tOp rMod (tVar 1) (tCB rMin2 (tCons (tC (.int 3)) (tCons (tCB (rLen K) (tCons (tVar 0) (tNil))) (tNil)))))) (gName 3))
    (tSeq (tAsg (tLc (iRng1 (tCons (tVar 3) (tNil))) (gName 5) (tYes) (tOp rMod (tOp rAdd (tOp rDiv (tVar 1) (tC (.int 3))) (tVar 5)) (tCB (rLen K) (tCons (tVar 0) (tNil)))) [5]) (gName 4))
    (tSeq (tFor (iRng1 (tCons (tVar 3) (tNil))) (gName 5) (tIfS (tTest (tOp (rIn K true) (tOp (rIxL K) (tVar 4) (tOp rMod (tOp rAdd (tVar 5) (tC (.int 1))) (tVar 3))) (tOp (rIxL K) (tVar 2) (tOp (rIxL K) (tVar 4) (tVar 5))))) (tDrop (tBM K "list" rAppend (tOp (rIxL K) (tVar 2) (tOp (rIxL K) (tVar 4) (tVar 5))) (tCons (tOp (rIxL K) (tVar 4) (tOp rMod (tOp rAdd (tVar 5) (tC (.int 1))) (tVar 3))) (tNil)))) (tNext)))
    (tRet (tVar 2)))))
theorem r__law_ringed {K : PySem.W.Frag} (vs : List V) (H : Hp) (Q : VK) (E : XK) (h : sp__law_ringed K vs H Q E) : t__law_ringed K { nx := fun _ H' => Q .non H', rt := Q } (start N__law_ringed vs) H := by
  obtain ⟨a, W, c, rfl, w, F, hl, k⟩ := h
  have hpos := F.pos
  refine ⟨.ref a, rfl, a, W, rfl, w, by omega, fun fA H1 s1 wN => ?_⟩
  obtain ⟨wq, lw⟩ := w.same s1
  -- many
  refine ⟨.int c, rfl, .ref a, rfl, a, _, rfl, .inl (.of lw.top), 3, _, rfl, ?_⟩
  have em : ∃ u : Nat, 1 ≤ u ∧ u ≤ 3 ∧ u ≤ W.length ∧ (if ((refs W.length wq).length : Int) < 3 then ((refs W.length wq).length : Int) else 3) = (u : Int) := by
    rw [refs_len]
    by_cases h : ((W.length : Nat) : Int) < 3
    · exact ⟨W.length, by omega, by omega, Nat.le_refl _, if_pos h⟩
    · exact ⟨3, by omega, by omega, by omega, if_neg h⟩
  obtain ⟨u, u1, u3, uW, eu⟩ := em
  rw [eu]
  refine ⟨c, (u : Int), rfl, rfl, by omega, 1, _, rfl, rfl, ?_⟩
  obtain ⟨m0, hm0, em0⟩ := mod_pick c (n := u) (by omega)
  have em1 : V.int (1 + c % (u : Int)) = nv (m0 + 1) := congrArg V.int (by omega)
  dsimp only
  rw [em1]
  have hmW : m0 + 1 ≤ W.length := by omega
  have hm3 : m0 + 1 ≤ 3 := by omega
  generalize hm : m0 + 1 = m at hmW hm3
  have hm1 : 1 ≤ m := by omega
  -- spots
  obtain ⟨t, ht, et⟩ := mod_pick (c / 3) hpos
  refine ⟨nv m, rfl, (m : Int), rfl, by omega, by omega, ?_⟩
  rw [Int.toNat_natCast]
  refine lcR (n := m) (fun _ => true) (fun i => nv ((t + i) % W.length)) (by omega) (fun i hi H2 Qy Qf s2 hy _ => ?_) (fun D H2 nD s2 hD => ?_)
  · refine ⟨.int c, rfl, c, 3, rfl, rfl, ⟨by decide, by decide⟩, nv i, rfl, _, (i : Int), rfl, rfl, .ref a, rfl, a, _, rfl, .inl (.of (s2 _ _ lw.top)), _, _, rfl, rfl, by rw [refs_len]; omega, ?_⟩
    have e : V.int ((c / 3 + (i : Int)) % ((refs W.length wq).length : Int)) = nv ((t + i) % W.length) := by
      rw [refs_len]
      refine congrArg V.int ?_
      rw [← Int.emod_add_emod, et]
      rfl
    dsimp only
    rw [e]
    exact hy rfl H2 (Same.refl _)
  rw [List.filter_eq_self.mpr (fun _ _ => rfl)] at hD
  let S : List Nat := (List.range m).map fun i => (t + i) % W.length
  have hSl : S.length = m := by show ((List.range m).map _).length = m; rw [List.length_map, List.length_range]
  have hD2 : H2 D = some (.lst (nvs S)) := by rw [hD, nvs]; show _ = some (HO.lst (((List.range m).map fun i => (t + i) % W.length).map nv)); rw [List.map_map]; rfl
  have getS : ∀ i, i < m → S[i]? = some (S.getD i 0) := fun i hi => by
    rw [List.getD_eq_getElem?_getD, List.getElem?_eq_getElem (by omega)]
    rfl
  have valS : ∀ i, i < m → S.getD i 0 = (t + i) % W.length := fun i hi => by
    show ((List.range m).map fun i => (t + i) % W.length).getD i 0 = _
    rw [List.getD_eq_getElem?_getD, List.getElem?_map, List.getElem?_range hi]
    rfl
  have ltS : ∀ x ∈ S, x < W.length := fun x hx => by
    obtain ⟨i, _, rfl⟩ := List.mem_map.mp hx
    exact Nat.mod_lt _ hpos
  have ndS : S.Nodup := by
    refine List.pairwise_map.mpr ?_
    refine (List.pairwise_lt_range.imp_of_mem fun {i j} hi hj hij e => ?_)
    have hi := List.mem_range.mp hi
    have hj := List.mem_range.mp hj
    rw [mod_two ht (by omega), mod_two ht (by omega)] at e
    split at e <;> split at e <;> omega
  generalize S = S at hSl hD2 getS ltS ndS
  clear valS hD em0 em1 hm
  obtain ⟨q, O1⟩ := wN
  have O2 := O1.same s2
  have s12 := s1.trans s2
  have Df : D ≠ fA := (ne_of_none O1.ll.top nD).symm
  have Dq : ∀ j < W.length, D ≠ q j := fun j hj => (ne_of_none (O1.ll.at_ j hj) nD).symm
  refine ⟨nv m, rfl, (m : Int), rfl, by omega, by omega, ?_⟩
  rw [Int.toNat_natCast]
  refine for_range (fun i σ H3 => ∃ (U : List (List Nat)) (y5 : Option V), σ = [some (.ref a), some (.int c), some (.ref fA), some (nv m), some (.ref D), y5] ∧ Same H H3 ∧ H3 D = some (.lst (nvs S)) ∧ Form U ∧ U.length = W.length ∧ Own H H3 fA W.length q (wrow U) ∧ ∀ j < i, S.getD ((j + 1) % m) 0 ∈ row U (S.getD j 0))
    ⟨W, none, rfl, s12, hD2, F, rfl, O2, fun j hj => absurd hj (Nat.not_lt_zero j)⟩ (fun i σ H3 hi hP => ?_) (fun σ H3 hP => ?_)
  · obtain ⟨U, y5, rfl, s3, hS3, FU, hUl, O, hmv⟩ := hP
    rw [Int.zero_add]
    have hj : (i + 1) % m < m := Nat.mod_lt _ (by omega)
    have g1 := getS i hi
    have g2 := getS _ hj
    have l1 := ltS _ (List.mem_of_getElem? g1)
    have l2 := ltS _ (List.mem_of_getElem? g2)
    have hx : S.getD i 0 < W.length := by omega
    have hrow := O.ll.at_ _ hx
    have eix : V.int (((i : Int) + 1) % (m : Int)) = V.int (((i + 1) % m : Nat) : Int) := rfl
    have a1 := nvs_at g1
    have a2 := nvs_at g2
    refine ⟨.ref D, rfl, nv i, rfl, (i : Int), 1, rfl, rfl, nv m, rfl, _, (m : Int), rfl, rfl, by omega, D, _, (((i + 1) % m : Nat) : Int), _, rfl, eix, .of hS3, a2, .ref fA, rfl, .ref D, rfl, nv i, rfl, D, _, (i : Int), _, rfl, rfl, .of hS3, a1, fA, _, (S.getD i 0 : Int), _, rfl, rfl, .of O.ll.top, refs_at hx, q (S.getD i 0), _, rfl, .inl (.of hrow), rfl, flat_nvs _, decide (S.getD ((i + 1) % m) 0 ∉ row U (S.getD i 0)), ?_, ite2 (fun cc => ?_) (fun cc => ?_)⟩
    · rw [if_pos rfl, inV_nv, decide_not]
    · have hn : S.getD ((i + 1) % m) 0 ∉ row U (S.getD i 0) := of_decide_eq_true cc
      refine ⟨.ref fA, rfl, .ref D, rfl, nv i, rfl, D, _, (i : Int), _, rfl, rfl, .of hS3, a1, fA, _, (S.getD i 0 : Int), _, rfl, rfl, .of O.ll.top, refs_at hx, .inl ⟨rfl, _, .of hrow⟩, .ref D, rfl, nv i, rfl, (i : Int), 1, rfl, rfl, nv m, rfl, _, (m : Int), rfl, rfl, by omega, D, _, (((i + 1) % m : Nat) : Int), _, rfl, eix, .of hS3, a2, q (S.getD i 0), _, _, rfl, rfl, hrow, by rw [nvs_length]; have := FU.row_len (S.getD i 0); exact line_lt (by omega), moreW U (S.getD i 0) (S.getD ((i + 1) % m) 0), _, rfl, s3.mut (O.nq _ hx), ?_, moreW_form FU (by omega) hn, by rw [moreW_len]; exact hUl, ?_, fun j hj2 => ?_⟩
      · rw [upd_ne (Dq _ hx)]
        exact hS3
      · refine (O.set hx (nvs (row U (S.getD i 0)) ++ [nv (S.getD ((i + 1) % m) 0)])).congr fun j hj => ?_
        show _ = nvs (row (moreW U (S.getD i 0) (S.getD ((i + 1) % m) 0)) j)
        rw [moreW, row_map (by omega)]
        by_cases e : j = S.getD i 0
        · rw [if_pos e, if_pos e, nvs_append]
          rfl
        · rw [if_neg e, if_neg e]
      · by_cases e : j = i
        · subst e
          exact moreW_new (by omega)
        · have hjm : j < m := by omega
          have lj := ltS _ (List.mem_of_getElem? (getS j hjm))
          exact moreW_row (by omega) (hmv j (by omega))
    · have hn : S.getD ((i + 1) % m) 0 ∈ row U (S.getD i 0) := Classical.byContradiction fun z => cc (decide_eq_true z)
      refine ⟨U, _, rfl, s3, hS3, FU, hUl, O, fun j hj2 => ?_⟩
      by_cases e : j = i
      · subst e
        exact hn
      · exact hmv j (by omega)
  · obtain ⟨U, y5, rfl, s3, hS3, FU, hUl, O, hmv⟩ := hP
    refine ⟨.ref fA, rfl, k U fA H3 FU hUl (fun G => ?_) s3 ⟨q, by unfold WebAt; rw [hUl]; exact O.ll⟩⟩
    refine IsRing.not_good (W := U) (r := S) ⟨fun e => ?_, ndS, fun x hx => by rw [hUl]; exact ltS x hx, fun i hi => ?_⟩ G.2
    · rw [e] at hSl
      have : 0 = m := hSl
      omega
    · rw [hSl] at hi ⊢
      exact hmv i hi
end Sp

namespace Sp
open PySem PySem.Spec PyProof.Rows L2
theorem refs_self {n i : Nat} {q : Nat → Addr} : (refs n q).set i (.ref (q i)) = refs n q := by
  rw [map_range_set]
  refine List.map_congr_left fun j _ => ?_
  by_cases e : j = i
  · rw [if_pos e, e]
  · rw [if_neg e]
def sp__law_spoilt (K : PySem.W.Frag) : Sp := fun vs H Q _ => ∃ (a : Addr) (W : List (List Nat)) (c : Int), vs = [.ref a, .int c] ∧ Web H a W ∧ Form W ∧ W.length ≤ 100 ∧ ∀ (x : V) (H' : Hp), BadW H' x → Same H H' → Q x H'
/-- slots: 0 _law_web, 1 _law_cell, 2 _law_at, 3 _law_odd, 4 _law_found, 5 _law_double, 6 _law_others, 7 _law_far, 8 _law_spot, 9 _law_k -/
def N__law_spoilt : List Str := ["_law_web", "_law_cell", "_law_at", "_law_odd", "_law_found", "_law_double", "_law_others", "_law_far", "_law_spot", "_law_k"]
def t__law_spoilt (K : PySem.W.Frag) : TS :=
    tSeq (tAsg (tOp rMod (tOp rDiv (tVar 1) (tC (.int 14))) (tCB (rLen K) (tCons (tVar 0) (tNil)))) (gName 2))
    (tSeq (tAsg (tLst (tCons (tCB (rLen K) (tCons (tVar 0) (tNil))) (tCons (tUn (rU fun i => .int (-i)) (tC (.int 1))) (tCons (tC (.bl true)) (tCons (tC (.str "0")) (tCons (tC .non) (tCons (tLst (tCons (tC (.int 0)) (tNil))) (tCons (tOp rPow (tC (.int 10)) (tC (.int 20))) (tNil))))))))) (gName 3))
    (tSeq (tAsg (tCall (sp__law_copied K) [] E0 (tCons (tVar 0) (tNil))) (gName 4))
    (tSeq (tIfS (tTest (tOp rLt (tOp rMod (tVar 1) (tC (.int 14))) (tC (.int 7)))) (tSeq (tDrop (tBM K "list" rInsert (tOp (rIxL K) (tVar 4) (tVar 2)) (tCons (tOp rMod (tOp rDiv (tVar 1) (tC (.int 14))) (tOp rAdd (tCB (rLen K) (tCons (tOp (rIxL K) (tVar 4) (tVar 2)) (tNil))) (tC (.int 1)))) (tCons (tOp (rIxL K) (tVar 3) (tOp rMod (tVar 1) (tC (.int 14)))) (tNil)))))
    (tRet (tVar 4))) (tNext))
    (tMid (tIfS (tTest (tOp rEq (tOp rMod (tVar 1) (tC (.int 14))) (tC (.int 7)))) (tSeq (tAsg (tOp rMod (tOp rMod (tOp rDiv (tVar 1) (tC (.int 14))) (tC (.int 7))) (tCB (rLen K) (tCons (tVar 0) (tNil)))) (gName 5))
    (tSeq (tAsg (tLc (iList K (tOp (rIxL K) (tVar 4) (tVar 2))) (gName 8) (tTest (tOp rNe (tVar 8) (tVar 5))) (tVar 8) [8]) (gName 6))
    (tSeq (tAsg (tOp rMod (tOp rDiv (tVar 1) (tC (.int 98))) (tOp rAdd (tCB (rLen K) (tCons (tVar 6) (tNil))) (tC (.int 1)))) (gName 7))
    (tAsg (tOp rCat (tOp rCat (tOp rCat (tLst (tCons (tVar 5) (tNil))) (tSl (rSlL K) (tVar 6) (tNoPart) (tPart (tVar 7)))) (tLst (tCons (tVar 5) (tNil)))) (tSl (rSlL K) (tVar 6) (tPart (tVar 7)) (tNoPart))) (gSub (tVar 4) (tVar 2) rSetL))))) (tNext))
    (tMid (tIfS (tTest (tOp rEq (tOp rMod (tVar 1) (tC (.int 14))) (tC (.int 8)))) (tAsg (tCB (rTuple K) (tCons (tOp (rIxL K) (tVar 4) (tVar 2)) (tNil))) (gSub (tVar 4) (tVar 2) rSetL)) (tNext))
    (tMid (tIfS (tTest (tOp rEq (tOp rMod (tVar 1) (tC (.int 14))) (tC (.int 9)))) (tAsg (tC .non) (gSub (tVar 4) (tVar 2) rSetL)) (tNext))
    (tMid (tIfS (tTest (tOp rEq (tOp rMod (tVar 1) (tC (.int 14))) (tC (.int 10)))) (tDrop (tBM K "list" rInsert (tVar 4) (tCons (tVar 2) (tCons (tC (.int 5)) (tNil))))) (tNext))
    (tSeq (tIfS (tTest (tOp rEq (tOp rMod (tVar 1) (tC (.int 14))) (tC (.int 11)))) (tRet (tLc (iRng1 (tCons (tC (.int 201)) (tNil))) (gName 9) (tYes) (tLst (tNil)) [9])) (tNext))
    (tRet (tIf (tTest (tOp rLt (tOp rMod (tVar 1) (tC (.int 14))) (tC (.int 12)))) (tVar 4) (tOp (rIxL K) (tLst (tCons (tLst (tNil)) (tCons (tC .non) (tCons (tCB (rTuple K) (tCons (tVar 0) (tNil))) (tCons (tDNewT) (tCons (tC (.str "web")) (tCons (tC (.int 5)) (tNil)))))))) (tOp rMod (tOp rDiv (tVar 1) (tC (.int 14))) (tC (.int 6))))))))))))))
theorem r__law_spoilt {K : PySem.W.Frag} (vs : List V) (H : Hp) (Q : VK) (E : XK) (h : sp__law_spoilt K vs H Q E) : t__law_spoilt K { nx := fun _ H' => Q .non H', rt := Q } (start N__law_spoilt vs) H := by
  obtain ⟨a, W, c, rfl, w, F, hl, k⟩ := h
  have hpos := F.pos
  obtain ⟨wq, lw⟩ := w
  -- at
  refine ⟨.int c, rfl, c, 14, rfl, rfl, ⟨by decide, by decide⟩, .ref a, rfl, a, _, rfl, .inl (.of lw.top), _, _, rfl, rfl, by rw [refs_len]; omega, ?_⟩
  rw [refs_len]
  obtain ⟨i, hi, ei⟩ := mod_pick (c / 14) hpos
  dsimp only
  rw [ei]
  -- odd
  refine ⟨.ref a, rfl, a, _, rfl, .inl (.of lw.top), 1, rfl, line_le (Nat.le_of_ble_eq_true rfl), fun p0 n0 => ⟨10, 20, rfl, rfl, ⟨by decide, by decide, by decide⟩, line_le (Nat.le_of_ble_eq_true rfl), fun oA no => ?_⟩⟩
  have hbig := pow_big
  generalize hbe : ((10 : Int) ^ (20 : Int).toNat) = big at hbig
  dsimp only
  rw [hbe, refs_len]
  have s1 : Same H (upd (upd H p0 (.lst [.int 0])) oA (.lst [nv W.length, .int (-1), .bl true, .str "0", .non, .ref p0, .int big])) := (same_new n0).new no
  have h0 : (upd (upd H p0 (.lst [.int 0])) oA (.lst [nv W.length, .int (-1), .bl true, .str "0", .non, .ref p0, .int big])) p0 = some (.lst [.int 0]) := same_new no _ _ upd_same
  have ho : (upd (upd H p0 (.lst [.int 0])) oA (.lst [nv W.length, .int (-1), .bl true, .str "0", .non, .ref p0, .int big])) oA = some (.lst [nv W.length, .int (-1), .bl true, .str "0", .non, .ref p0, .int big]) := upd_same
  generalize upd (upd H p0 (.lst [.int 0])) oA (.lst [nv W.length, .int (-1), .bl true, .str "0", .non, .ref p0, .int big]) = H1 at s1 h0 ho
  refine ⟨.ref a, rfl, a, W, rfl, ⟨wq, lw.same s1⟩, by omega, fun fA H2 s2 wN => ?_⟩
  obtain ⟨q, O⟩ := wN
  have s12 := s1.trans s2
  obtain ⟨kk, hk14, ek⟩ := mod_pick c (n := 14) (by decide)
  have ek : c % 14 = (kk : Int) := ek
  have rlen : ∀ j, (row W j).length ≤ 200 := fun j => F.row_len j
  refine ⟨.int c, rfl, c, 14, rfl, rfl, (show (0 : Int) < 14 by decide), _, 7, rfl, rfl, _, rfl, ite2 (fun c1 => ?_) (fun c1 => ?_)⟩
  · -- an odd move put in
    have c2 : kk < 7 := by have := of_decide_eq_true c1; omega
    have hrow := O.ll.at_ i hi
    obtain ⟨v, od, hat, hel, hbad⟩ := odd_at (n := W.length) (s2 _ _ h0) hbig (by omega) kk c2
    rw [← ek] at hat
    obtain ⟨t, ht, et⟩ := mod_pick (c / 14) (n := (row W i).length + 1) (by omega)
    have et : c / 14 % (((nvs (row W i)).length : Int) + 1) = (t : Int) := by rw [nvs_length]; exact et
    have hri := rlen i
    refine ⟨.ref fA, rfl, nv i, rfl, fA, _, (i : Int), _, rfl, rfl, .of O.ll.top, refs_at hi, .inl ⟨rfl, _, .of hrow⟩, .int c, rfl, c, 14, rfl, rfl, ⟨by decide, by decide⟩, .ref fA, rfl, nv i, rfl, fA, _, (i : Int), _, rfl, rfl, .of O.ll.top, refs_at hi, q i, _, rfl, .inl (.of hrow), _, 1, rfl, rfl, _, _, rfl, rfl, by omega, .ref oA, rfl, .int c, rfl, c, 14, rfl, rfl, (show (0 : Int) < 14 by decide), oA, _, _, v, rfl, rfl, .of (s2 _ _ ho), hat, q i, _, (t : Int), v, rfl, congrArg (fun z => [V.int z, v]) et, hrow, by rw [nvs_length]; exact line_lt (by omega), by omega, by omega, .ref fA, rfl, ?_⟩
    rw [Int.toNat_natCast]
    have hx2 : (nvs (row W i)).take t ++ [v] ++ (nvs (row W i)).drop t = nvs ((row W i).take t) ++ [v] ++ nvs ((row W i).drop t) := by
      unfold nvs
      rw [List.map_take, List.map_drop]
    have qo : q i ≠ oA ∧ q i ≠ p0 := ⟨(ne_of_none ho (O.nq i hi)).symm, (ne_of_none h0 (O.nq i hi)).symm⟩
    rw [show wrow W i = nvs (row W i) from rfl, hx2]
    have hel2 : El (upd H2 (q i) (.lst (nvs ((row W i).take t) ++ [v] ++ nvs ((row W i).drop t)))) v od := by
      cases hel with
      | int z => exact .int z
      | bl b => exact .bl b
      | str b => exact .str b
      | non => exact .non
      | @lst p xs h =>
        by_cases e : p = q i
        · exact .lst (by rw [e]; exact upd_same)
        · exact .lst (xs := xs) (by rw [upd_ne e]; exact h)
    obtain ⟨os, hos, hall⟩ := spot_ins (H := upd H2 (q i) (.lst (nvs ((row W i).take t) ++ [v] ++ nvs ((row W i).drop t)))) (p := q i) upd_same hel2 (by omega)
    refine k _ _ (badW_set (q := q) (i := i) (x := .ref (q i)) (d := some os) F hi ?_ (fun j hj hne => ?_) hos ?_) (s12.mut (s1.free (O.nq i hi)))
    · rw [refs_self, upd_ne (O.ne i hi).symm]
      exact O.ll.top
    · rw [upd_ne (fun z => hne (O.inj j i hj hi z))]
      exact O.ll.at_ j hj
    · rw [spotOk_some, hall _ hbad, Bool.false_and]
  have c2 : 7 ≤ kk := Nat.le_of_not_lt fun z => c1 (decide_eq_true (by omega))
  have e8 : ∀ j : Nat, decide (V.int (c % 14) = V.int (j : Int)) = decide (kk = j) := fun j => by
    rw [ek]
    exact dec_nv kk j
  -- two like moves
  refine ⟨fun σ' H' => ∃ (y5 y6 y7 y8 : Option V), σ' = [some (.ref a), some (.int c), some (nv i), some (.ref oA), some (.ref fA), y5, y6, y7, y8, none] ∧ Same H H' ∧ ((kk ≤ 7 ∧ BadW H' (.ref fA)) ∨ (7 < kk ∧ Own H1 H' fA W.length q (wrow W))), ?_, ?_⟩
  · refine ⟨.int c, rfl, c, 14, rfl, rfl, (show (0 : Int) < 14 by decide), rfl, decide (kk = 7), congrArg V.bl (e8 7), ite2 (fun c3 => ?_) (fun c3 => ⟨_, _, _, _, rfl, s12, .inr ⟨by have : kk ≠ 7 := fun z => c3 (decide_eq_true z); omega, O⟩⟩)⟩
    have c3 : kk = 7 := of_decide_eq_true c3
    have lw2 := lw.same s12
    refine ⟨.int c, rfl, c, 14, rfl, rfl, ⟨by decide, by decide⟩, _, 7, rfl, rfl, (show (0 : Int) < 7 by decide), .ref a, rfl, a, _, rfl, .inl (.of lw2.top), _, _, rfl, rfl, by rw [refs_len]; omega, ?_⟩
    rw [refs_len]
    obtain ⟨db, hdb, edb⟩ := mod_pick (c / 14 % 7) hpos
    dsimp only
    rw [edb]
    have hrow := O.ll.at_ i hi
    refine ⟨.ref fA, rfl, nv i, rfl, fA, _, (i : Int), _, rfl, rfl, .of O.ll.top, refs_at hi, q i, rfl, ⟨_, .of hrow⟩, lcL (row W i) nv (fun x => decide (x ≠ db)) nv (.of hrow) (by have := rlen i; omega) (fun x hx H3 Qy Qf s3 hy hf => ?_) (fun gA H3 ng s3 hg => ?_)⟩
    · refine ⟨nv x, rfl, nv db, rfl, rfl, decide (x ≠ db), ?_, ite2 (fun c4 => ?_) (fun c4 => ?_)⟩
      · rw [decide_not, dec_nv]
      · exact ⟨nv x, rfl, hy c4 H3 (Same.refl _)⟩
      · exact hf (Bool.eq_false_iff.mpr c4) H3 (Same.refl _)
    have ol : ((row W i).filter fun x => decide (x ≠ db)).length ≤ 200 := by
      have := List.length_filter_le (fun x => decide (x ≠ db)) (row W i)
      have := rlen i
      omega
    change H3 gA = some (.lst (nvs ((row W i).filter fun x => decide (x ≠ db)))) at hg
    generalize (row W i).filter (fun x => decide (x ≠ db)) = L at hg ol
    have s13 := s12.trans s3
    have O3 := O.same s3
    refine ⟨.int c, rfl, c, 98, rfl, rfl, ⟨by decide, by decide⟩, .ref gA, rfl, gA, _, rfl, .inl (.of hg), _, 1, rfl, rfl, _, _, rfl, rfl, by omega, ?_⟩
    obtain ⟨t, ht, et⟩ := mod_pick (c / 98) (n := L.length + 1) (by omega)
    have et : c / 98 % (((nvs L).length : Int) + 1) = (t : Int) := by rw [nvs_length]; exact et
    dsimp only
    rw [et]
    refine ⟨nv db, rfl, line_le (Nat.le_of_ble_eq_true rfl), fun p1 n1 => ?_⟩
    have u1 : Same H3 (upd H3 p1 (.lst [nv db])) := same_new n1
    have h1 : (upd H3 p1 (.lst [nv db])) p1 = some (.lst (nvs [db])) := upd_same
    generalize upd H3 p1 (.lst [nv db]) = H4 at u1 h1
    refine ⟨.ref gA, rfl, nv t, rfl, (t : Int), rfl, gA, _, rfl, .of (u1 _ _ hg), fun p2 n2 => ?_⟩
    have e1 : cutV (nvs L) none (some (t : Int)) = nvs (L.take t) := cut_to nv L t
    rw [e1]
    have u2 := u1.new (o := .lst (nvs (L.take t))) n2
    have h12 := same_new (o := .lst (nvs (L.take t))) n2 _ _ h1
    have h2 : (upd H4 p2 (.lst (nvs (L.take t)))) p2 = some (.lst (nvs (L.take t))) := upd_same
    generalize upd H4 p2 (.lst (nvs (L.take t))) = H5 at u2 h12 h2
    refine ⟨p1, p2, _, _, rfl, rfl, h12, h2, line_le (by rw [nvs_length, nvs_length, List.length_take]; show 1 + _ ≤ _; omega), fun p3 n3 => ?_⟩
    have u3 := u2.new (o := .lst (nvs [db] ++ nvs (L.take t))) n3
    have h3 : (upd H5 p3 (.lst (nvs [db] ++ nvs (L.take t)))) p3 = some (.lst (nvs ([db] ++ L.take t))) := by rw [upd_same, ← nvs_append]
    generalize upd H5 p3 (.lst (nvs [db] ++ nvs (L.take t))) = H6 at u3 h3
    refine ⟨nv db, rfl, line_le (Nat.le_of_ble_eq_true rfl), fun p4 n4 => ?_⟩
    refine ⟨p3, p4, _, _, rfl, rfl, same_new n4 _ _ h3, upd_same, line_le (by rw [nvs_length, List.length_append, List.length_take]; show 1 + _ + 1 ≤ _; omega), fun p5 n5 => ?_⟩
    have u5 : Same H3 (upd (upd H6 p4 (.lst [nv db])) p5 (.lst (nvs ([db] ++ L.take t) ++ [nv db]))) := (u3.new n4).new n5
    have h5 : (upd (upd H6 p4 (.lst [nv db])) p5 (.lst (nvs ([db] ++ L.take t) ++ [nv db]))) p5 = some (.lst (nvs ([db] ++ L.take t ++ [db]))) := by rw [upd_same, nvs_append ([db] ++ L.take t)]; rfl
    generalize upd (upd H6 p4 (.lst [nv db])) p5 (.lst (nvs ([db] ++ L.take t) ++ [nv db])) = H7 at u5 h5
    refine ⟨.ref gA, rfl, nv t, rfl, (t : Int), rfl, gA, _, rfl, .of (u5 _ _ hg), fun p6 n6 => ?_⟩
    have e2 : cutV (nvs L) (some (t : Int)) none = nvs (L.drop t) := cut_from nv L t
    rw [e2]
    have u6 := u5.new (o := .lst (nvs (L.drop t))) n6
    have h56 := same_new (o := .lst (nvs (L.drop t))) n6 _ _ h5
    have h6 : (upd H7 p6 (.lst (nvs (L.drop t)))) p6 = some (.lst (nvs (L.drop t))) := upd_same
    generalize upd H7 p6 (.lst (nvs (L.drop t))) = H8 at u6 h56 h6
    refine ⟨p5, p6, _, _, rfl, rfl, h56, h6, line_le (by rw [nvs_length, nvs_length, List.length_append, List.length_append, List.length_take, List.length_drop]; show 1 + _ + 1 + _ ≤ _; omega), fun p7 n7 => ?_⟩
    have u7 := u6.new (o := .lst (nvs ([db] ++ L.take t ++ [db]) ++ nvs (L.drop t))) n7
    have h7 : (upd H8 p7 (.lst (nvs ([db] ++ L.take t ++ [db]) ++ nvs (L.drop t)))) p7 = some (.lst (nvs ([db] ++ L.take t ++ [db] ++ L.drop t))) := by rw [upd_same, ← nvs_append]
    generalize upd H8 p7 (.lst (nvs ([db] ++ L.take t ++ [db]) ++ nvs (L.drop t))) = H9 at u7 h7
    have O9 := O3.same u7
    have pf : p7 ≠ fA := fun e => by
      rw [e, O9.ll.top] at h7
      have h8 := HO.lst.inj (Option.some.inj h7)
      have h9 := congrArg List.head? h8
      have h10 := refs_get (q := q) hpos
      cases hr : refs W.length q with
      | nil => rw [hr] at h10; cases h10
      | cons z zs =>
        rw [hr] at h9 h10
        have e1 : V.ref (q 0) = z := (Option.some.inj h10).symm
        rw [← e1] at h9
        cases h9
    refine ⟨.ref fA, rfl, nv i, rfl, fA, _, (i : Int), i, rfl, rfl, O9.ll.top, ix_at (by rw [refs_len]; exact hi), _, _, _, _, rfl, (s13.trans u7).mut (s1.free O.na), .inl ⟨by omega, ?_⟩⟩
    refine badW_set (q := q) (i := i) (x := .ref p7) (d := dRow ([db] ++ L.take t ++ [db] ++ L.drop t)) F hi upd_same (fun j hj hne => ?_) ?_ ?_
    · rw [upd_ne (O.ne j hj)]
      exact O9.ll.at_ j hj
    · refine row_at (by rw [upd_ne pf]; exact h7) ?_
      rw [List.length_append, List.length_append, List.length_append, List.length_take, List.length_drop]
      show 1 + _ + 1 + _ ≤ _
      omega
    · show spotOk _ (some _) = false
      rw [spotOk_some]
      have nd : ¬ (([db] ++ L.take t ++ [db] ++ L.drop t).map fun n : Nat => some (n : Int)).Nodup := fun z => by
        have z2 : ((some (db : Int)) :: ((L.take t ++ [db] ++ L.drop t).map fun n : Nat => some (n : Int))).Nodup := by
          have e9 : ([db] ++ L.take t ++ [db] ++ L.drop t) = db :: (L.take t ++ [db] ++ L.drop t) := by simp
          rw [e9, List.map_cons] at z
          exact z
        exact (List.nodup_cons.mp z2).1 (List.mem_map.mpr ⟨db, List.mem_append_left _ (List.mem_append_right _ (List.mem_singleton.mpr rfl)), rfl⟩)
      rw [decide_eq_false nd, Bool.and_false]
  rintro σ' H3 ⟨y5, y6, y7, y8, rfl, s3, hO3⟩
  -- a tuple
  refine ⟨fun σ' H' => ∃ (y5 y6 y7 y8 : Option V), σ' = [some (.ref a), some (.int c), some (nv i), some (.ref oA), some (.ref fA), y5, y6, y7, y8, none] ∧ Same H H' ∧ ((kk ≤ 8 ∧ BadW H' (.ref fA)) ∨ (8 < kk ∧ Own H1 H' fA W.length q (wrow W))), ?_, ?_⟩
  · refine ⟨.int c, rfl, c, 14, rfl, rfl, (show (0 : Int) < 14 by decide), rfl, decide (kk = 8), congrArg V.bl (e8 8), ite2 (fun c3 => ?_) (fun c3 => ⟨_, _, _, _, rfl, s3, ?_⟩)⟩
    · have c3 : kk = 8 := of_decide_eq_true c3
      rcases hO3 with ⟨z, _⟩ | ⟨_, O3⟩
      · omega
      refine ⟨.ref fA, rfl, nv i, rfl, fA, _, (i : Int), _, rfl, rfl, .of O3.ll.top, refs_at hi, q i, _, rfl, .inl ⟨.of (O3.ll.at_ i hi), fun p np => ?_⟩⟩
      have O4 := O3.same (same_new (o := .tup (wrow W i)) np)
      have hp : (upd H3 p (.tup (wrow W i))) p = some (.tup (wrow W i)) := upd_same
      have s4 := s3.new (o := .tup (wrow W i)) np
      have pf : p ≠ fA := (ne_of_none O3.ll.top np).symm
      generalize upd H3 p (.tup (wrow W i)) = H4 at O4 hp s4
      refine ⟨.ref fA, rfl, nv i, rfl, fA, _, (i : Int), i, rfl, rfl, O4.ll.top, ix_at (by rw [refs_len]; exact hi), _, _, _, _, rfl, s4.mut (s1.free O.na), .inl ⟨by omega, ?_⟩⟩
      refine badW_set (q := q) (i := i) (x := .ref p) (d := none) F hi upd_same (fun j hj hne => ?_) (OddV.tup (xs := wrow W i) (by rw [upd_ne pf]; exact hp)) rfl
      rw [upd_ne (O.ne j hj)]
      exact O4.ll.at_ j hj
    · have c3 : kk ≠ 8 := fun z => c3 (decide_eq_true z)
      rcases hO3 with ⟨z, b⟩ | ⟨z, O3⟩
      · exact .inl ⟨by omega, b⟩
      · exact .inr ⟨by omega, O3⟩
  clear hO3 s3
  rintro σ' H3 ⟨y5, y6, y7, y8, rfl, s3, hO3⟩
  -- None
  refine ⟨fun σ' H' => ∃ (y5 y6 y7 y8 : Option V), σ' = [some (.ref a), some (.int c), some (nv i), some (.ref oA), some (.ref fA), y5, y6, y7, y8, none] ∧ Same H H' ∧ ((kk ≤ 9 ∧ BadW H' (.ref fA)) ∨ (9 < kk ∧ Own H1 H' fA W.length q (wrow W))), ?_, ?_⟩
  · refine ⟨.int c, rfl, c, 14, rfl, rfl, (show (0 : Int) < 14 by decide), rfl, decide (kk = 9), congrArg V.bl (e8 9), ite2 (fun c3 => ?_) (fun c3 => ⟨_, _, _, _, rfl, s3, ?_⟩)⟩
    · have c3 : kk = 9 := of_decide_eq_true c3
      rcases hO3 with ⟨z, _⟩ | ⟨_, O3⟩
      · omega
      refine ⟨.ref fA, rfl, nv i, rfl, fA, _, (i : Int), i, rfl, rfl, O3.ll.top, ix_at (by rw [refs_len]; exact hi), _, _, _, _, rfl, s3.mut (s1.free O.na), .inl ⟨by omega, ?_⟩⟩
      refine badW_set (q := q) (i := i) (x := .non) (d := none) F hi upd_same (fun j hj hne => ?_) OddV.non rfl
      rw [upd_ne (O.ne j hj)]
      exact O3.ll.at_ j hj
    · have c3 : kk ≠ 9 := fun z => c3 (decide_eq_true z)
      rcases hO3 with ⟨z, b⟩ | ⟨z, O3⟩
      · exact .inl ⟨by omega, b⟩
      · exact .inr ⟨by omega, O3⟩
  clear hO3 s3
  rintro σ' H3 ⟨y5, y6, y7, y8, rfl, s3, hO3⟩
  -- five put in
  refine ⟨fun σ' H' => ∃ (y5 y6 y7 y8 : Option V), σ' = [some (.ref a), some (.int c), some (nv i), some (.ref oA), some (.ref fA), y5, y6, y7, y8, none] ∧ Same H H' ∧ (kk ≤ 10 → BadW H' (.ref fA)), ?_, ?_⟩
  · refine ⟨.int c, rfl, c, 14, rfl, rfl, (show (0 : Int) < 14 by decide), rfl, decide (kk = 10), congrArg V.bl (e8 10), ite2 (fun c3 => ?_) (fun c3 => ⟨_, _, _, _, rfl, s3, ?_⟩)⟩
    · have c3 : kk = 10 := of_decide_eq_true c3
      rcases hO3 with ⟨z, _⟩ | ⟨_, O3⟩
      · omega
      refine ⟨.ref fA, rfl, .inl ⟨rfl, _, .of O3.ll.top⟩, nv i, rfl, fA, _, (i : Int), .int 5, rfl, rfl, O3.ll.top, by rw [refs_len]; exact line_lt (by omega), by omega, by omega, _, _, _, _, rfl, s3.mut (s1.free O.na), fun _ => ?_⟩
      rw [Int.toNat_natCast]
      refine badW_ins (q := q) (i := i) (x := .int 5) F upd_same (fun j hj => ?_) (OddV.int 5)
      rw [upd_ne (O.ne j hj)]
      exact O3.ll.at_ j hj
    · have c3 : kk ≠ 10 := fun z => c3 (decide_eq_true z)
      rcases hO3 with ⟨z, b⟩ | ⟨z, O3⟩
      · exact fun _ => b
      · exact fun z2 => absurd z2 (by omega)
  clear hO3 s3
  rintro σ' H3 ⟨y5, y6, y7, y8, rfl, s3, hB⟩
  -- two hundred and one
  refine ⟨.int c, rfl, c, 14, rfl, rfl, (show (0 : Int) < 14 by decide), rfl, decide (kk = 11), congrArg V.bl (e8 11), ite2 (fun c3 => ?_) (fun c3 => ?_)⟩
  · refine ⟨201, rfl, by decide, by decide, ?_⟩
    rw [show (201 : Int).toNat = 201 from rfl]
    refine lcRN (n := 201) (fun _ => nvs []) (by decide) (fun j hj H4 Qy s4 hy => ⟨Nat.zero_le _, fun p np => hy p _ np (same_new np) upd_same⟩) (fun D H4 s4 hD => ?_)
    obtain ⟨dq, OD⟩ := hD.own
    exact k _ _ (badW_len (n := 201) (webN_own (f := fun _ => []) OD).web (.inr (by decide)) (by decide)) (s3.trans s4)
  have c3 : kk ≠ 11 := fun z => c3 (decide_eq_true z)
  refine ⟨.int c, rfl, c, 14, rfl, rfl, (show (0 : Int) < 14 by decide), _, 12, rfl, rfl, _, rfl, ite2 (fun c4 => ?_) (fun c4 => ?_)⟩
  · have c4 : kk < 12 := by have := of_decide_eq_true c4; omega
    exact ⟨.ref fA, rfl, k _ _ (hB (by omega)) s3⟩
  have lw3 := lw.same s3
  refine ⟨Nat.zero_le _, fun p1 n1 => ⟨.ref a, rfl, a, _, rfl, .inl ⟨.of (same_new n1 _ _ lw3.top), fun p2 n2 => fun p3 n3 => ⟨line_le (Nat.le_of_ble_eq_true rfl), fun p4 n4 => ?_⟩⟩⟩⟩
  have sA : Same H3 (upd (upd (upd (upd H3 p1 (.lst [])) p2 (.tup (refs W.length wq))) p3 (.dT [])) p4 (.lst [.ref p1, .non, .ref p2, .ref p3, .str "web", .int 5])) := (((same_new n1).new n2).new n3).new n4
  have h1 : (upd (upd (upd (upd H3 p1 (.lst [])) p2 (.tup (refs W.length wq))) p3 (.dT [])) p4 (.lst [.ref p1, .non, .ref p2, .ref p3, .str "web", .int 5])) p1 = some (.lst []) := (((same_new n2).new n3).new n4) _ _ upd_same
  have h2 : (upd (upd (upd (upd H3 p1 (.lst [])) p2 (.tup (refs W.length wq))) p3 (.dT [])) p4 (.lst [.ref p1, .non, .ref p2, .ref p3, .str "web", .int 5])) p2 = some (.tup (refs W.length wq)) := ((same_new n3).new n4) _ _ upd_same
  have h3 : (upd (upd (upd (upd H3 p1 (.lst [])) p2 (.tup (refs W.length wq))) p3 (.dT [])) p4 (.lst [.ref p1, .non, .ref p2, .ref p3, .str "web", .int 5])) p3 = some (.dT []) := same_new n4 _ _ upd_same
  have h4 : (upd (upd (upd (upd H3 p1 (.lst [])) p2 (.tup (refs W.length wq))) p3 (.dT [])) p4 (.lst [.ref p1, .non, .ref p2, .ref p3, .str "web", .int 5])) p4 = some (.lst [.ref p1, .non, .ref p2, .ref p3, .str "web", .int 5]) := upd_same
  generalize upd (upd (upd (upd H3 p1 (.lst [])) p2 (.tup (refs W.length wq))) p3 (.dT [])) p4 (.lst [.ref p1, .non, .ref p2, .ref p3, .str "web", .int 5]) = H4 at sA h1 h2 h3 h4
  obtain ⟨j, hj, ej⟩ := mod_pick (c / 14) (n := 6) (by decide)
  have ej : c / 14 % 6 = (j : Int) := ej
  have pickd : ∃ v, atI [V.ref p1, V.non, V.ref p2, V.ref p3, V.str "web", V.int 5] (c / 14 % 6) = some v ∧ BadW H4 v := by
    rw [ej]
    match j, hj with
    | 0, _ => exact ⟨.ref p1, atI_nat rfl, some [], ⟨p1, [], rfl, h1, rfl, (fun z hz => nomatch hz), Nat.zero_le _⟩, rfl⟩
    | 1, _ => exact ⟨.non, atI_nat rfl, badW_odd .non⟩
    | 2, _ => exact ⟨.ref p2, atI_nat rfl, badW_odd (.tup h2)⟩
    | 3, _ => exact ⟨.ref p3, atI_nat rfl, badW_odd (.dct h3)⟩
    | 4, _ => exact ⟨.str "web", atI_nat rfl, badW_odd (.str _)⟩
    | 5, _ => exact ⟨.int 5, atI_nat rfl, badW_odd (.int 5)⟩
  obtain ⟨v, hat, hb⟩ := pickd
  exact ⟨.int c, rfl, c, 14, rfl, rfl, ⟨by decide, by decide⟩, _, 6, rfl, rfl, (show (0 : Int) < 6 by decide), p4, _, _, v, rfl, rfl, .of h4, hat, k v H4 hb (s3.trans sA)⟩
end Sp

namespace Sp
open PySem PySem.Spec PyProof.Rows L2
abbrev rNotB : R2 := fun x y H Q => ∃ a b : Bool, x = .bl a ∧ y = .bl b ∧ Q (.bl (!decide (a = b))) H
abbrev rBool1 : List V → Hp → VK → Prop := fun xs H Q => (∃ i, xs = [.int i] ∧ Q (.bl (i != 0)) H) ∨ ∃ k, xs = [.bl k] ∧ Q (.bl k) H
abbrev rInt1 : List V → Hp → VK → Prop := fun xs H Q => (∃ i, xs = [.int i] ∧ Q (.int i) H) ∨ ∃ k, xs = [.bl k] ∧ Q (.int (if k then 1 else 0)) H
/-! ### web and row in a list, as data -/
theorem _root_.Sp.Flt.mono {d e : Nat} {x : PyData} (h : Flt d x) (he : d ≤ e) : Flt e x := ⟨h.1, Nat.le_trans h.2 he⟩
theorem flt_of {d : Nat} (l : List PyData) (h : ∀ x ∈ l, Flt d x) : Flt (d + 1) (.list l) := by
  have := flt_list (fun x : PyData => x) l h
  rwa [List.map_id'] at this
def dWR (W : List (List Nat)) (R : List Nat) : PyData := .list [dWeb W, dNs R]
theorem flt_dWR (W : List (List Nat)) (R : List Nat) : Flt 4 (dWR W R) := flt_of _ fun x hx => by
  rcases List.mem_cons.mp hx with e | hx
  · rw [e]; exact flt_web W
  · rw [List.mem_singleton.mp hx]; exact (flt_ns R).mono (by decide)
theorem sh_dWR (W : List (List Nat)) (R : List Nat) : SeqAt.shaped (dWR W R) = true := (flt_dWR W R).shaped (by decide)
theorem dWR_refl (W : List (List Nat)) (R : List Nat) : PyData.eqv (dWR W R) (dWR W R) = true := (flt_dWR W R).refl
theorem dp_dWR {K : PySem.W.Frag} {H : Hp} {p a r : Addr} {W : List (List Nat)} {R : List Nat} (hp : H p = some (.lst [.ref a, .ref r])) (w : Web H a W) (hr : H r = some (.lst (nvs R))) : Dp K H (.ref p) (dWR W R) :=
  .lst (.of hp) (.cons w.dp (.cons (dp_ns (.of hr)) .nil))
/-! ### the law -/
def mvS (n : Nat) : Str := if n = 8 then "move" else ""
theorem tW : toldS (some "NoWeb") = "web" := by decide
theorem tR : toldS (some "Ringed") = "ring" := by decide
theorem tO : toldS (some "NoRow") = "row" := by decide
theorem tM : toldS (some "NoMove") = "move" := by decide
theorem tT : toldS (some "TooMany") = "many" := by decide
structure LawF (K : PySem.W.Frag) (H : Hp) (a wA rA p5 : Addr) (ns : List Int) (W W5 : List (List Nat)) (R : List Nat) (n : Nat) (x4 x6 : V) : Prop where
  sc : SqL K H a (ns.map V.int)
  w : Web H wA W
  G : Good W
  W40 : W.length ≤ 40
  hr : H rA = some (.lst (nvs R))
  ok : RowOk W R
  R3 : R.length ≤ 3
  hn : n ≤ 11
  b4 : BadW H x4
  F5 : Form W5
  l5 : W5.length = W.length
  n5 : ¬ Good W5
  w5 : Web H p5 W5
  d6 : ∃ d, SpotAt H x6 d ∧ rowOk W.length d = false
theorem LawF.same {K : PySem.W.Frag} {H H1 : Hp} {a wA rA p5 : Addr} {ns : List Int} {W W5 : List (List Nat)} {R : List Nat} {n : Nat} {x4 x6 : V} (L : LawF K H a wA rA p5 ns W W5 R n x4 x6) (s : Same H H1) : LawF K H1 a wA rA p5 ns W W5 R n x4 x6 :=
  { sc := s.seq L.sc, w := L.w.same s, G := L.G, W40 := L.W40, hr := s _ _ L.hr, ok := L.ok, R3 := L.R3, hn := L.hn, b4 := L.b4.same s, F5 := L.F5, l5 := L.l5, n5 := L.n5, w5 := L.w5.same s, d6 := let ⟨d, h, e⟩ := L.d6; ⟨d, h.same s, e⟩ }
/-- a web of one spot in a list literal -/
theorem web_one {H : Hp} {p q : Addr} {r : List Nat} (hp : H p = some (.lst [.ref q])) (hq : H q = some (.lst (nvs r))) : Web H p [r] := ⟨fun _ => q, hp, fun i hi => by
  have : i = 0 := by
    have h1 : i < 1 := hi
    omega
  subst this
  exact hq⟩
theorem form_0 : Form [[0]] := ⟨by decide, by decide, fun s => by
  cases s with
  | zero => show [0].Nodup; simp
  | succ s => exact List.nodup_nil, fun s x hx => by
  cases s with
  | zero => rw [List.mem_singleton.mp hx]; decide
  | succ s => cases hx⟩
theorem form_e : Form [[]] := ⟨by decide, by decide, fun s => by
  cases s with
  | zero => exact List.nodup_nil
  | succ s => exact List.nodup_nil, fun s x hx => by
  cases s with
  | zero => cases hx
  | succ s => cases hx⟩
theorem form_empty {m : Nat} (h1 : 1 ≤ m) (h2 : m ≤ 200) : Form ((List.range m).map fun _ => []) := by
  refine ⟨by rw [List.length_map, List.length_range]; exact h1, by rw [List.length_map, List.length_range]; exact h2, fun s => ?_, fun s x hx => ?_⟩
  · by_cases hs : s < m
    · rw [row_map hs]; exact List.nodup_nil
    · rw [row_nil (by rw [List.length_map, List.length_range]; omega)]; exact List.nodup_nil
  · by_cases hs : s < m
    · rw [row_map hs] at hx; cases hx
    · rw [row_nil (by rw [List.length_map, List.length_range]; omega)] at hx; cases hx
/-- slots: 0 _law_script, 1 _law_web, 2 _law_row, 3 _law_which, 4 _law_spoilt_here, 5 _law_ringed_here, 6 _law_bad, 7 _law_due, 8 _law_handed, 9 _law_odd, 10 _law_place, 11 _law_other, 12 _law_move, 13 _law_wide, 14 _law_cell, 15 _law_k -/
def N_law : List Str := ["_law_script", "_law_web", "_law_row", "_law_which", "_law_spoilt_here", "_law_ringed_here", "_law_bad", "_law_due", "_law_handed", "_law_odd", "_law_place", "_law_other", "_law_move", "_law_wide", "_law_cell", "_law_k"]
def t_lE (K : PySem.W.Frag) : TS :=
    tSeq (tAsg (tIf (tTest (tOp rGt (tVar 3) (tC (.int 9)))) (tLc (iRng1 (tCons (tOp (rIxL K) (tLst (tCons (tC (.int 199)) (tCons (tOp rDiv (tC (.int 201)) (tCB rMax2 (tCons (tC (.int 1)) (tCons (tCB (rLen K) (tCons (tVar 1) (tNil))) (tNil))))) (tNil)))) (tOp rSub (tVar 3) (tC (.int 10)))) (tNil))) (gName 15) (tYes) (tLst (tNil)) [15]) (tLst (tCons (tLst (tNil)) (tNil)))) (gName 13))
    (tMid (tIfS (tAnd (tTest (tOp rGt (tVar 3) (tC (.int 9)))) (tB (tCall (sp_is_web K) [] E0 (tCons (tVar 13) (tNil))))) (tSeq (tAsg (tIf (tTest (tOp rGt (tOp (rIxL K) (tLst (tCons (tOp rAdd (tCB (rLen K) (tCons (tVar 1) (tNil))) (tCB (rLen K) (tCons (tVar 13) (tNil)))) (tCons (tOp rMul (tCB (rLen K) (tCons (tVar 1) (tNil))) (tCB (rLen K) (tCons (tVar 13) (tNil)))) (tNil)))) (tOp rSub (tVar 3) (tC (.int 10)))) (tC (.int 200)))) (tC (.str "many")) (tC (.str ""))) (gName 7))
    (tIfS (tTest (tOp rNe (tCall (sp__law_told K) [] E0 (tCons (tVar 3) (tCons (tVar 1) (tCons (tVar 13) (tCons (tVar 2) (tCons (tVar 2) (tCons (tC .non) (tNil)))))))) (tVar 7))) (tRet (tC (.bl false))) (tNext))) (tNext))
    (tRet (tOp (rEqD K) (tVar 8) (tLst (tCons (tVar 1) (tCons (tVar 2) (tNil)))))))
def t_lD (K : PySem.W.Frag) : TS :=
    tSeq (tIfS (tTest (tOp rNe (tCall (sp__law_told K) [] E0 (tCons (tVar 3) (tCons (tOp (rIxL K) (tVar 8) (tC (.int 0))) (tCons (tLst (tCons (tLst (tCons (tC (.int 0)) (tNil))) (tNil))) (tCons (tOp (rIxL K) (tVar 8) (tC (.int 1))) (tCons (tVar 2) (tCons (tVar 12) (tNil)))))))) (tOp (rIxL K) (tLst (tCons (tC (.str "")) (tCons (tC (.str "move")) (tNil)))) (tCB rInt1 (tCons (tOp rEq (tVar 3) (tC (.int 8))) (tNil)))))) (tRet (tC (.bl false))) (tNext))
    (t_lE K)
def t_lC (K : PySem.W.Frag) : TS :=
    tSeq (tAsg (tLst (tCons (tCall (sp__law_copied K) [] E0 (tCons (tVar 1) (tNil))) (tCons (tCB (rList K) (tCons (tVar 2) (tNil))) (tNil)))) (gName 8))
    (tSeq (tAsg (tLst (tCons (tC .non) (tCons (tTup (tCons (tC (.int 0)) (tNil))) (tCons (tTup (tCons (tUn (rU fun i => .int (-i)) (tC (.int 1))) (tCons (tC (.int 0)) (tNil)))) (tCons (tTup (tCons (tCB (rLen K) (tCons (tVar 2) (tNil))) (tCons (tC (.int 0)) (tNil)))) (tCons (tTup (tCons (tC (.int 0)) (tCons (tCB (rLen K) (tCons (tVar 1) (tNil))) (tNil)))) (tCons (tTup (tCons (tC (.int 0)) (tCons (tUn (rU fun i => .int (-i)) (tC (.int 1))) (tNil)))) (tCons (tLst (tCons (tC (.int 0)) (tCons (tC (.int 0)) (tNil)))) (tCons (tTup (tCons (tC (.bl true)) (tCons (tC (.int 0)) (tNil)))) (tCons (tTup (tCons (tC (.int 0)) (tCons (tC (.str "0")) (tNil)))) (tCons (tC (.int 5)) (tNil)))))))))))) (gName 9))
    (tSeq (tFor (iRng1 (tCons (tCB (rLen K) (tCons (tVar 2) (tNil))) (tNil))) (gName 10) (tFor (iList K (tSl (rSlL K) (tOp (rIxL K) (tVar 1) (tOp (rIxL K) (tVar 2) (tVar 10))) (tNoPart) (tPart (tC (.int 1))))) (gName 11) (tAsg (tOp rCat (tVar 9) (tLst (tCons (tLst (tCons (tVar 10) (tCons (tVar 11) (tNil)))) (tCons (tTup (tCons (tVar 10) (tCons (tVar 11) (tCons (tC (.int 0)) (tNil))))) (tCons (tTup (tCons (tVar 10) (tCons (tCB rBool1 (tCons (tVar 11) (tNil))) (tNil)))) (tCons (tTup (tCons (tCB rBool1 (tCons (tVar 10) (tNil))) (tCons (tVar 11) (tNil)))) (tNil))))))) (gName 9))))
    (tSeq (tAsg (tOp (rIxL K) (tVar 9) (tOp rMod (tCall (sp__law_cell_at K) [] E0 (tCons (tVar 0) (tCons (tC (.int 4)) (tNil)))) (tCB (rLen K) (tCons (tVar 9) (tNil))))) (gName 12))
    (t_lD K))))
def t_lB3 (K : PySem.W.Frag) : TS :=
    tSeq (tIfS (tAnd (tTest (tOp rEq (tVar 3) (tC (.int 9)))) (tTest (tOp rNe (tCall (sp__law_told K) [] E0 (tCons (tC (.int 9)) (tCons (tVar 1) (tCons (tVar 1) (tCons (tVar 2) (tCons (tVar 6) (tCons (tC .non) (tNil)))))))) (tC (.str "row"))))) (tRet (tC (.bl false))) (tNext))
    (t_lC K)
def t_lB2 (K : PySem.W.Frag) : TS :=
    tSeq (tAsg (tIf (tTest (tChain rLt rLt (tC (.int 3)) (tVar 3) (tC (.int 10)))) (tC (.str "row")) (tC (.str ""))) (gName 7))
    (tSeq (tIfS (tTest (tOp rNe (tCall (sp__law_told K) [] E0 (tCons (tVar 3) (tCons (tVar 1) (tCons (tLst (tCons (tLst (tNil)) (tNil))) (tCons (tVar 6) (tCons (tVar 2) (tCons (tC .non) (tNil)))))))) (tVar 7))) (tRet (tC (.bl false))) (tNext))
    (t_lB3 K))
def t_lB1 (K : PySem.W.Frag) : TS :=
    tSeq (tAsg (tIf (tTest (tChain rLt rLt (tC (.int 0)) (tVar 3) (tC (.int 10)))) (tC (.str "ring")) (tC (.str ""))) (gName 7))
    (tSeq (tIfS (tTest (tOp rNe (tCall (sp__law_told K) [] E0 (tCons (tVar 3) (tCons (tVar 5) (tCons (tLst (tCons (tLst (tCons (tC (.int 0)) (tNil))) (tNil))) (tCons (tVar 6) (tCons (tVar 6) (tCons (tC .non) (tNil)))))))) (tVar 7))) (tRet (tC (.bl false))) (tNext))
    (t_lB2 K))
def t_law (K : PySem.W.Frag) : TS :=
    tSeq (tAsg (tCall (sp__law_web_by K) [] E0 (tCons (tVar 0) (tCons (tC (.int 5)) (tNil)))) (gName 1))
    (tSeq (tAsg (tLc (iList K (tSl (rSlL K) (tVar 0) (tPart (tC (.int 9))) (tPart (tC (.int 12))))) (gName 14) (tYes) (tOp rMod (tVar 14) (tCB (rLen K) (tCons (tVar 1) (tNil)))) [14]) (gName 2))
    (tSeq (tAsg (tOp rMod (tCall (sp__law_cell_at K) [] E0 (tCons (tVar 0) (tCons (tC (.int 0)) (tNil)))) (tC (.int 12))) (gName 3))
    (tSeq (tAsg (tCall (sp__law_spoilt K) [] E0 (tCons (tVar 1) (tCons (tCall (sp__law_cell_at K) [] E0 (tCons (tVar 0) (tCons (tC (.int 1)) (tNil)))) (tNil)))) (gName 4))
    (tSeq (tAsg (tCall (sp__law_ringed K) [] E0 (tCons (tVar 1) (tCons (tCall (sp__law_cell_at K) [] E0 (tCons (tVar 0) (tCons (tC (.int 2)) (tNil)))) (tNil)))) (gName 5))
    (tSeq (tAsg (tCall (sp__law_bad_row K) [] E0 (tCons (tVar 2) (tCons (tCB (rLen K) (tCons (tVar 1) (tNil))) (tCons (tCall (sp__law_cell_at K) [] E0 (tCons (tVar 0) (tCons (tC (.int 3)) (tNil)))) (tNil))))) (gName 6))
    (tSeq (tIfS (tOr (tTest (tOp rNotB (tCall (sp_is_web K) [] E0 (tCons (tVar 1) (tNil))) (tC (.bl true)))) (tOr (tTest (tOp rNotB (tCall (sp_is_web K) [] E0 (tCons (tVar 5) (tNil))) (tC (.bl true)))) (tTest (tOp rNotB (tCall (sp_is_web K) [] E0 (tCons (tVar 4) (tNil))) (tC (.bl false)))))) (tRet (tC (.bl false))) (tNext))
    (tSeq (tIfS (tOr (tTest (tOp rNotB (tCall (sp_is_web K) [] E0 (tCons (tLc (iRng1 (tCons (tC (.int 200)) (tNil))) (gName 15) (tYes) (tLst (tNil)) [15]) (tNil))) (tC (.bl true)))) (tTest (tOp rNe (tCall (sp__law_told K) [] E0 (tCons (tVar 3) (tCons (tVar 4) (tCons (tVar 4) (tCons (tVar 6) (tCons (tVar 6) (tCons (tC .non) (tNil)))))))) (tC (.str "web"))))) (tRet (tC (.bl false))) (tNext))
    (tSeq (tIfS (tAnd (tTest (tOp rGt (tVar 3) (tC (.int 9)))) (tTest (tOp rNe (tCall (sp__law_told K) [] E0 (tCons (tVar 3) (tCons (tVar 1) (tCons (tVar 4) (tCons (tVar 2) (tCons (tVar 2) (tCons (tC .non) (tNil)))))))) (tC (.str "web"))))) (tRet (tC (.bl false))) (tNext))
    (t_lB1 K)))))))))
section
variable {K : PySem.W.Frag} {H : Hp} {Q : VK} {a wA rA p5 : Addr} {ns : List Int} {W W5 : List (List Nat)} {R : List Nat} {n : Nat} {x4 x6 : V}
theorem r_lE (k : ∀ H', Q (.bl true) H') (L : LawF K H a wA rA p5 ns W W5 R n x4 x6) {c1 c2 hA : Addr} (k1 : Web H c1 W) (k2 : H c2 = some (.lst (nvs R))) (hh : H hA = some (.lst [.ref c1, .ref c2])) (y7 y9 y10 y11 y12 y13 y14 y15 : Option V) : t_lE K { nx := fun _ H' => Q .non H', rt := Q } [some (.ref a), some (.ref wA), some (.ref rA), some (nv n), some x4, some (.ref p5), some x6, y7, some (.ref hA), y9, y10, y11, y12, y13, y14, y15] H := by
  have hn := L.hn
  have hl := L.W40
  have hpos := L.G.1.pos
  have fin : ∀ {H1 : Hp}, Same H H1 → ∀ (y7 y13 : Option V), tRet (tOp (rEqD K) (tVar 8) (tLst (tCons (tVar 1) (tCons (tVar 2) (tNil))))) { nx := fun _ H' => Q .non H', rt := Q } [some (.ref a), some (.ref wA), some (.ref rA), some (nv n), some x4, some (.ref p5), some x6, y7, some (.ref hA), y9, y10, y11, y12, y13, y14, y15] H1 := by
    intro H1 s y7 y13
    refine ⟨.ref hA, rfl, .ref wA, rfl, .ref rA, rfl, line_le (Nat.le_of_ble_eq_true rfl), fun x nx => ?_⟩
    have sx := s.new (o := .lst [V.ref wA, V.ref rA]) nx
    refine ⟨dWR W R, dWR W R, dp_dWR (sx _ _ hh) (k1.same sx) (sx _ _ k2), dp_dWR upd_same (L.w.same sx) (sx _ _ L.hr), sh_dWR W R, sh_dWR W R, ?_⟩
    rw [dWR_refl]
    exact k _
  obtain ⟨q, l⟩ := L.w
  refine ⟨nv n, rfl, (n : Int), 9, rfl, rfl, _, rfl, ite2 (fun c => ?_) (fun c => ?_)⟩
  rotate_left
  · refine ⟨Nat.zero_le _, fun q0 n0 => ⟨line_le (Nat.le_of_ble_eq_true rfl), fun pO nO => ?_⟩⟩
    refine ⟨fun σ' H' => ∃ (y7 y13 : Option V), σ' = [some (.ref a), some (.ref wA), some (.ref rA), some (nv n), some x4, some (.ref p5), some x6, y7, some (.ref hA), y9, y10, y11, y12, y13, y14, y15] ∧ Same H H', ?_, ?_⟩
    · exact ⟨nv n, rfl, (n : Int), 9, rfl, rfl, _, rfl, ite2 (fun z => absurd z c) (fun _ => iteF ⟨_, _, rfl, (same_new n0).new nO⟩)⟩
    · rintro σ' H' ⟨y7, y13, rfl, s⟩
      exact fin s y7 y13
  have c9 : 9 < n := by have := of_decide_eq_true c; omega
  have emx : (if ((refs W.length q).length : Int) > 1 then ((refs W.length q).length : Int) else 1) = (W.length : Int) := by
    rw [refs_len]
    by_cases h : (W.length : Int) > 1
    · rw [if_pos h]
    · rw [if_neg h]
      omega
  refine ⟨.ref wA, rfl, wA, _, rfl, .inl (.of l.top), 1, _, rfl, 201, _, rfl, rfl, by rw [emx]; exact ⟨by omega, by omega⟩, line_le (Nat.le_of_ble_eq_true rfl), fun pL nL => ?_⟩
  dsimp only
  rw [emx]
  obtain ⟨wn, hwn, hat⟩ : ∃ wn : Nat, ((n = 10 ∧ wn = 199) ∨ (n = 11 ∧ wn = 201 / W.length)) ∧ atI [V.int 199, V.int (201 / (W.length : Int))] ((n : Int) - 10) = some (nv wn) := by
    by_cases h10 : n = 10
    · subst h10
      exact ⟨199, .inl ⟨rfl, rfl⟩, atI_nat (xs := [V.int 199, V.int (201 / (W.length : Int))]) (j := 0) rfl⟩
    · have h11 : n = 11 := by omega
      subst h11
      exact ⟨201 / W.length, .inr ⟨rfl, rfl⟩, atI_nat (xs := [V.int 199, V.int (201 / (W.length : Int))]) (j := 1) rfl⟩
  have hw201 : wn ≤ 201 := by
    rcases hwn with ⟨_, e⟩ | ⟨_, e⟩
    · omega
    · rw [e]
      exact Nat.div_le_self _ _
  have s1 : Same H (upd H pL (.lst [V.int 199, V.int (201 / (W.length : Int))])) := same_new nL
  have hL : (upd H pL (.lst [V.int 199, V.int (201 / (W.length : Int))])) pL = some (.lst [V.int 199, V.int (201 / (W.length : Int))]) := upd_same
  generalize upd H pL (.lst [V.int 199, V.int (201 / (W.length : Int))]) = H1 at s1 hL
  refine ⟨nv n, rfl, (n : Int), 10, rfl, rfl, pL, _, _, nv wn, rfl, rfl, .of hL, hat, (wn : Int), rfl, by omega, by omega, ?_⟩
  rw [Int.toNat_natCast]
  refine lcRN (n := wn) (fun _ => nvs []) (by omega) (fun j hj H2 Qy s2 hy => ⟨Nat.zero_le _, fun p np => hy p _ np (same_new np) upd_same⟩) (fun D H2 s2 hD => ?_)
  obtain ⟨dq, OD⟩ := hD.own
  have wD := (webN_own (f := fun _ => []) OD).web
  have s12 := s1.trans s2
  have dl : ((List.range wn).map fun _ => ([] : List Nat)).length = wn := by rw [List.length_map, List.length_range]
  refine ⟨fun σ' H' => ∃ (y7 y13 : Option V), σ' = [some (.ref a), some (.ref wA), some (.ref rA), some (nv n), some x4, some (.ref p5), some x6, y7, some (.ref hA), y9, y10, y11, y12, y13, y14, y15] ∧ Same H H', ?_, ?_⟩
  rotate_left
  · rintro σ' H' ⟨y7, y13, rfl, s⟩
    exact fin s y7 y13
  refine ⟨nv n, rfl, (n : Int), 9, rfl, rfl, _, rfl, ite2 (fun _ => ?_) (fun z => absurd c z)⟩
  refine ⟨.ref D, rfl, .ref D, dW _, rfl, web_at wD (by rw [dl]; omega) (fun s => ?_), fun H3 s3 => ⟨webOk (dW ((List.range wn).map fun _ => [])), rfl, ite2 (fun cw => ?_) (fun _ => ⟨_, _, rfl, s12.trans s3⟩)⟩⟩
  · by_cases hs : s < wn
    · rw [row_map hs]; exact Nat.zero_le _
    · rw [row_nil (by rw [dl]; omega)]; exact Nat.zero_le _
  have hb : 1 ≤ wn ∧ wn ≤ 200 := by
    have cw2 : webOk (some (((List.range wn).map fun _ => ([] : List Nat)).map dRow)) = true := cw
    rw [webOk_some, List.length_map, dl, Bool.and_eq_true, Bool.and_eq_true, decide_eq_true_iff, decide_eq_true_iff] at cw2
    exact cw2.1
  have FD := form_empty hb.1 hb.2
  have s03 := s12.trans s3
  have L3 := L.same s03
  have wD3 := wD.same s3
  have key : ∀ {H4 : Hp} (w : Str), Same H H4 → Same H3 H4 → (∃ o, Ask H4 n (.ref wA) (.ref D) (.ref rA) (.ref rA) .non o ∧ toldS o = w) → (tIfS (tTest (tOp rNe (tCall (sp__law_told K) [] E0 (tCons (tVar 3) (tCons (tVar 1) (tCons (tVar 13) (tCons (tVar 2) (tCons (tVar 2) (tCons (tC .non) (tNil)))))))) (tVar 7))) (tRet (tC (.bl false))) (tNext)) { nx := fun σ' H' => ∃ (y7 y13 : Option V), σ' = [some (.ref a), some (.ref wA), some (.ref rA), some (nv n), some x4, some (.ref p5), some x6, y7, some (.ref hA), y9, y10, y11, y12, y13, y14, y15] ∧ Same H H', rt := Q } [some (.ref a), some (.ref wA), some (.ref rA), some (nv n), some x4, some (.ref p5), some x6, some (.str w), some (.ref hA), y9, y10, y11, y12, some (.ref D), y14, y15] H4 := by
    intro H4 w s04 s34 ho
    obtain ⟨o, ho, et⟩ := ho
    exact ⟨nv n, rfl, .ref wA, rfl, .ref D, rfl, .ref rA, rfl, .ref rA, rfl, n, .ref wA, .ref D, .ref rA, .ref rA, .non, o, rfl, ho, fun H5 s5 => ⟨_, rfl, rfl, false, notT (decide_eq_true (congrArg V.str et)), iteF ⟨_, _, rfl, s04.trans s5⟩⟩⟩
  obtain ⟨q3, l3⟩ := L3.w
  obtain ⟨d3, m3⟩ := wD3
  have m3t := m3.top
  rw [dl] at m3t
  refine ⟨.ref wA, rfl, wA, _, rfl, .inl (.of l3.top), .ref D, rfl, D, _, rfl, .inl (.of m3t), _, _, rfl, rfl, .ref wA, rfl, wA, _, rfl, .inl (.of l3.top), .ref D, rfl, D, _, rfl, .inl (.of m3t), _, _, rfl, rfl, cmul_small (by omega) (by rw [refs_len]; omega) (by omega) (by rw [refs_len]; omega), line_le (Nat.le_of_ble_eq_true rfl), fun pM nM => ?_⟩
  dsimp only
  rw [refs_len, refs_len]
  have s4 : Same H3 (upd H3 pM (.lst [V.int ((W.length : Int) + (wn : Int)), V.int ((W.length : Int) * (wn : Int))])) := same_new nM
  have hM : (upd H3 pM (.lst [V.int ((W.length : Int) + (wn : Int)), V.int ((W.length : Int) * (wn : Int))])) pM = some (.lst [V.int ((W.length : Int) + (wn : Int)), V.int ((W.length : Int) * (wn : Int))]) := upd_same
  generalize upd H3 pM (.lst [V.int ((W.length : Int) + (wn : Int)), V.int ((W.length : Int) * (wn : Int))]) = H4 at s4 hM
  have s04 := s03.trans s4
  have L4 := L.same s04
  have wD4 : Web H4 D ((List.range wn).map fun _ => []) := ⟨d3, m3.same s4⟩
  obtain ⟨sz, hsz, hat2⟩ : ∃ sz : Nat, ((n = 10 ∧ sz = W.length + wn) ∨ (n = 11 ∧ sz = W.length * wn)) ∧ atI [V.int ((W.length : Int) + (wn : Int)), V.int ((W.length : Int) * (wn : Int))] ((n : Int) - 10) = some (V.int (sz : Int)) := by
    rcases hwn with ⟨h, _⟩ | ⟨h, _⟩
    · subst h
      exact ⟨W.length + wn, .inl ⟨rfl, rfl⟩, atI_nat (xs := [V.int ((W.length : Int) + (wn : Int)), V.int ((W.length : Int) * (wn : Int))]) (j := 0) rfl⟩
    · subst h
      exact ⟨W.length * wn, .inr ⟨rfl, rfl⟩, atI_nat (xs := [V.int ((W.length : Int) + (wn : Int)), V.int ((W.length : Int) * (wn : Int))]) (j := 1) rfl⟩
  refine ⟨nv n, rfl, (n : Int), 10, rfl, rfl, pM, _, _, V.int (sz : Int), rfl, rfl, .of hM, hat2, (sz : Int), 200, rfl, rfl, _, rfl, ite2 (fun cs => ?_) (fun cs => ?_)⟩
  · have cs2 : 200 < sz := by have := of_decide_eq_true cs; omega
    refine key "many" s04 s4 ⟨_, .many ?_ L4.w L.G.1 wD4 FD, tT⟩
    rw [dl]
    rcases hsz with ⟨h, e⟩ | ⟨h, e⟩
    · exact .inl ⟨h, by omega⟩
    · exact .inr ⟨h, by omega⟩
  · have cs2 : sz ≤ 200 := Nat.le_of_not_lt fun z => cs (decide_eq_true (by omega))
    refine key "" s04 s4 ⟨_, .two ?_ L4.w L.G.1 wD4 FD, rfl⟩
    rw [dl]
    rcases hsz with ⟨h, e⟩ | ⟨h, e⟩
    · exact .inl ⟨h, by omega⟩
    · exact .inr ⟨h, by omega⟩
theorem r_lD (k : ∀ H', Q (.bl true) H') (L : LawF K H a wA rA p5 ns W W5 R n x4 x6) {c1 c2 hA : Addr} (k1 : Web H c1 W) (k2 : H c2 = some (.lst (nvs R))) (hh : H hA = some (.lst [.ref c1, .ref c2])) (y7 y9 y10 y11 y13 y14 y15 : Option V) (mv : V) (hm : OddM H R.length W.length mv) : t_lD K { nx := fun _ H' => Q .non H', rt := Q } [some (.ref a), some (.ref wA), some (.ref rA), some (nv n), some x4, some (.ref p5), some x6, y7, some (.ref hA), y9, y10, y11, some mv, y13, y14, y15] H := by
  have hn := L.hn
  have hl := L.W40
  refine ⟨nv n, rfl, .ref hA, rfl, hA, _, 0, .ref c1, rfl, rfl, .of hh, rfl, line_le (Nat.le_of_ble_eq_true rfl), fun q0 n0 => ⟨line_le (Nat.le_of_ble_eq_true rfl), fun pO nO => ?_⟩⟩
  have s1 : Same H (upd (upd H q0 (.lst [.int 0])) pO (.lst [.ref q0])) := (same_new n0).new nO
  have hq : (upd (upd H q0 (.lst [.int 0])) pO (.lst [.ref q0])) q0 = some (.lst (nvs [0])) := same_new nO _ _ upd_same
  have hp : (upd (upd H q0 (.lst [.int 0])) pO (.lst [.ref q0])) pO = some (.lst [.ref q0]) := upd_same
  generalize upd (upd H q0 (.lst [.int 0])) pO (.lst [.ref q0]) = H1 at s1 hq hp
  have wO := web_one hp hq
  have L1 := L.same s1
  have k1' := k1.same s1
  have k2' := s1 _ _ k2
  have hh' := s1 _ _ hh
  have hm' := hm.same s1
  have ask : ∃ o, Ask H1 n (.ref c1) (.ref pO) (.ref c2) (.ref rA) mv o ∧ toldS o = mvS n := by
    unfold mvS
    by_cases h8 : n = 8
    · exact ⟨_, .move h8 k1' L.G k2' L.ok hm', by rw [if_pos h8]; exact tM⟩
    · rw [if_neg h8]
      by_cases h0 : n = 0
      · exact ⟨_, .ok0 h0 k1' L.G.1, rfl⟩
      by_cases h3 : n ≤ 3
      · exact ⟨_, .ok1 (by omega) h3 k1' L.G, rfl⟩
      by_cases h7 : n ≤ 7
      · exact ⟨_, .ok4 (by omega) h7 k1' L.G k2' L.ok, rfl⟩
      by_cases h9 : n = 9
      · exact ⟨_, .ok9 h9 k1' L.G k2' L.ok L1.hr L.ok, rfl⟩
      by_cases h10 : n = 10
      · exact ⟨_, .two (.inl ⟨h10, by show W.length + 1 ≤ 200; omega⟩) k1' L.G.1 wO form_0, rfl⟩
      · exact ⟨_, .two (.inr ⟨by omega, by show W.length * 1 ≤ 200; omega⟩) k1' L.G.1 wO form_0, rfl⟩
  obtain ⟨o, ho, et⟩ := ask
  refine ⟨.ref hA, rfl, hA, _, 1, .ref c2, rfl, rfl, .of hh', rfl, .ref rA, rfl, mv, rfl, n, .ref c1, .ref pO, .ref c2, .ref rA, mv, o, rfl, ho, fun H2 s2 => ?_⟩
  refine ⟨line_le (Nat.le_of_ble_eq_true rfl), fun pS nS => ⟨nv n, rfl, rfl, .inr ⟨decide (n = 8), congrArg (fun z => [V.bl z]) (dec_nv n 8), pS, _, _, .str (mvS n), rfl, rfl, .of upd_same, ?_, ?_⟩⟩⟩
  · unfold mvS
    by_cases h8 : n = 8
    · rw [decide_eq_true h8, if_pos h8]
      exact atI_nat (xs := [V.str "", V.str "move"]) (j := 1) rfl
    · rw [decide_eq_false h8, if_neg h8]
      exact atI_nat (xs := [V.str "", V.str "move"]) (j := 0) rfl
  · rw [et]
    have s3 := (s1.trans s2).new (o := .lst [.str "", .str "move"]) nS
    exact ⟨rfl, false, notT (decide_eq_true rfl), iteF (r_lE k (L.same s3) (k1.same s3) (s3 _ _ k2) (s3 _ _ hh) _ _ _ _ _ _ _ _)⟩
theorem r_lC (k : ∀ H', Q (.bl true) H') (L : LawF K H a wA rA p5 ns W W5 R n x4 x6) (y7 y14 y15 : Option V) : t_lC K { nx := fun _ H' => Q .non H', rt := Q } [some (.ref a), some (.ref wA), some (.ref rA), some (nv n), some x4, some (.ref p5), some x6, y7, none, none, none, none, none, none, y14, y15] H := by
  have hl := L.W40
  have hle := L.R3
  -- handed
  refine ⟨.ref wA, rfl, wA, W, rfl, L.w, by omega, fun c1 H4 s4 n4 => ⟨.ref rA, rfl, rA, _, rfl, .inl (.of (s4 _ _ L.hr)), fun c2 nc2 => ⟨line_le (Nat.le_of_ble_eq_true rfl), fun hA nh => ?_⟩⟩⟩
  have k1 := (n4.web.same (same_new (o := .lst (nvs R)) nc2)).same (same_new (o := .lst [.ref c1, .ref c2]) nh)
  have k2 : (upd (upd H4 c2 (.lst (nvs R))) hA (.lst [.ref c1, .ref c2])) c2 = some (.lst (nvs R)) := same_new nh _ _ upd_same
  have hh : (upd (upd H4 c2 (.lst (nvs R))) hA (.lst [.ref c1, .ref c2])) hA = some (.lst [.ref c1, .ref c2]) := upd_same
  have s5 := (s4.new (o := .lst (nvs R)) nc2).new (o := .lst [.ref c1, .ref c2]) nh
  generalize upd (upd H4 c2 (.lst (nvs R))) hA (.lst [.ref c1, .ref c2]) = H5 at k1 k2 hh s5
  have L := L.same s5
  clear n4 s4 s5 nc2 nh
  -- odd
  obtain ⟨q, l⟩ := L.w
  have S : Same H5 H5 := Same.refl _
  refine ⟨line_le (Nat.le_of_ble_eq_true rfl), fun t1 m1 => ?_⟩
  have S := S.new (o := .tup [.int 0]) m1
  have h1 : (upd H5 t1 (.tup [.int 0])) t1 = some (.tup [.int 0]) := upd_same
  generalize upd H5 t1 (.tup [.int 0]) = G1 at S h1
  refine ⟨1, rfl, line_le (Nat.le_of_ble_eq_true rfl), fun t2 m2 => ?_⟩
  have S := S.new (o := .tup [.int (-1), .int 0]) m2
  have h1 := same_new (o := .tup [.int (-1), .int 0]) m2 _ _ h1
  have h2 : (upd G1 t2 (.tup [.int (-1), .int 0])) t2 = some (.tup [.int (-1), .int 0]) := upd_same
  generalize upd G1 t2 (.tup [.int (-1), .int 0]) = G2 at S h1 h2
  refine ⟨.ref rA, rfl, rA, _, rfl, .inl (.of (S _ _ L.hr)), line_le (Nat.le_of_ble_eq_true rfl), fun t3 m3 => ?_⟩
  have S := S.new (o := .tup [.int ((nvs R).length : Int), .int 0]) m3
  have h1 := same_new (o := .tup [.int ((nvs R).length : Int), .int 0]) m3 _ _ h1
  have h2 := same_new (o := .tup [.int ((nvs R).length : Int), .int 0]) m3 _ _ h2
  have h3 : (upd G2 t3 (.tup [.int ((nvs R).length : Int), .int 0])) t3 = some (.tup [.int ((nvs R).length : Int), .int 0]) := upd_same
  generalize upd G2 t3 (.tup [.int ((nvs R).length : Int), .int 0]) = G3 at S h1 h2 h3
  refine ⟨.ref wA, rfl, wA, _, rfl, .inl (.of (S _ _ l.top)), line_le (Nat.le_of_ble_eq_true rfl), fun t4 m4 => ?_⟩
  have S := S.new (o := .tup [.int 0, .int ((refs W.length q).length : Int)]) m4
  have h1 := same_new (o := .tup [.int 0, .int ((refs W.length q).length : Int)]) m4 _ _ h1
  have h2 := same_new (o := .tup [.int 0, .int ((refs W.length q).length : Int)]) m4 _ _ h2
  have h3 := same_new (o := .tup [.int 0, .int ((refs W.length q).length : Int)]) m4 _ _ h3
  have h4 : (upd G3 t4 (.tup [.int 0, .int ((refs W.length q).length : Int)])) t4 = some (.tup [.int 0, .int ((refs W.length q).length : Int)]) := upd_same
  generalize upd G3 t4 (.tup [.int 0, .int ((refs W.length q).length : Int)]) = G4 at S h1 h2 h3 h4
  refine ⟨1, rfl, line_le (Nat.le_of_ble_eq_true rfl), fun t5 m5 => ?_⟩
  have S := S.new (o := .tup [.int 0, .int (-1)]) m5
  have h1 := same_new (o := .tup [.int 0, .int (-1)]) m5 _ _ h1
  have h2 := same_new (o := .tup [.int 0, .int (-1)]) m5 _ _ h2
  have h3 := same_new (o := .tup [.int 0, .int (-1)]) m5 _ _ h3
  have h4 := same_new (o := .tup [.int 0, .int (-1)]) m5 _ _ h4
  have h5 : (upd G4 t5 (.tup [.int 0, .int (-1)])) t5 = some (.tup [.int 0, .int (-1)]) := upd_same
  generalize upd G4 t5 (.tup [.int 0, .int (-1)]) = G5 at S h1 h2 h3 h4 h5
  refine ⟨line_le (Nat.le_of_ble_eq_true rfl), fun t6 m6 => ?_⟩
  have S := S.new (o := .lst [.int 0, .int 0]) m6
  have h1 := same_new (o := .lst [.int 0, .int 0]) m6 _ _ h1
  have h2 := same_new (o := .lst [.int 0, .int 0]) m6 _ _ h2
  have h3 := same_new (o := .lst [.int 0, .int 0]) m6 _ _ h3
  have h4 := same_new (o := .lst [.int 0, .int 0]) m6 _ _ h4
  have h5 := same_new (o := .lst [.int 0, .int 0]) m6 _ _ h5
  have h6 : (upd G5 t6 (.lst [.int 0, .int 0])) t6 = some (.lst [.int 0, .int 0]) := upd_same
  generalize upd G5 t6 (.lst [.int 0, .int 0]) = G6 at S h1 h2 h3 h4 h5 h6
  refine ⟨line_le (Nat.le_of_ble_eq_true rfl), fun t7 m7 => ?_⟩
  have S := S.new (o := .tup [.bl true, .int 0]) m7
  have h1 := same_new (o := .tup [.bl true, .int 0]) m7 _ _ h1
  have h2 := same_new (o := .tup [.bl true, .int 0]) m7 _ _ h2
  have h3 := same_new (o := .tup [.bl true, .int 0]) m7 _ _ h3
  have h4 := same_new (o := .tup [.bl true, .int 0]) m7 _ _ h4
  have h5 := same_new (o := .tup [.bl true, .int 0]) m7 _ _ h5
  have h6 := same_new (o := .tup [.bl true, .int 0]) m7 _ _ h6
  have h7 : (upd G6 t7 (.tup [.bl true, .int 0])) t7 = some (.tup [.bl true, .int 0]) := upd_same
  generalize upd G6 t7 (.tup [.bl true, .int 0]) = G7 at S h1 h2 h3 h4 h5 h6 h7
  refine ⟨line_le (Nat.le_of_ble_eq_true rfl), fun t8 m8 => ?_⟩
  have S := S.new (o := .tup [.int 0, .str "0"]) m8
  have h1 := same_new (o := .tup [.int 0, .str "0"]) m8 _ _ h1
  have h2 := same_new (o := .tup [.int 0, .str "0"]) m8 _ _ h2
  have h3 := same_new (o := .tup [.int 0, .str "0"]) m8 _ _ h3
  have h4 := same_new (o := .tup [.int 0, .str "0"]) m8 _ _ h4
  have h5 := same_new (o := .tup [.int 0, .str "0"]) m8 _ _ h5
  have h6 := same_new (o := .tup [.int 0, .str "0"]) m8 _ _ h6
  have h7 := same_new (o := .tup [.int 0, .str "0"]) m8 _ _ h7
  have h8 : (upd G7 t8 (.tup [.int 0, .str "0"])) t8 = some (.tup [.int 0, .str "0"]) := upd_same
  generalize upd G7 t8 (.tup [.int 0, .str "0"]) = G8 at S h1 h2 h3 h4 h5 h6 h7 h8
  refine ⟨line_le (Nat.le_of_ble_eq_true rfl), fun o0 mo => ?_⟩
  have hOdd : ∀ x ∈ ([.non, .ref t1, .ref t2, .ref t3, .ref t4, .ref t5, .ref t6, .ref t7, .ref t8, .int 5] : List V), OddM G8 R.length W.length x := by
    intro x hx
    rcases List.mem_cons.mp hx with e | hx
    · subst e
      exact .non
    rcases List.mem_cons.mp hx with e | hx
    · subst e
      exact .len h1 (by decide)
    rcases List.mem_cons.mp hx with e | hx
    · subst e
      exact .two h2 (.int _) (.int _) (by rw [numOk_some, decide_eq_false (show ¬ (0 : Int) ≤ -1 by omega), Bool.false_and, Bool.false_and])
    rcases List.mem_cons.mp hx with e | hx
    · subst e
      exact .two h3 (.int _) (.int _) (by rw [numOk_some, nvs_length, decide_eq_false (show ¬ ((R.length : Nat) : Int) ≤ (R.length : Int) - 1 by omega), Bool.and_false, Bool.false_and])
    rcases List.mem_cons.mp hx with e | hx
    · subst e
      exact .two h4 (.int _) (.int _) (by rw [numOk_some (((W.length : Nat) : Int) - 1), refs_len, decide_eq_false (show ¬ ((W.length : Nat) : Int) ≤ (W.length : Int) - 1 by omega), Bool.and_false, Bool.and_false])
    rcases List.mem_cons.mp hx with e | hx
    · subst e
      exact .two h5 (.int _) (.int _) (by rw [numOk_some (((W.length : Nat) : Int) - 1), decide_eq_false (show ¬ (0 : Int) ≤ -1 by omega), Bool.false_and, Bool.and_false])
    rcases List.mem_cons.mp hx with e | hx
    · subst e
      exact .lst h6
    rcases List.mem_cons.mp hx with e | hx
    · subst e
      exact .two h7 (.bl _) (.int _) rfl
    rcases List.mem_cons.mp hx with e | hx
    · subst e
      exact .two h8 (.int _) (.str _) (Bool.and_false _)
    rcases List.mem_cons.mp hx with e | hx
    · subst e
      exact .int 5
    cases hx
  have hxs : (upd G8 o0 (.lst [.non, .ref t1, .ref t2, .ref t3, .ref t4, .ref t5, .ref t6, .ref t7, .ref t8, .int 5])) o0 = some (.lst [.non, .ref t1, .ref t2, .ref t3, .ref t4, .ref t5, .ref t6, .ref t7, .ref t8, .int 5]) := upd_same
  have hOdd : ∀ x ∈ ([.non, .ref t1, .ref t2, .ref t3, .ref t4, .ref t5, .ref t6, .ref t7, .ref t8, .int 5] : List V), OddM (upd G8 o0 (.lst [.non, .ref t1, .ref t2, .ref t3, .ref t4, .ref t5, .ref t6, .ref t7, .ref t8, .int 5])) R.length W.length x := fun x hx => (hOdd x hx).same (same_new mo)
  have S := S.new (o := .lst [.non, .ref t1, .ref t2, .ref t3, .ref t4, .ref t5, .ref t6, .ref t7, .ref t8, .int 5]) mo
  have hlen : ([.non, .ref t1, .ref t2, .ref t3, .ref t4, .ref t5, .ref t6, .ref t7, .ref t8, .int 5] : List V).length ≤ 10 + 4 * 0 := Nat.le_refl _
  have hne : ([.non, .ref t1, .ref t2, .ref t3, .ref t4, .ref t5, .ref t6, .ref t7, .ref t8, .int 5] : List V) ≠ [] := fun z => nomatch z
  generalize upd G8 o0 (.lst [.non, .ref t1, .ref t2, .ref t3, .ref t4, .ref t5, .ref t6, .ref t7, .ref t8, .int 5]) = G9 at hxs hOdd S
  generalize ([.non, .ref t1, .ref t2, .ref t3, .ref t4, .ref t5, .ref t6, .ref t7, .ref t8, .int 5] : List V) = xs0 at hxs hOdd hlen hne
  clear h1 h2 h3 h4 h5 h6 h7 h8
  -- each place
  refine ⟨.ref rA, rfl, rA, _, rfl, .inl (.of (S _ _ L.hr)), _, rfl, by omega, by rw [nvs_length]; omega, ?_⟩
  rw [nvs_length, Int.toNat_natCast]
  refine for_range (fun i σ Hk => ∃ (oA : Addr) (xs : List V) (y10 y11 : Option V), σ = [some (.ref a), some (.ref wA), some (.ref rA), some (nv n), some x4, some (.ref p5), some x6, y7, some (.ref hA), some (.ref oA), y10, y11, none, none, y14, y15] ∧ Same H5 Hk ∧ Hk oA = some (.lst xs) ∧ (∀ x ∈ xs, OddM Hk R.length W.length x) ∧ xs ≠ [] ∧ xs.length ≤ 10 + 4 * i)
    ⟨o0, xs0, none, none, rfl, S, hxs, hOdd, hne, hlen⟩ (fun i σ Hk hi hP => ?_) (fun σ Hk hP => ?_)
  · clear hxs hOdd hne hlen S
    obtain ⟨oA, xs, y10, y11, rfl, S, hxs, hOdd, hne, hlen⟩ := hP
    rw [Int.zero_add]
    have hs : R[i]? = some (R.getD i 0) := by rw [List.getD_eq_getElem?_getD, List.getElem?_eq_getElem hi]; rfl
    have hsW := L.ok.lt _ (List.mem_of_getElem? hs)
    have lk := l.same S
    have hrow := lk.at_ _ hsW
    refine ⟨.ref wA, rfl, .ref rA, rfl, nv i, rfl, rA, _, (i : Int), nv (R.getD i 0), rfl, rfl, .of (S _ _ L.hr), nvs_at hs, wA, _, (R.getD i 0 : Int), _, rfl, rfl, .of lk.top, refs_at hsW, 1, rfl, q (R.getD i 0), _, rfl, .of hrow, fun pS nS => ?_⟩
    have e1 : cutV (wrow W (R.getD i 0)) none (some 1) = nvs ((row W (R.getD i 0)).take 1) := cut_to nv _ 1
    rw [e1]
    have tl : ((row W (R.getD i 0)).take 1).length ≤ 1 := by rw [List.length_take]; omega
    generalize (row W (R.getD i 0)).take 1 = L1 at tl
    have S1 := S.new (o := .lst (nvs L1)) nS
    have hpS : (upd Hk pS (.lst (nvs L1))) pS = some (.lst (nvs L1)) := upd_same
    have hxs := same_new (o := .lst (nvs L1)) nS _ _ hxs
    have hOdd : ∀ x ∈ xs, OddM (upd Hk pS (.lst (nvs L1))) R.length W.length x := fun x hx => (hOdd x hx).same (same_new nS)
    generalize upd Hk pS (.lst (nvs L1)) = Hk1 at S1 hpS hxs hOdd
    refine ⟨pS, rfl, ⟨_, .of hpS⟩, for_list (xs := nvs L1) (fun j σ Hm => ∃ (oA : Addr) (xs : List V) (y11 : Option V), σ = [some (.ref a), some (.ref wA), some (.ref rA), some (nv n), some x4, some (.ref p5), some x6, y7, some (.ref hA), some (.ref oA), some (nv i), y11, none, none, y14, y15] ∧ Same H5 Hm ∧ Hm pS = some (.lst (nvs L1)) ∧ Hm oA = some (.lst xs) ∧ (∀ x ∈ xs, OddM Hm R.length W.length x) ∧ xs ≠ [] ∧ xs.length ≤ 10 + 4 * i + 4 * j)
      ⟨oA, xs, y11, rfl, S1, hpS, hxs, hOdd, hne, hlen⟩ (fun j σ Hm _ hP => ?_) (fun j x σ Hm hx hP => ?_) (fun σ Hm hP => ?_)⟩
    · obtain ⟨_, _, _, _, _, h, _⟩ := hP
      exact .of h
    · clear hxs hOdd hne hlen S1 hpS
      obtain ⟨oA, xs, y11, rfl, S1, hpS, hxs, hOdd, hne, hlen⟩ := hP
      obtain ⟨z, hz, rfl⟩ := nvs_item hx
      have hj := (List.getElem?_eq_some_iff.mp hz).1
      refine ⟨.ref oA, rfl, nv i, rfl, nv z, rfl, line_le (Nat.le_of_ble_eq_true rfl), fun u1 m1 => ⟨nv i, rfl, nv z, rfl, line_le (Nat.le_of_ble_eq_true rfl), fun u2 m2 => ⟨nv i, rfl, nv z, rfl, .inl ⟨(z : Int), rfl, line_le (Nat.le_of_ble_eq_true rfl), fun u3 m3 => ⟨nv i, rfl, .inl ⟨(i : Int), rfl, nv z, rfl, line_le (Nat.le_of_ble_eq_true rfl), fun u4 m4 => ⟨line_le (Nat.le_of_ble_eq_true rfl), fun u5 m5 => ?_⟩⟩⟩⟩⟩⟩⟩
      have g1 := same_new (o := .lst [nv i, nv z]) m1
      have f1 : (upd Hm u1 (.lst [nv i, nv z])) u1 = some (.lst [nv i, nv z]) := upd_same
      generalize upd Hm u1 (.lst [nv i, nv z]) = K1 at m2 m3 m4 m5 g1 f1 ⊢
      have g2 := same_new (o := .tup [nv i, nv z, .int 0]) m2
      have f2 : (upd K1 u2 (.tup [nv i, nv z, .int 0])) u2 = some (.tup [nv i, nv z, .int 0]) := upd_same
      generalize upd K1 u2 (.tup [nv i, nv z, .int 0]) = K2 at m3 m4 m5 g2 f2 ⊢
      have g3 := same_new (o := .tup [nv i, .bl ((z : Int) != 0)]) m3
      have f3 : (upd K2 u3 (.tup [nv i, .bl ((z : Int) != 0)])) u3 = some (.tup [nv i, .bl ((z : Int) != 0)]) := upd_same
      generalize upd K2 u3 (.tup [nv i, .bl ((z : Int) != 0)]) = K3 at m4 m5 g3 f3 ⊢
      have g4 := same_new (o := .tup [.bl ((i : Int) != 0), nv z]) m4
      have f4 : (upd K3 u4 (.tup [.bl ((i : Int) != 0), nv z])) u4 = some (.tup [.bl ((i : Int) != 0), nv z]) := upd_same
      generalize upd K3 u4 (.tup [.bl ((i : Int) != 0), nv z]) = K4 at m5 g4 f4 ⊢
      have g5 := same_new (o := .lst [.ref u1, .ref u2, .ref u3, .ref u4]) m5
      have f5 : (upd K4 u5 (.lst [.ref u1, .ref u2, .ref u3, .ref u4])) u5 = some (.lst [.ref u1, .ref u2, .ref u3, .ref u4]) := upd_same
      generalize upd K4 u5 (.lst [.ref u1, .ref u2, .ref u3, .ref u4]) = K5 at g5 f5 ⊢
      have g15 := (((g1.trans g2).trans g3).trans g4).trans g5
      refine ⟨oA, u5, _, _, rfl, rfl, g15 _ _ hxs, f5, line_le (by show _ + 4 ≤ _; have := L.R3; omega), fun u6 m6 => ?_⟩
      have g6 := same_new (o := .lst (xs ++ [.ref u1, .ref u2, .ref u3, .ref u4])) m6
      refine ⟨u6, xs ++ [.ref u1, .ref u2, .ref u3, .ref u4], _, rfl, (S1.trans g15).trans g6, (g15.trans g6) _ _ hpS, upd_same, fun x hx => ?_, fun z => by simp at z, by rw [List.length_append]; show _ + 4 ≤ _; omega⟩
      rcases List.mem_append.mp hx with hx | hx
      · exact (hOdd x hx).same (g15.trans g6)
      rcases List.mem_cons.mp hx with e | hx
      · subst e
        exact OddM.lst ((((g2.trans g3).trans g4).trans g5).trans g6 _ _ f1)
      rcases List.mem_cons.mp hx with e | hx
      · subst e
        exact OddM.len ((((g3.trans g4).trans g5).trans g6) _ _ f2) (show (3 : Nat) ≠ 2 by decide)
      rcases List.mem_cons.mp hx with e | hx
      · subst e
        exact OddM.two (((g4.trans g5).trans g6) _ _ f3) (.int _) (.bl _) (Bool.and_false _)
      rcases List.mem_cons.mp hx with e | hx
      · subst e
        exact OddM.two ((g5.trans g6) _ _ f4) (.bl _) (.int _) rfl
      cases hx
    · obtain ⟨oA, xs, y11, rfl, S1, _, hxs, hOdd, hne, hlen⟩ := hP
      rw [nvs_length] at hlen
      exact ⟨oA, xs, _, _, rfl, S1, hxs, hOdd, hne, by omega⟩
  · clear hxs hOdd hne hlen S
    obtain ⟨oA, xs, y10, y11, rfl, S, hxs, hOdd, hne, hlen⟩ := hP
    have hxp : 0 < xs.length := List.length_pos_iff.mpr hne
    have L := L.same S
    refine ⟨.ref oA, rfl, .ref a, rfl, a, ns, 4, rfl, L.sc, by decide, fun c => ?_⟩
    obtain ⟨j, hj, ej⟩ := mod_pick c hxp
    obtain ⟨mv, hmv⟩ : ∃ mv, xs[j]? = some mv := ⟨_, List.getElem?_eq_getElem hj⟩
    have hat : atI xs (c % (xs.length : Int)) = some mv := by rw [ej]; exact atI_nat hmv
    exact ⟨.ref oA, rfl, oA, _, rfl, .inl (.of hxs), c, _, rfl, rfl, by omega, oA, _, _, mv, rfl, rfl, .of hxs, hat, r_lD k L (k1.same S) (S _ _ k2) (S _ _ hh) _ _ _ _ _ _ _ mv (hOdd mv (List.mem_of_getElem? hmv))⟩
theorem r_lB3 (k : ∀ H', Q (.bl true) H') (L : LawF K H a wA rA p5 ns W W5 R n x4 x6) (y7 y14 y15 : Option V) : t_lB3 K { nx := fun _ H' => Q .non H', rt := Q } [some (.ref a), some (.ref wA), some (.ref rA), some (nv n), some x4, some (.ref p5), some x6, y7, none, none, none, none, none, none, y14, y15] H := by
  obtain ⟨d, hd, hb⟩ := L.d6
  refine ⟨nv n, rfl, rfl, decide (n = 9), congrArg V.bl (dec_nv n 9), ite2 (fun c => ?_) (fun _ => iteF (r_lC k L _ _ _))⟩
  exact ⟨.ref wA, rfl, .ref wA, rfl, .ref rA, rfl, x6, rfl, 9, .ref wA, .ref wA, .ref rA, x6, .non, some "NoRow", rfl, .row2 rfl L.w L.G L.hr L.ok hd hb, fun H1 s1 => ⟨rfl, false, notT (decide_eq_true (congrArg V.str tO)), iteF (r_lC k (L.same s1) _ _ _)⟩⟩
theorem r_lB2 (k : ∀ H', Q (.bl true) H') (L : LawF K H a wA rA p5 ns W W5 R n x4 x6) (y7 y14 y15 : Option V) : t_lB2 K { nx := fun _ H' => Q .non H', rt := Q } [some (.ref a), some (.ref wA), some (.ref rA), some (nv n), some x4, some (.ref p5), some x6, y7, none, none, none, none, none, none, y14, y15] H := by
  have hn := L.hn
  have hl := L.W40
  obtain ⟨d, hd, hb⟩ := L.d6
  have key : ∀ (w : Str), w = (if 3 < n ∧ n < 10 then "row" else "") → tSeq (tIfS (tTest (tOp rNe (tCall (sp__law_told K) [] E0 (tCons (tVar 3) (tCons (tVar 1) (tCons (tLst (tCons (tLst (tNil)) (tNil))) (tCons (tVar 6) (tCons (tVar 2) (tCons (tC .non) (tNil)))))))) (tVar 7))) (tRet (tC (.bl false))) (tNext)) (t_lB3 K) { nx := fun _ H' => Q .non H', rt := Q } [some (.ref a), some (.ref wA), some (.ref rA), some (nv n), some x4, some (.ref p5), some x6, some (.str w), none, none, none, none, none, none, y14, y15] H := by
    intro w ew
    subst ew
    refine ⟨nv n, rfl, .ref wA, rfl, Nat.zero_le _, fun q0 n0 => ⟨line_le (Nat.le_of_ble_eq_true rfl), fun pO nO => ?_⟩⟩
    have s1 : Same H (upd (upd H q0 (.lst [])) pO (.lst [.ref q0])) := (same_new n0).new nO
    have hq : (upd (upd H q0 (.lst [])) pO (.lst [.ref q0])) q0 = some (.lst (nvs [])) := same_new nO _ _ upd_same
    have hp : (upd (upd H q0 (.lst [])) pO (.lst [.ref q0])) pO = some (.lst [.ref q0]) := upd_same
    generalize upd (upd H q0 (.lst [])) pO (.lst [.ref q0]) = H1 at s1 hq hp
    have wO := web_one hp hq
    have L1 := L.same s1
    obtain ⟨d, hd, hb⟩ := L1.d6
    have ask : ∃ o, Ask H1 n (.ref wA) (.ref pO) x6 (.ref rA) .non o ∧ toldS o = if 3 < n ∧ n < 10 then "row" else "" := by
      by_cases h : 3 < n ∧ n < 10
      · rw [if_pos h]
        exact ⟨_, .row1 (by omega) (by omega) L1.w L.G hd hb, tO⟩
      · rw [if_neg h]
        by_cases h0 : n = 0
        · exact ⟨_, .ok0 h0 L1.w L.G.1, rfl⟩
        by_cases h3 : n ≤ 3
        · exact ⟨_, .ok1 (by omega) h3 L1.w L.G, rfl⟩
        by_cases h10 : n = 10
        · exact ⟨_, .two (.inl ⟨h10, by show W.length + 1 ≤ 200; omega⟩) L1.w L.G.1 wO form_e, rfl⟩
        · exact ⟨_, .two (.inr ⟨by omega, by show W.length * 1 ≤ 200; omega⟩) L1.w L.G.1 wO form_e, rfl⟩
    obtain ⟨o, ho, et⟩ := ask
    exact ⟨x6, rfl, .ref rA, rfl, n, .ref wA, .ref pO, x6, .ref rA, .non, o, rfl, ho, fun H2 s2 => ⟨_, rfl, rfl, false, notT (decide_eq_true (congrArg V.str et)), iteF (r_lB3 k (L.same (s1.trans s2)) _ _ _)⟩⟩
  refine ⟨nv n, rfl, 3, (n : Int), rfl, rfl, _, rfl, ite2 (fun c => ⟨(n : Int), 10, rfl, rfl, _, rfl, ite2 (fun c2 => key "row" ?_) (fun c2 => key "" ?_)⟩) (fun c => ⟨_, rfl, iteF (key "" ?_)⟩)⟩
  · have := of_decide_eq_true c
    have := of_decide_eq_true c2
    rw [if_pos (by omega)]
  · have h2 : ¬ (n : Int) < 10 := fun z => c2 (decide_eq_true z)
    rw [if_neg (by omega)]
  · have h2 : ¬ (3 : Int) < (n : Int) := fun z => c (decide_eq_true z)
    rw [if_neg (by omega)]
theorem r_lB1 (k : ∀ H', Q (.bl true) H') (L : LawF K H a wA rA p5 ns W W5 R n x4 x6) (y7 y14 y15 : Option V) : t_lB1 K { nx := fun _ H' => Q .non H', rt := Q } [some (.ref a), some (.ref wA), some (.ref rA), some (nv n), some x4, some (.ref p5), some x6, y7, none, none, none, none, none, none, y14, y15] H := by
  have hn := L.hn
  have hl := L.W40
  have hl5 := L.l5
  have key : ∀ (w : Str), w = (if 0 < n ∧ n < 10 then "ring" else "") → tSeq (tIfS (tTest (tOp rNe (tCall (sp__law_told K) [] E0 (tCons (tVar 3) (tCons (tVar 5) (tCons (tLst (tCons (tLst (tCons (tC (.int 0)) (tNil))) (tNil))) (tCons (tVar 6) (tCons (tVar 6) (tCons (tC .non) (tNil)))))))) (tVar 7))) (tRet (tC (.bl false))) (tNext)) (t_lB2 K) { nx := fun _ H' => Q .non H', rt := Q } [some (.ref a), some (.ref wA), some (.ref rA), some (nv n), some x4, some (.ref p5), some x6, some (.str w), none, none, none, none, none, none, y14, y15] H := by
    intro w ew
    subst ew
    refine ⟨nv n, rfl, .ref p5, rfl, line_le (Nat.le_of_ble_eq_true rfl), fun q0 n0 => ⟨line_le (Nat.le_of_ble_eq_true rfl), fun pO nO => ?_⟩⟩
    have s1 : Same H (upd (upd H q0 (.lst [.int 0])) pO (.lst [.ref q0])) := (same_new n0).new nO
    have hq : (upd (upd H q0 (.lst [.int 0])) pO (.lst [.ref q0])) q0 = some (.lst (nvs [0])) := same_new nO _ _ upd_same
    have hp : (upd (upd H q0 (.lst [.int 0])) pO (.lst [.ref q0])) pO = some (.lst [.ref q0]) := upd_same
    generalize upd (upd H q0 (.lst [.int 0])) pO (.lst [.ref q0]) = H1 at s1 hq hp
    have wO := web_one hp hq
    have L1 := L.same s1
    have ask : ∃ o, Ask H1 n (.ref p5) (.ref pO) x6 x6 .non o ∧ toldS o = if 0 < n ∧ n < 10 then "ring" else "" := by
      by_cases h : 0 < n ∧ n < 10
      · rw [if_pos h]
        exact ⟨_, .ring (by omega) (by omega) L1.w5 L.F5 L.n5, tR⟩
      · rw [if_neg h]
        by_cases h0 : n = 0
        · exact ⟨_, .ok0 h0 L1.w5 L.F5, rfl⟩
        by_cases h10 : n = 10
        · exact ⟨_, .two (.inl ⟨h10, by show W5.length + 1 ≤ 200; omega⟩) L1.w5 L.F5 wO form_0, rfl⟩
        · exact ⟨_, .two (.inr ⟨by omega, by show W5.length * 1 ≤ 200; omega⟩) L1.w5 L.F5 wO form_0, rfl⟩
    obtain ⟨o, ho, et⟩ := ask
    exact ⟨x6, rfl, x6, rfl, n, .ref p5, .ref pO, x6, x6, .non, o, rfl, ho, fun H2 s2 => ⟨_, rfl, rfl, false, notT (decide_eq_true (congrArg V.str et)), iteF (r_lB2 k (L.same (s1.trans s2)) _ _ _)⟩⟩
  refine ⟨nv n, rfl, 0, (n : Int), rfl, rfl, _, rfl, ite2 (fun c => ⟨(n : Int), 10, rfl, rfl, _, rfl, ite2 (fun c2 => key "ring" ?_) (fun c2 => key "" ?_)⟩) (fun c => ⟨_, rfl, iteF (key "" ?_)⟩)⟩
  · have := of_decide_eq_true c
    have := of_decide_eq_true c2
    rw [if_pos (by omega)]
  · have h2 : ¬ (n : Int) < 10 := fun z => c2 (decide_eq_true z)
    rw [if_neg (by omega)]
  · have h2 : ¬ (0 : Int) < (n : Int) := fun z => c (decide_eq_true z)
    rw [if_neg (by omega)]
end
def sp_law (K : PySem.W.Frag) : Sp := fun vs H Q _ => ∃ (a : Addr) (ns : List Int), vs = [.ref a] ∧ SqL K H a (ns.map V.int) ∧ ns.length ≤ 63 ∧ (∀ z ∈ ns, Builtin.Int.intBits z ≤ 1048576) ∧ ∀ H', Q (.bl true) H'
theorem r_law {K : PySem.W.Frag} (vs : List V) (H : Hp) (Q : VK) (E : XK) (h : sp_law K vs H Q E) : t_law K { nx := fun _ H' => Q .non H', rt := Q } (start N_law vs) H := by
  obtain ⟨a, ns, rfl, hsc, _, _, k⟩ := h
  refine ⟨.ref a, rfl, a, ns, 5, rfl, hsc, by decide, fun W wA H1 G hW40 s1 wN => ?_⟩
  have hpos := G.1.pos
  have w1 := wN.web
  obtain ⟨q, l⟩ := w1
  -- the row
  refine ⟨.ref a, rfl, 9, rfl, 12, rfl, a, _, rfl, s1.seq hsc, fun p np => ?_⟩
  have hp : (upd H1 p (.lst (cutV (ns.map V.int) (some 9) (some 12)))) p = some (.lst (((ns.drop 9).take 3).map V.int)) := by rw [upd_same]; exact congrArg (fun z => some (HO.lst z)) (cut_mid V.int ns 9 12 (by decide))
  have s2 := s1.new (o := .lst (cutV (ns.map V.int) (some 9) (some 12))) np
  have l2 := l.same (same_new (o := .lst (cutV (ns.map V.int) (some 9) (some 12))) np)
  generalize upd H1 p (.lst (cutV (ns.map V.int) (some 9) (some 12))) = H2 at hp s2 l2
  have zl : ((ns.drop 9).take 3).length ≤ 3 := by rw [List.length_take]; omega
  generalize (ns.drop 9).take 3 = zs at hp zl
  refine ⟨p, rfl, ⟨_, .of hp⟩, lcL zs V.int (fun _ => true) (fun z => nv (z % (W.length : Int)).toNat) (.of hp) (by omega) (fun z hz H3 Qy Qf s3 hy _ => ?_) (fun rA H3 nr s3 hr => ?_)⟩
  · refine ⟨.int z, rfl, .ref wA, rfl, wA, _, rfl, .inl (.of (s3 _ _ l2.top)), z, _, rfl, rfl, by rw [refs_len]; omega, ?_⟩
    rw [refs_len]
    obtain ⟨j, hj, ej⟩ := mod_pick z hpos
    have e : V.int (z % (W.length : Int)) = nv (z % (W.length : Int)).toNat := congrArg V.int (by omega)
    dsimp only
    rw [e]
    exact hy rfl H3 (Same.refl _)
  rw [List.filter_eq_self.mpr (fun _ _ => rfl)] at hr
  have hr2 : H3 rA = some (.lst (nvs (zs.map fun z => (z % (W.length : Int)).toNat))) := by rw [hr, nvs, List.map_map]; rfl
  have hRl : (zs.map fun z => (z % (W.length : Int)).toNat).length ≤ 3 := by rw [List.length_map]; exact zl
  have hRlt : ∀ x ∈ zs.map fun z => (z % (W.length : Int)).toNat, x < W.length := fun x hx => by
    obtain ⟨z, _, rfl⟩ := List.mem_map.mp hx
    obtain ⟨j, hj, ej⟩ := mod_pick z hpos
    omega
  generalize zs.map (fun z => (z % (W.length : Int)).toNat) = R at hr2 hRl hRlt
  have ok : RowOk W R := ⟨by omega, hRlt⟩
  have s03 := s2.trans s3
  have l3 := l2.same s3
  -- which
  refine ⟨.ref a, rfl, a, ns, 0, rfl, s03.seq hsc, Int.le_refl _, fun c0 => ⟨c0, 12, rfl, rfl, (show (0 : Int) < 12 by decide), ?_⟩⟩
  obtain ⟨n, hn, en⟩ := mod_pick c0 (n := 12) (by decide)
  have en : c0 % 12 = (n : Int) := en
  dsimp only
  rw [en]
  -- spoilt, ringed, a bad row
  refine ⟨.ref wA, rfl, .ref a, rfl, a, ns, 1, rfl, s03.seq hsc, by decide, fun c1 => ⟨wA, W, c1, rfl, ⟨q, l3⟩, G.1, by omega, fun x4 H4 b4 s4 => ?_⟩⟩
  have s04 := s03.trans s4
  have l4 := l3.same s4
  refine ⟨.ref wA, rfl, .ref a, rfl, a, ns, 2, rfl, s04.seq hsc, by decide, fun c2 => ⟨wA, W, c2, rfl, ⟨q, l4⟩, G.1, by omega, fun W5 p5 H5 F5 l5 n5 s5 w5 => ?_⟩⟩
  have s05 := s04.trans s5
  have l5_ := l4.same s5
  have hr5 := s5 _ _ (s4 _ _ hr2)
  refine ⟨.ref rA, rfl, .ref wA, rfl, wA, _, rfl, .inl (.of l5_.top), .ref a, rfl, a, ns, 3, rfl, s05.seq hsc, by decide, fun c3 => ⟨rA, R, W.length, c3, by rw [refs_len]; rfl, hr5, by omega, by omega, hpos, fun x6 d6 H6 hd6 hb6 s6 => ?_⟩⟩
  have s06 := s05.trans s6
  have L : LawF K H6 a wA rA p5 ns W W5 R n x4 x6 := ⟨s06.seq hsc, ⟨q, l5_.same s6⟩, G, hW40, s6 _ _ hr5, ok, hRl, by omega, b4.same (s5.trans s6), F5, l5, n5, w5.same s6, d6, hd6, hb6⟩
  clear s06 s05 s04 s03 hd6 hb6 hr5 hr2 hr b4 w5
  -- is_web
  refine ⟨.ref wA, rfl, .ref wA, dW W, rfl, G.1.o L.w, fun H7 s7 => ⟨webOk (dW W), true, rfl, rfl, false, by rw [G.1.ok]; rfl, iteF ?_⟩⟩
  have L := L.same s7
  refine ⟨.ref p5, rfl, .ref p5, dW W5, rfl, F5.o L.w5, fun H8 s8 => ⟨webOk (dW W5), true, rfl, rfl, false, by rw [F5.ok]; rfl, iteF ?_⟩⟩
  have L := L.same s8
  obtain ⟨d4, hd4, hb4⟩ := L.b4
  refine ⟨x4, rfl, x4, d4, rfl, hd4, fun H9 s9 => ⟨webOk d4, false, rfl, rfl, false, by rw [hb4]; rfl, iteF ?_⟩⟩
  have L := L.same s9
  -- two hundred spots
  refine ⟨200, rfl, by decide, by decide, ?_⟩
  rw [show (200 : Int).toNat = 200 from rfl]
  refine lcRN (n := 200) (fun _ => nvs []) (by decide) (fun j hj H10 Qy s10 hy => ⟨Nat.zero_le _, fun p np => hy p _ np (same_new np) upd_same⟩) (fun D H10 s10 hD => ?_)
  obtain ⟨dq, OD⟩ := hD.own
  have wD := (webN_own (f := fun _ => []) OD).web
  have FD := form_empty (m := 200) (by decide) (by decide)
  have L := L.same s10
  refine ⟨.ref D, dW _, rfl, FD.o wD, fun H11 s11 => ⟨webOk (dW _), true, rfl, rfl, false, by rw [FD.ok]; rfl, iteF ?_⟩⟩
  have L := L.same s11
  obtain ⟨d4, hd4, hb4⟩ := L.b4
  refine ⟨nv n, rfl, x4, rfl, x4, rfl, x6, rfl, x6, rfl, n, x4, x4, x6, x6, .non, some "NoWeb", rfl, .web L.hn hd4 hb4, fun H12 s12 => ⟨rfl, false, notT (decide_eq_true (congrArg V.str tW)), iteF ?_⟩⟩
  have L := L.same s12
  refine ⟨nv n, rfl, (n : Int), 9, rfl, rfl, _, rfl, ite2 (fun c => ?_) (fun _ => iteF (r_lB1 k L _ _ _))⟩
  have c2 : 9 < n := by have := of_decide_eq_true c; omega
  obtain ⟨d4, hd4, hb4⟩ := L.b4
  have hn11 := L.hn
  exact ⟨nv n, rfl, .ref wA, rfl, x4, rfl, .ref rA, rfl, .ref rA, rfl, n, .ref wA, x4, .ref rA, .ref rA, .non, some "NoWeb", rfl, .other (by omega) L.w G.1 hd4 hb4, fun H13 s13 => ⟨rfl, false, notT (decide_eq_true (congrArg V.str tW)), iteF (r_lB1 k (L.same s13) _ _ _)⟩⟩
end Sp

namespace Sp
open PySem PySem.Spec PyProof.Rows L2
/-! ### the text -/
def topS (i : Nat) : Stmt := PySem.Challenge.pw_spotsums_k01_what_is_refused.main.body.getD i (.Pass ⟨0, 0, 0, 0⟩)
/-! _law_cell_at -/
abbrev s__law_cell_at : Stmt := topS 38
theorem sc__law_cell_at : FnScope N__law_cell_at ["_law_script", "_law_k"] (defScope s__law_cell_at) := ⟨rfl, rfl, rfl, by decide +kernel, rfl, by decide +kernel, by decide +kernel⟩
abbrev FN__law_cell_at (K : PySem.W.Frag) (f : Addr) (fd : FuncData) : Prop := FunD K "_law_cell_at" "_law_cell_at" (defArgs s__law_cell_at) (defBody s__law_cell_at) (defScope s__law_cell_at) [] [] f fd
abbrev DF__law_cell_at (P : Program) (w : World) (K : PySem.W.Frag) (mg : Str → Option Value) (base : Heap) : Prop := Df P w K mg base 1 "_law_cell_at" ["_law_script", "_law_k"] (sp__law_cell_at K)
theorem len__law_cell_at {K : PySem.W.Frag} {vs : List V} {H : Hp} {Q : VK} {E : XK} (h : sp__law_cell_at K vs H Q E) : vs.length = 2 := by
  unfold sp__law_cell_at at h
  repeat (first | (obtain ⟨rfl, _⟩ := h; rfl) | obtain ⟨_, h⟩ := h)
theorem ok__law_cell_at {P : Program} {w : World} {K : PySem.W.Frag} {mg : Str → Option Value} {base : Heap} {f : Addr} {fd : FuncData} (B : Blt mg) (T : XT exNs K mg) (F : FN__law_cell_at K f fd) : FnOk P w K mg base CX0 1 f fd ["_law_script", "_law_k"] (sp__law_cell_at K) := by
  have nd := sc__law_cell_at.nd
  refine F.ok sc__law_cell_at (fun vs H Q E h => len__law_cell_at h) (fun cdv A outer s H vs Q E hr h => ⟨t__law_cell_at K, PSs.nox ?_, r__law_cell_at vs H Q E h⟩)
  exact (pss_cons (ps_if (pt_cmpR op_lt (pv 1) (pe_callB call_len_seq (by rfl) B.len PySem.boot_len (pa_cons (pv 0) pa_nil)) (nomark _)) (pss_one (ps_ret (pe_ix ix_list (pv 0) (pv 1) (fun _ _ => rfl)))) pss_nil)
      (pss_one (ps_ret pe_int)))
theorem df__law_cell_at {P : Program} {w : World} {K : PySem.W.Frag} {mg : Str → Option Value} {base : Heap} {f : Addr} {fd : FuncData} (B : Blt mg) (T : XT exNs K mg) (F : FN__law_cell_at K f fd) (g : mg "_law_cell_at" = some (.ref f)) : DF__law_cell_at P w K mg base :=
  ⟨f, fd, ok__law_cell_at B T F, g, F.kp, F.bindsN fun _ _ _ _ _ _ us hl => match us, hl with | [_, _], _ => rfl⟩
/-! _law_mixed -/
abbrev s__law_mixed : Stmt := topS 39
theorem sc__law_mixed : FnScope N__law_mixed ["_law_cell", "_law_k"] (defScope s__law_mixed) := ⟨rfl, rfl, rfl, by decide +kernel, rfl, by decide +kernel, by decide +kernel⟩
abbrev FN__law_mixed (K : PySem.W.Frag) (f : Addr) (fd : FuncData) : Prop := FunD K "_law_mixed" "_law_mixed" (defArgs s__law_mixed) (defBody s__law_mixed) (defScope s__law_mixed) [] [] f fd
abbrev DF__law_mixed (P : Program) (w : World) (K : PySem.W.Frag) (mg : Str → Option Value) (base : Heap) : Prop := Df P w K mg base 1 "_law_mixed" ["_law_cell", "_law_k"] (sp__law_mixed K)
theorem len__law_mixed {K : PySem.W.Frag} {vs : List V} {H : Hp} {Q : VK} {E : XK} (h : sp__law_mixed K vs H Q E) : vs.length = 2 := by
  unfold sp__law_mixed at h
  repeat (first | (obtain ⟨rfl, _⟩ := h; rfl) | obtain ⟨_, h⟩ := h)
theorem ok__law_mixed {P : Program} {w : World} {K : PySem.W.Frag} {mg : Str → Option Value} {base : Heap} {f : Addr} {fd : FuncData} (B : Blt mg) (T : XT exNs K mg) (F : FN__law_mixed K f fd) : FnOk P w K mg base CX0 1 f fd ["_law_cell", "_law_k"] (sp__law_mixed K) := by
  have nd := sc__law_mixed.nd
  refine F.ok sc__law_mixed (fun vs H Q E h => len__law_mixed h) (fun cdv A outer s H vs Q E hr h => ⟨t__law_mixed K, PSs.nox ?_, r__law_mixed vs H Q E h⟩)
  exact (pss_cons (ps_set (i := 2) nd rfl (.inl rfl) (pe_op op_mod (pe_op op_mul (pe_op op_add (pe_op op_mod (pv 0) pe_int) pe_int) pe_int) pe_int))
      (pss_cons (ps_set (i := 2) nd rfl (.inl rfl) (pe_op op_mod (pe_op op_mul (pe_op op_add (pv 2) (pv 1)) (pe_op op_add (pe_op op_mul (pv 1) (pv 1)) pe_int)) pe_int))
      (pss_one (ps_ret (pe_op op_fdiv (pe_op op_mod (pe_op op_mul (pv 2) pe_int) pe_int) pe_int)))))
theorem df__law_mixed {P : Program} {w : World} {K : PySem.W.Frag} {mg : Str → Option Value} {base : Heap} {f : Addr} {fd : FuncData} (B : Blt mg) (T : XT exNs K mg) (F : FN__law_mixed K f fd) (g : mg "_law_mixed" = some (.ref f)) : DF__law_mixed P w K mg base :=
  ⟨f, fd, ok__law_mixed B T F, g, F.kp, F.bindsN fun _ _ _ _ _ _ us hl => match us, hl with | [_, _], _ => rfl⟩
/-! _law_order_by -/
abbrev s__law_order_by : Stmt := topS 40
theorem sc__law_order_by : FnScope N__law_order_by ["_law_cell", "_law_many"] (defScope s__law_order_by) := ⟨rfl, rfl, rfl, by decide +kernel, rfl, by decide +kernel, by decide +kernel⟩
abbrev FN__law_order_by (K : PySem.W.Frag) (f : Addr) (fd : FuncData) : Prop := FunD K "_law_order_by" "_law_order_by" (defArgs s__law_order_by) (defBody s__law_order_by) (defScope s__law_order_by) [] [] f fd
abbrev DF__law_order_by (P : Program) (w : World) (K : PySem.W.Frag) (mg : Str → Option Value) (base : Heap) : Prop := Df P w K mg base 2 "_law_order_by" ["_law_cell", "_law_many"] (sp__law_order_by K)
theorem len__law_order_by {K : PySem.W.Frag} {vs : List V} {H : Hp} {Q : VK} {E : XK} (h : sp__law_order_by K vs H Q E) : vs.length = 2 := by
  unfold sp__law_order_by at h
  repeat (first | (obtain ⟨rfl, _⟩ := h; rfl) | obtain ⟨_, h⟩ := h)
theorem ok__law_order_by {P : Program} {w : World} {K : PySem.W.Frag} {mg : Str → Option Value} {base : Heap} {f : Addr} {fd : FuncData} (B : Blt mg) (T : XT exNs K mg) (D__law_mixed : DF__law_mixed P w K mg base) (F : FN__law_order_by K f fd) : FnOk P w K mg base CX0 2 f fd ["_law_cell", "_law_many"] (sp__law_order_by K) := by
  have nd := sc__law_order_by.nd
  refine F.ok sc__law_order_by (fun vs H Q E h => len__law_order_by h) (fun cdv A outer s H vs Q E hr h => ⟨t__law_order_by K, PSs.nox ?_, r__law_order_by vs H Q E h⟩)
  exact (pss_cons (ps_set (i := 2) nd rfl (.inl rfl) (pe_listRg rfl (by rfl) B.list (prg_1 (by rfl) B.range (pv 1))))
      (pss_cons (ps_set (i := 3) nd rfl (.inl rfl) (pe_lst pa_nil))
      (pss_cons (ps_for PassesOwn.never rfl (pi_range1 (by rfl) B.range (pa_cons (pv 1) pa_nil)) (pg_name (i := 4) nd rfl (.inl rfl)) (pss_one (ps_expr (pe_bm PySem.F.plainAttrs_list PySem.F.slot_list_append PySem.F.type_list_append mt_append (pv 3) (pa_cons (pe_bm PySem.F.plainAttrs_list PySem.F.slot_list_pop PySem.F.type_list_pop mt_popAt (pv 2) (pa_cons (pe_op op_mod (pe_cd D__law_mixed (hr.mono (by decide)) (by rfl) (pa_cons (pv 0) (pa_cons (pv 4) pa_nil))) (pe_callB call_len_seq (by rfl) B.len PySem.boot_len (pa_cons (pv 2) pa_nil))) pa_nil)) pa_nil)))))
      (pss_one (ps_ret (pv 3))))))
theorem df__law_order_by {P : Program} {w : World} {K : PySem.W.Frag} {mg : Str → Option Value} {base : Heap} {f : Addr} {fd : FuncData} (B : Blt mg) (T : XT exNs K mg) (D__law_mixed : DF__law_mixed P w K mg base) (F : FN__law_order_by K f fd) (g : mg "_law_order_by" = some (.ref f)) : DF__law_order_by P w K mg base :=
  ⟨f, fd, ok__law_order_by B T D__law_mixed F, g, F.kp, F.bindsN fun _ _ _ _ _ _ us hl => match us, hl with | [_, _], _ => rfl⟩
/-! _law_web_by -/
abbrev s__law_web_by : Stmt := topS 41
theorem sc__law_web_by : FnScope N__law_web_by ["_law_script", "_law_at"] (defScope s__law_web_by) := ⟨rfl, rfl, rfl, by decide +kernel, rfl, by decide +kernel, by decide +kernel⟩
abbrev FN__law_web_by (K : PySem.W.Frag) (f : Addr) (fd : FuncData) : Prop := FunD K "_law_web_by" "_law_web_by" (defArgs s__law_web_by) (defBody s__law_web_by) (defScope s__law_web_by) [] [] f fd
abbrev DF__law_web_by (P : Program) (w : World) (K : PySem.W.Frag) (mg : Str → Option Value) (base : Heap) : Prop := Df P w K mg base 3 "_law_web_by" ["_law_script", "_law_at"] (sp__law_web_by K)
theorem len__law_web_by {K : PySem.W.Frag} {vs : List V} {H : Hp} {Q : VK} {E : XK} (h : sp__law_web_by K vs H Q E) : vs.length = 2 := by
  unfold sp__law_web_by at h
  repeat (first | (obtain ⟨rfl, _⟩ := h; rfl) | obtain ⟨_, h⟩ := h)
theorem ok__law_web_by {P : Program} {w : World} {K : PySem.W.Frag} {mg : Str → Option Value} {base : Heap} {f : Addr} {fd : FuncData} (B : Blt mg) (T : XT exNs K mg) (D__law_cell_at : DF__law_cell_at P w K mg base) (D__law_order_by : DF__law_order_by P w K mg base) (D__law_mixed : DF__law_mixed P w K mg base) (F : FN__law_web_by K f fd) : FnOk P w K mg base CX0 3 f fd ["_law_script", "_law_at"] (sp__law_web_by K) := by
  have nd := sc__law_web_by.nd
  refine F.ok sc__law_web_by (fun vs H Q E h => len__law_web_by h) (fun cdv A outer s H vs Q E hr h => ⟨t__law_web_by K, PSs.nox ?_, r__law_web_by vs H Q E h⟩)
  exact (pss_cons (ps_set (i := 2) nd rfl (.inl rfl) (pe_op op_add pe_int (pe_op op_mod (pe_cd D__law_cell_at (hr.mono (by decide)) (by rfl) (pa_cons (pv 0) (pa_cons (pv 1) pa_nil))) pe_int)))
      (pss_mid (ps_if (pt_cmpR op_eq (pe_op op_mod (pe_cd D__law_cell_at (hr.mono (by decide)) (by rfl) (pa_cons (pv 0) (pa_cons (pe_op op_add (pv 1) pe_int) pa_nil))) pe_int) pe_int (nomark _)) (pss_one (ps_set (i := 2) nd rfl (.inl rfl) (pe_op op_add pe_int (pe_op op_mod (pe_cd D__law_cell_at (hr.mono (by decide)) (by rfl) (pa_cons (pv 0) (pa_cons (pv 1) pa_nil))) pe_int)))) pss_nil)
      (pss_cons (ps_set (i := 3) nd rfl (.inl rfl) (pe_cd D__law_order_by (hr.mono (by decide)) (by rfl) (pa_cons (pe_cd D__law_cell_at (hr.mono (by decide)) (by rfl) (pa_cons (pv 0) (pa_cons (pe_op op_add (pv 1) pe_int) pa_nil))) (pa_cons (pv 2) pa_nil))))
      (pss_cons (ps_set (i := 4) nd rfl (.inl rfl) (pe_op op_add pe_int (pe_op op_mod (pe_op op_fdiv (pe_cd D__law_cell_at (hr.mono (by decide)) (by rfl) (pa_cons (pv 0) (pa_cons (pe_op op_add (pv 1) pe_int) pa_nil))) pe_int) pe_int)))
      (pss_cons (ps_setLc (i := 5) (own := [("_law_spot", 8)]) (g := gName 8) rfl nd rfl rfl (sw_true rfl rfl rfl (by decide +kernel)) (pi_list (pv 3)) (blkOk_by (N := N__law_web_by) (sc := defScope s__law_web_by) (by decide +kernel)) (fun _ _ _ _ _ => pg_name (i := 8) nd rfl (.inl rfl)) (fun _ _ _ _ _ => pts_nil) (fun _ _ _ _ _ => (pe_lst pa_nil)))
      (pss_cons (ps_for PassesOwn.never rfl (pi_range1 (by rfl) B.range (pa_cons (pv 2) pa_nil)) (pg_name (i := 6) nd rfl (.inl rfl)) (pss_cons (ps_for PassesOwn.never rfl (pi_range1 (by rfl) B.range (pa_cons (pv 6) pa_nil)) (pg_name (i := 7) nd rfl (.inl rfl)) (pss_one (ps_if (pt_cmpR op_eq (pe_op op_mod (pe_cd D__law_mixed (hr.mono (by decide)) (by rfl) (pa_cons (pe_cd D__law_cell_at (hr.mono (by decide)) (by rfl) (pa_cons (pv 0) (pa_cons (pe_op op_add (pv 1) pe_int) pa_nil))) (pa_cons (pe_op op_add (pe_op op_mul pe_int (pv 6)) (pv 7)) pa_nil))) (pv 4)) pe_int (nomark _)) (pss_one (ps_expr (pe_bm PySem.F.plainAttrs_list PySem.F.slot_list_append PySem.F.type_list_append mt_append (pe_ix ix_list (pv 5) (pe_ix ix_list (pv 3) (pv 6) (fun _ _ => rfl)) (fun _ _ => rfl)) (pa_cons (pe_ix ix_list (pv 3) (pv 7) (fun _ _ => rfl)) pa_nil)))) pss_nil)))
      (pss_one (ps_if (pt_cmpR op_eq (pe_op op_mod (pe_cd D__law_mixed (hr.mono (by decide)) (by rfl) (pa_cons (pe_cd D__law_cell_at (hr.mono (by decide)) (by rfl) (pa_cons (pv 0) (pa_cons (pe_op op_add (pv 1) pe_int) pa_nil))) (pa_cons (pe_op op_add (pe_op op_mul pe_int (pv 6)) pe_int) pa_nil))) pe_int) pe_int (nomark _)) (pss_one (ps_expr (pe_bm0 PySem.F.plainAttrs_list PySem.F.slot_list_reverse PySem.F.type_list_reverse mt_reverse (pe_ix ix_list (pv 5) (pe_ix ix_list (pv 3) (pv 6) (fun _ _ => rfl)) (fun _ _ => rfl))))) pss_nil))))
      (pss_one (ps_ret (pv 5)))))))))
theorem df__law_web_by {P : Program} {w : World} {K : PySem.W.Frag} {mg : Str → Option Value} {base : Heap} {f : Addr} {fd : FuncData} (B : Blt mg) (T : XT exNs K mg) (D__law_cell_at : DF__law_cell_at P w K mg base) (D__law_order_by : DF__law_order_by P w K mg base) (D__law_mixed : DF__law_mixed P w K mg base) (F : FN__law_web_by K f fd) (g : mg "_law_web_by" = some (.ref f)) : DF__law_web_by P w K mg base :=
  ⟨f, fd, ok__law_web_by B T D__law_cell_at D__law_order_by D__law_mixed F, g, F.kp, F.bindsN fun _ _ _ _ _ _ us hl => match us, hl with | [_, _], _ => rfl⟩
/-! _law_copied -/
abbrev s__law_copied : Stmt := topS 42
theorem sc__law_copied : FnScope N__law_copied ["_law_web"] (defScope s__law_copied) := ⟨rfl, rfl, rfl, by decide +kernel, rfl, by decide +kernel, by decide +kernel⟩
abbrev FN__law_copied (K : PySem.W.Frag) (f : Addr) (fd : FuncData) : Prop := FunD K "_law_copied" "_law_copied" (defArgs s__law_copied) (defBody s__law_copied) (defScope s__law_copied) [] [] f fd
abbrev DF__law_copied (P : Program) (w : World) (K : PySem.W.Frag) (mg : Str → Option Value) (base : Heap) : Prop := Df P w K mg base 1 "_law_copied" ["_law_web"] (sp__law_copied K)
theorem len__law_copied {K : PySem.W.Frag} {vs : List V} {H : Hp} {Q : VK} {E : XK} (h : sp__law_copied K vs H Q E) : vs.length = 1 := by
  unfold sp__law_copied at h
  repeat (first | (obtain ⟨rfl, _⟩ := h; rfl) | obtain ⟨_, h⟩ := h)
theorem ok__law_copied {P : Program} {w : World} {K : PySem.W.Frag} {mg : Str → Option Value} {base : Heap} {f : Addr} {fd : FuncData} (B : Blt mg) (T : XT exNs K mg) (F : FN__law_copied K f fd) : FnOk P w K mg base CX0 1 f fd ["_law_web"] (sp__law_copied K) := by
  have nd := sc__law_copied.nd
  refine F.ok sc__law_copied (fun vs H Q E h => len__law_copied h) (fun cdv A outer s H vs Q E hr h => ⟨t__law_copied K, PSs.nox ?_, r__law_copied vs H Q E h⟩)
  exact (pss_one (ps_ret (pe_lc (own := [("_law_spot", 1)]) (g := gName 1) rfl nd (pi_list (pv 0)) (blkOk_by (N := N__law_copied) (sc := defScope s__law_copied) (by decide +kernel)) (fun _ _ _ _ _ => pg_name (i := 1) nd rfl (.inl rfl)) (fun _ _ _ _ _ => pts_nil) (fun _ _ _ _ _ => (pe_callTy call_list_of (by rfl) B.list (by decide +kernel) (pa_cons (pv 1) pa_nil))))))
theorem df__law_copied {P : Program} {w : World} {K : PySem.W.Frag} {mg : Str → Option Value} {base : Heap} {f : Addr} {fd : FuncData} (B : Blt mg) (T : XT exNs K mg) (F : FN__law_copied K f fd) (g : mg "_law_copied" = some (.ref f)) : DF__law_copied P w K mg base :=
  ⟨f, fd, ok__law_copied B T F, g, F.kp, F.bindsN fun _ _ _ _ _ _ us hl => match us, hl with | [_], _ => rfl⟩
/-! _law_spoilt -/
abbrev s__law_spoilt : Stmt := topS 43
theorem sc__law_spoilt : FnScope N__law_spoilt ["_law_web", "_law_cell"] (defScope s__law_spoilt) := ⟨rfl, rfl, rfl, by decide +kernel, rfl, by decide +kernel, by decide +kernel⟩
abbrev FN__law_spoilt (K : PySem.W.Frag) (f : Addr) (fd : FuncData) : Prop := FunD K "_law_spoilt" "_law_spoilt" (defArgs s__law_spoilt) (defBody s__law_spoilt) (defScope s__law_spoilt) [] [] f fd
abbrev DF__law_spoilt (P : Program) (w : World) (K : PySem.W.Frag) (mg : Str → Option Value) (base : Heap) : Prop := Df P w K mg base 2 "_law_spoilt" ["_law_web", "_law_cell"] (sp__law_spoilt K)
theorem len__law_spoilt {K : PySem.W.Frag} {vs : List V} {H : Hp} {Q : VK} {E : XK} (h : sp__law_spoilt K vs H Q E) : vs.length = 2 := by
  unfold sp__law_spoilt at h
  repeat (first | (obtain ⟨rfl, _⟩ := h; rfl) | obtain ⟨_, h⟩ := h)
theorem ok__law_spoilt {P : Program} {w : World} {K : PySem.W.Frag} {mg : Str → Option Value} {base : Heap} {f : Addr} {fd : FuncData} (B : Blt mg) (T : XT exNs K mg) (D__law_copied : DF__law_copied P w K mg base) (F : FN__law_spoilt K f fd) : FnOk P w K mg base CX0 2 f fd ["_law_web", "_law_cell"] (sp__law_spoilt K) := by
  have nd := sc__law_spoilt.nd
  refine F.ok sc__law_spoilt (fun vs H Q E h => len__law_spoilt h) (fun cdv A outer s H vs Q E hr h => ⟨t__law_spoilt K, PSs.nox ?_, r__law_spoilt vs H Q E h⟩)
  exact (pss_cons (ps_set (i := 2) nd rfl (.inl rfl) (pe_op op_mod (pe_op op_fdiv (pv 1) pe_int) (pe_callB call_len_seq (by rfl) B.len PySem.boot_len (pa_cons (pv 0) pa_nil))))
      (pss_cons (ps_set (i := 3) nd rfl (.inl rfl) (pe_lst (pa_cons (pe_callB call_len_seq (by rfl) B.len PySem.boot_len (pa_cons (pv 0) pa_nil)) (pa_cons (pe_un un_neg pe_int) (pa_cons pe_bl (pa_cons pe_str (pa_cons pe_non (pa_cons (pe_lst (pa_cons pe_int pa_nil)) (pa_cons (pe_op op_pow pe_int pe_int) pa_nil)))))))))
      (pss_cons (ps_set (i := 4) nd rfl (.inl rfl) (pe_cd D__law_copied (hr.mono (by decide)) (by rfl) (pa_cons (pv 0) pa_nil)))
      (pss_cons (ps_if (pt_cmpR op_lt (pe_op op_mod (pv 1) pe_int) pe_int (nomark _)) (pss_cons (ps_expr (pe_bm PySem.F.plainAttrs_list PySem.F.slot_list_insert PySem.F.type_list_insert mt_insert (pe_ix ix_list (pv 4) (pv 2) (fun _ _ => rfl)) (pa_cons (pe_op op_mod (pe_op op_fdiv (pv 1) pe_int) (pe_op op_add (pe_callB call_len_seq (by rfl) B.len PySem.boot_len (pa_cons (pe_ix ix_list (pv 4) (pv 2) (fun _ _ => rfl)) pa_nil)) pe_int)) (pa_cons (pe_ix ix_list (pv 3) (pe_op op_mod (pv 1) pe_int) (fun _ _ => rfl)) pa_nil))))
      (pss_one (ps_ret (pv 4)))) pss_nil)
      (pss_mid (ps_if (pt_cmpR op_eq (pe_op op_mod (pv 1) pe_int) pe_int (nomark _)) (pss_cons (ps_set (i := 5) nd rfl (.inr rfl) (pe_op op_mod (pe_op op_mod (pe_op op_fdiv (pv 1) pe_int) pe_int) (pe_callB call_len_seq (by rfl) B.len PySem.boot_len (pa_cons (pv 0) pa_nil))))
      (pss_cons (ps_setLc (i := 6) (own := [("_law_spot", 8)]) (g := gName 8) rfl nd rfl rfl (sw_true rfl rfl rfl (by decide +kernel)) (pi_list (pe_ix ix_list (pv 4) (pv 2) (fun _ _ => rfl))) (blkOk_by (N := N__law_spoilt) (sc := defScope s__law_spoilt) (by decide +kernel)) (fun _ _ _ _ _ => pg_name (i := 8) nd rfl (.inl rfl)) (fun _ _ _ _ _ => (pts_one (pt_cmpR op_ne (pv 8) (pv 5) (nomark _)))) (fun _ _ _ _ _ => (pv 8)))
      (pss_cons (ps_set (i := 7) nd rfl (.inl rfl) (pe_op op_mod (pe_op op_fdiv (pv 1) pe_int) (pe_op op_add (pe_callB call_len_seq (by rfl) B.len PySem.boot_len (pa_cons (pv 6) pa_nil)) pe_int)))
      (pss_one (ps_asg (pe_op op_cat (pe_op op_cat (pe_op op_cat (pe_lst (pa_cons (pv 5) pa_nil)) (pe_slice sl_list (pv 6) po_none (po_some (pv 7)))) (pe_lst (pa_cons (pv 5) pa_nil))) (pe_slice sl_list (pv 6) (po_some (pv 7)) po_none)) (pg_sub (pv 4) (pv 2) set_list)))))) pss_nil)
      (pss_mid (ps_if (pt_cmpR op_eq (pe_op op_mod (pv 1) pe_int) pe_int (nomark _)) (pss_one (ps_asg (pe_callTy call_tuple_of (by rfl) B.tuple (by decide +kernel) (pa_cons (pe_ix ix_list (pv 4) (pv 2) (fun _ _ => rfl)) pa_nil)) (pg_sub (pv 4) (pv 2) set_list))) pss_nil)
      (pss_mid (ps_if (pt_cmpR op_eq (pe_op op_mod (pv 1) pe_int) pe_int (nomark _)) (pss_one (ps_asg pe_non (pg_sub (pv 4) (pv 2) set_list))) pss_nil)
      (pss_mid (ps_if (pt_cmpR op_eq (pe_op op_mod (pv 1) pe_int) pe_int (nomark _)) (pss_one (ps_expr (pe_bm PySem.F.plainAttrs_list PySem.F.slot_list_insert PySem.F.type_list_insert mt_insert (pv 4) (pa_cons (pv 2) (pa_cons pe_int pa_nil))))) pss_nil)
      (pss_cons (ps_if (pt_cmpR op_eq (pe_op op_mod (pv 1) pe_int) pe_int (nomark _)) (pss_one (ps_ret (pe_lc (own := [("_law_k", 9)]) (g := gName 9) rfl nd (pi_range1 (by rfl) B.range (pa_cons pe_int pa_nil)) (blkOk_by (N := N__law_spoilt) (sc := defScope s__law_spoilt) (by decide +kernel)) (fun _ _ _ _ _ => pg_name (i := 9) nd rfl (.inl rfl)) (fun _ _ _ _ _ => pts_nil) (fun _ _ _ _ _ => (pe_lst pa_nil))))) pss_nil)
      (pss_one (ps_ret (pe_ifExp (pt_cmpR op_lt (pe_op op_mod (pv 1) pe_int) pe_int (nomark _)) (pv 4) (pe_ix ix_list (pe_lst (pa_cons (pe_lst pa_nil) (pa_cons pe_non (pa_cons (pe_callTy call_tuple_of (by rfl) B.tuple (by decide +kernel) (pa_cons (pv 0) pa_nil)) (pa_cons pe_dnewT (pa_cons pe_str (pa_cons pe_int pa_nil))))))) (pe_op op_mod (pe_op op_fdiv (pv 1) pe_int) pe_int) (fun _ _ => rfl))))))))))))))
theorem df__law_spoilt {P : Program} {w : World} {K : PySem.W.Frag} {mg : Str → Option Value} {base : Heap} {f : Addr} {fd : FuncData} (B : Blt mg) (T : XT exNs K mg) (D__law_copied : DF__law_copied P w K mg base) (F : FN__law_spoilt K f fd) (g : mg "_law_spoilt" = some (.ref f)) : DF__law_spoilt P w K mg base :=
  ⟨f, fd, ok__law_spoilt B T D__law_copied F, g, F.kp, F.bindsN fun _ _ _ _ _ _ us hl => match us, hl with | [_, _], _ => rfl⟩
/-! _law_ringed -/
abbrev s__law_ringed : Stmt := topS 44
theorem sc__law_ringed : FnScope N__law_ringed ["_law_web", "_law_cell"] (defScope s__law_ringed) := ⟨rfl, rfl, rfl, by decide +kernel, rfl, by decide +kernel, by decide +kernel⟩
abbrev FN__law_ringed (K : PySem.W.Frag) (f : Addr) (fd : FuncData) : Prop := FunD K "_law_ringed" "_law_ringed" (defArgs s__law_ringed) (defBody s__law_ringed) (defScope s__law_ringed) [] [] f fd
abbrev DF__law_ringed (P : Program) (w : World) (K : PySem.W.Frag) (mg : Str → Option Value) (base : Heap) : Prop := Df P w K mg base 2 "_law_ringed" ["_law_web", "_law_cell"] (sp__law_ringed K)
theorem len__law_ringed {K : PySem.W.Frag} {vs : List V} {H : Hp} {Q : VK} {E : XK} (h : sp__law_ringed K vs H Q E) : vs.length = 2 := by
  unfold sp__law_ringed at h
  repeat (first | (obtain ⟨rfl, _⟩ := h; rfl) | obtain ⟨_, h⟩ := h)
theorem ok__law_ringed {P : Program} {w : World} {K : PySem.W.Frag} {mg : Str → Option Value} {base : Heap} {f : Addr} {fd : FuncData} (B : Blt mg) (T : XT exNs K mg) (D__law_copied : DF__law_copied P w K mg base) (F : FN__law_ringed K f fd) : FnOk P w K mg base CX0 2 f fd ["_law_web", "_law_cell"] (sp__law_ringed K) := by
  have nd := sc__law_ringed.nd
  refine F.ok sc__law_ringed (fun vs H Q E h => len__law_ringed h) (fun cdv A outer s H vs Q E hr h => ⟨t__law_ringed K, PSs.nox ?_, r__law_ringed vs H Q E h⟩)
  exact (pss_cons (ps_set (i := 2) nd rfl (.inl rfl) (pe_cd D__law_copied (hr.mono (by decide)) (by rfl) (pa_cons (pv 0) pa_nil)))
      (pss_cons (ps_set (i := 3) nd rfl (.inl rfl) (pe_op op_add pe_int (pe_op op_mod (pv 1) (pe_callB (call_min2 rfl) (by rfl) B.min (by decide +kernel) (pa_cons pe_int (pa_cons (pe_callB call_len_seq (by rfl) B.len PySem.boot_len (pa_cons (pv 0) pa_nil)) pa_nil))))))
      (pss_cons (ps_setLc (i := 4) (own := [("_law_k", 5)]) (g := gName 5) rfl nd rfl rfl (sw_true rfl rfl rfl (by decide +kernel)) (pi_range1 (by rfl) B.range (pa_cons (pv 3) pa_nil)) (blkOk_by (N := N__law_ringed) (sc := defScope s__law_ringed) (by decide +kernel)) (fun _ _ _ _ _ => pg_name (i := 5) nd rfl (.inl rfl)) (fun _ _ _ _ _ => pts_nil) (fun _ _ _ _ _ => (pe_op op_mod (pe_op op_add (pe_op op_fdiv (pv 1) pe_int) (pv 5)) (pe_callB call_len_seq (by rfl) B.len PySem.boot_len (pa_cons (pv 0) pa_nil)))))
      (pss_cons (ps_for PassesOwn.never rfl (pi_range1 (by rfl) B.range (pa_cons (pv 3) pa_nil)) (pg_name (i := 5) nd rfl (.inl rfl)) (pss_one (ps_if (pt_cmpR op_notIn_seq (pe_ix ix_list (pv 4) (pe_op op_mod (pe_op op_add (pv 5) pe_int) (pv 3)) (fun _ _ => rfl)) (pe_ix ix_list (pv 2) (pe_ix ix_list (pv 4) (pv 5) (fun _ _ => rfl)) (fun _ _ => rfl)) (by rfl)) (pss_one (ps_expr (pe_bm PySem.F.plainAttrs_list PySem.F.slot_list_append PySem.F.type_list_append mt_append (pe_ix ix_list (pv 2) (pe_ix ix_list (pv 4) (pv 5) (fun _ _ => rfl)) (fun _ _ => rfl)) (pa_cons (pe_ix ix_list (pv 4) (pe_op op_mod (pe_op op_add (pv 5) pe_int) (pv 3)) (fun _ _ => rfl)) pa_nil)))) pss_nil)))
      (pss_one (ps_ret (pv 2)))))))
theorem df__law_ringed {P : Program} {w : World} {K : PySem.W.Frag} {mg : Str → Option Value} {base : Heap} {f : Addr} {fd : FuncData} (B : Blt mg) (T : XT exNs K mg) (D__law_copied : DF__law_copied P w K mg base) (F : FN__law_ringed K f fd) (g : mg "_law_ringed" = some (.ref f)) : DF__law_ringed P w K mg base :=
  ⟨f, fd, ok__law_ringed B T D__law_copied F, g, F.kp, F.bindsN fun _ _ _ _ _ _ us hl => match us, hl with | [_, _], _ => rfl⟩
/-! _law_bad_row -/
abbrev s__law_bad_row : Stmt := topS 45
theorem sc__law_bad_row : FnScope N__law_bad_row ["_law_row", "_law_many", "_law_cell"] (defScope s__law_bad_row) := ⟨rfl, rfl, rfl, by decide +kernel, rfl, by decide +kernel, by decide +kernel⟩
abbrev FN__law_bad_row (K : PySem.W.Frag) (f : Addr) (fd : FuncData) : Prop := FunD K "_law_bad_row" "_law_bad_row" (defArgs s__law_bad_row) (defBody s__law_bad_row) (defScope s__law_bad_row) [] [] f fd
abbrev DF__law_bad_row (P : Program) (w : World) (K : PySem.W.Frag) (mg : Str → Option Value) (base : Heap) : Prop := Df P w K mg base 1 "_law_bad_row" ["_law_row", "_law_many", "_law_cell"] (sp__law_bad_row K)
theorem len__law_bad_row {K : PySem.W.Frag} {vs : List V} {H : Hp} {Q : VK} {E : XK} (h : sp__law_bad_row K vs H Q E) : vs.length = 3 := by
  unfold sp__law_bad_row at h
  repeat (first | (obtain ⟨rfl, _⟩ := h; rfl) | obtain ⟨_, h⟩ := h)
theorem ok__law_bad_row {P : Program} {w : World} {K : PySem.W.Frag} {mg : Str → Option Value} {base : Heap} {f : Addr} {fd : FuncData} (B : Blt mg) (T : XT exNs K mg) (F : FN__law_bad_row K f fd) : FnOk P w K mg base CX0 1 f fd ["_law_row", "_law_many", "_law_cell"] (sp__law_bad_row K) := by
  have nd := sc__law_bad_row.nd
  refine F.ok sc__law_bad_row (fun vs H Q E h => len__law_bad_row h) (fun cdv A outer s H vs Q E hr h => ⟨t__law_bad_row K, PSs.nox ?_, r__law_bad_row vs H Q E h⟩)
  exact (pss_cons (ps_set (i := 3) nd rfl (.inl rfl) (pe_lst (pa_cons (pv 1) (pa_cons (pe_un un_neg pe_int) (pa_cons pe_bl (pa_cons pe_str (pa_cons pe_non (pa_cons (pe_lst (pa_cons pe_int pa_nil)) (pa_cons (pe_op op_pow pe_int pe_int) pa_nil)))))))))
      (pss_cons (ps_set (i := 4) nd rfl (.inl rfl) (pe_op op_mod (pe_op op_fdiv (pv 2) pe_int) (pe_op op_add (pe_callB call_len_seq (by rfl) B.len PySem.boot_len (pa_cons (pv 0) pa_nil)) pe_int)))
      (pss_cons (ps_if (pt_cmpR op_lt (pe_op op_mod (pv 2) pe_int) pe_int (nomark _)) (pss_one (ps_ret (pe_op op_cat (pe_op op_cat (pe_slice sl_list (pv 0) po_none (po_some (pv 4))) (pe_lst (pa_cons (pe_ix ix_list (pv 3) (pe_op op_mod (pv 2) pe_int) (fun _ _ => rfl)) pa_nil))) (pe_slice sl_list (pv 0) (po_some (pv 4)) po_none)))) pss_nil)
      (pss_one (ps_ret (pe_ix ix_list (pe_lst (pa_cons (pe_op op_rep (pe_lst (pa_cons pe_int pa_nil)) pe_int) (pa_cons (pe_callTy call_tuple_of (by rfl) B.tuple (by decide +kernel) (pa_cons (pv 0) pa_nil)) (pa_cons pe_non pa_nil)))) (pe_op op_sub (pe_op op_mod (pv 2) pe_int) pe_int) (fun _ _ => rfl)))))))
theorem df__law_bad_row {P : Program} {w : World} {K : PySem.W.Frag} {mg : Str → Option Value} {base : Heap} {f : Addr} {fd : FuncData} (B : Blt mg) (T : XT exNs K mg) (F : FN__law_bad_row K f fd) (g : mg "_law_bad_row" = some (.ref f)) : DF__law_bad_row P w K mg base :=
  ⟨f, fd, ok__law_bad_row B T F, g, F.kp, F.bindsN fun _ _ _ _ _ _ us hl => match us, hl with | [_, _, _], _ => rfl⟩
/-! is_number -/
abbrev s_is_number : Stmt := topS 9
theorem sc_is_number : FnScope N_is_number ["thing", "most"] (defScope s_is_number) := ⟨rfl, rfl, rfl, by decide +kernel, rfl, by decide +kernel, by decide +kernel⟩
abbrev FN_is_number (K : PySem.W.Frag) (f : Addr) (fd : FuncData) : Prop := FunD K "is_number" "is_number" (defArgs s_is_number) (defBody s_is_number) (defScope s_is_number) [] [] f fd
abbrev DF_is_number (P : Program) (w : World) (K : PySem.W.Frag) (mg : Str → Option Value) (base : Heap) : Prop := Df P w K mg base 1 "is_number" ["thing", "most"] (sp_is_number K)
theorem len_is_number {K : PySem.W.Frag} {vs : List V} {H : Hp} {Q : VK} {E : XK} (h : sp_is_number K vs H Q E) : vs.length = 2 := by
  unfold sp_is_number at h
  repeat (first | (obtain ⟨rfl, _⟩ := h; rfl) | obtain ⟨_, h⟩ := h)
theorem ok_is_number {P : Program} {w : World} {K : PySem.W.Frag} {mg : Str → Option Value} {base : Heap} {f : Addr} {fd : FuncData} (B : Blt mg) (T : XT exNs K mg) (F : FN_is_number K f fd) : FnOk P w K mg base CX0 1 f fd ["thing", "most"] (sp_is_number K) := by
  have nd := sc_is_number.nd
  refine F.ok sc_is_number (fun vs H Q E h => len_is_number h) (fun cdv A outer s H vs Q E hr h => ⟨t_is_number K, PSs.nox ?_, r_is_number vs H Q E h⟩)
  exact (pss_one (ps_ret (pe_and (pe_callB call_isi (by rfl) B.isinstance (by decide +kernel) (pa_cons (pv 0) (pa_cons (pe_bltn (v := .ty "int") (by rfl) B.int (by decide +kernel) rfl) pa_nil))) (pe_and (pe_not (pe_callB call_isi (by rfl) B.isinstance (by decide +kernel) (pa_cons (pv 0) (pa_cons (pe_bltn (v := .ty "bool") (by rfl) B.bool (by decide +kernel) rfl) pa_nil)))) (pe_one (pe_chain op_le op_le pe_int (pv 0) (pv 1)))))))
theorem df_is_number {P : Program} {w : World} {K : PySem.W.Frag} {mg : Str → Option Value} {base : Heap} {f : Addr} {fd : FuncData} (B : Blt mg) (T : XT exNs K mg) (F : FN_is_number K f fd) (g : mg "is_number" = some (.ref f)) : DF_is_number P w K mg base :=
  ⟨f, fd, ok_is_number B T F, g, F.kp, F.bindsN fun _ _ _ _ _ _ us hl => match us, hl with | [_, _], _ => rfl⟩
/-! is_spot -/
abbrev s_is_spot : Stmt := topS 10
theorem sc_is_spot : FnScope N_is_spot ["thing", "many"] (defScope s_is_spot) := ⟨rfl, rfl, rfl, by decide +kernel, rfl, by decide +kernel, by decide +kernel⟩
abbrev FN_is_spot (K : PySem.W.Frag) (f : Addr) (fd : FuncData) : Prop := FunD K "is_spot" "is_spot" (defArgs s_is_spot) (defBody s_is_spot) (defScope s_is_spot) [] [] f fd
abbrev DF_is_spot (P : Program) (w : World) (K : PySem.W.Frag) (mg : Str → Option Value) (base : Heap) : Prop := Df P w K mg base 2 "is_spot" ["thing", "many"] (sp_is_spot K)
theorem len_is_spot {K : PySem.W.Frag} {vs : List V} {H : Hp} {Q : VK} {E : XK} (h : sp_is_spot K vs H Q E) : vs.length = 2 := by
  unfold sp_is_spot at h
  repeat (first | (obtain ⟨rfl, _⟩ := h; rfl) | obtain ⟨_, h⟩ := h)
theorem ok_is_spot {P : Program} {w : World} {K : PySem.W.Frag} {mg : Str → Option Value} {base : Heap} {f : Addr} {fd : FuncData} (B : Blt mg) (T : XT exNs K mg) (D_is_number : DF_is_number P w K mg base) (F : FN_is_spot K f fd) : FnOk P w K mg base CX0 2 f fd ["thing", "many"] (sp_is_spot K) := by
  have nd := sc_is_spot.nd
  refine F.ok sc_is_spot (fun vs H Q E h => len_is_spot h) (fun cdv A outer s H vs Q E hr h => ⟨t_is_spot K, PSs.nox ?_, r_is_spot vs H Q E h⟩)
  exact (pss_cons (ps_if (PW.pt (pw_or (pt_not (pt_val (pe_callB call_isi (by rfl) B.isinstance (by decide +kernel) (pa_cons (pv 0) (pa_cons (pe_bltn (v := .ty "list") (by rfl) B.list (by decide +kernel) rfl) pa_nil))))) (pw_or1 (pt_not (pt_val (pe_callB (cr_all rfl) (by rfl) B.all (by decide +kernel) (pa_cons (pe_lc (own := [("one", 2)]) (g := gName 2) rfl nd (pi_list (pv 0)) (blkOk_by (N := N_is_spot) (sc := defScope s_is_spot) (by decide +kernel)) (fun _ _ _ _ _ => pg_name (i := 2) nd rfl (.inl rfl)) (fun _ _ _ _ _ => pts_nil) (fun _ _ _ _ _ => (pe_cd D_is_number (hr.mono (by decide)) (by rfl) (pa_cons (pv 2) (pa_cons (pe_op op_sub (pv 1) pe_int) pa_nil))))) pa_nil))))))) (pss_one (ps_ret pe_bl)) pss_nil)
      (pss_one (ps_ret (pe_cmpR op_eq (pe_lenSetN (by rfl) B.len (by rfl) B.set (pv 0)) (pe_callB call_len_seq (by rfl) B.len PySem.boot_len (pa_cons (pv 0) pa_nil)) (nomark _)))))
theorem df_is_spot {P : Program} {w : World} {K : PySem.W.Frag} {mg : Str → Option Value} {base : Heap} {f : Addr} {fd : FuncData} (B : Blt mg) (T : XT exNs K mg) (D_is_number : DF_is_number P w K mg base) (F : FN_is_spot K f fd) (g : mg "is_spot" = some (.ref f)) : DF_is_spot P w K mg base :=
  ⟨f, fd, ok_is_spot B T D_is_number F, g, F.kp, F.bindsN fun _ _ _ _ _ _ us hl => match us, hl with | [_, _], _ => rfl⟩
/-! is_web -/
abbrev s_is_web : Stmt := topS 11
theorem sc_is_web : FnScope N_is_web ["thing"] (defScope s_is_web) := ⟨rfl, rfl, rfl, by decide +kernel, rfl, by decide +kernel, by decide +kernel⟩
abbrev FN_is_web (K : PySem.W.Frag) (f : Addr) (fd : FuncData) : Prop := FunD K "is_web" "is_web" (defArgs s_is_web) (defBody s_is_web) (defScope s_is_web) [] [] f fd
abbrev DF_is_web (P : Program) (w : World) (K : PySem.W.Frag) (mg : Str → Option Value) (base : Heap) : Prop := Df P w K mg base 3 "is_web" ["thing"] (sp_is_web K)
theorem len_is_web {K : PySem.W.Frag} {vs : List V} {H : Hp} {Q : VK} {E : XK} (h : sp_is_web K vs H Q E) : vs.length = 1 := by
  unfold sp_is_web at h
  repeat (first | (obtain ⟨rfl, _⟩ := h; rfl) | obtain ⟨_, h⟩ := h)
theorem ok_is_web {P : Program} {w : World} {K : PySem.W.Frag} {mg : Str → Option Value} {base : Heap} {f : Addr} {fd : FuncData} (B : Blt mg) (T : XT exNs K mg) {tk_MOST_SPOTS : Tok} (c_MOST_SPOTS : mg "MOST_SPOTS" = some (.int 200 tk_MOST_SPOTS)) (D_is_spot : DF_is_spot P w K mg base) (F : FN_is_web K f fd) : FnOk P w K mg base CX0 3 f fd ["thing"] (sp_is_web K) := by
  have nd := sc_is_web.nd
  refine F.ok sc_is_web (fun vs H Q E h => len_is_web h) (fun cdv A outer s H vs Q E hr h => ⟨t_is_web K, PSs.nox ?_, r_is_web vs H Q E h⟩)
  exact (pss_cons (ps_if (PW.pt (pw_or (pt_not (pt_val (pe_callB call_isi (by rfl) B.isinstance (by decide +kernel) (pa_cons (pv 0) (pa_cons (pe_bltn (v := .ty "list") (by rfl) B.list (by decide +kernel) rfl) pa_nil))))) (pw_or1 (pt_not (pt_chain op_le op_le pe_int (pe_callB call_len_seq (by rfl) B.len PySem.boot_len (pa_cons (pv 0) pa_nil)) (pe_glob (by rfl) c_MOST_SPOTS ⟨_, rfl⟩)))))) (pss_one (ps_ret pe_bl)) pss_nil)
      (pss_one (ps_ret (pe_callB (cr_all rfl) (by rfl) B.all (by decide +kernel) (pa_cons (pe_lc (own := [("spot", 1)]) (g := gName 1) rfl nd (pi_list (pv 0)) (blkOk_by (N := N_is_web) (sc := defScope s_is_web) (by decide +kernel)) (fun _ _ _ _ _ => pg_name (i := 1) nd rfl (.inl rfl)) (fun _ _ _ _ _ => pts_nil) (fun _ _ _ _ _ => (pe_cd D_is_spot (hr.mono (by decide)) (by rfl) (pa_cons (pv 1) (pa_cons (pe_callB call_len_seq (by rfl) B.len PySem.boot_len (pa_cons (pv 0) pa_nil)) pa_nil))))) pa_nil)))))
theorem df_is_web {P : Program} {w : World} {K : PySem.W.Frag} {mg : Str → Option Value} {base : Heap} {f : Addr} {fd : FuncData} (B : Blt mg) (T : XT exNs K mg) {tk_MOST_SPOTS : Tok} (c_MOST_SPOTS : mg "MOST_SPOTS" = some (.int 200 tk_MOST_SPOTS)) (D_is_spot : DF_is_spot P w K mg base) (F : FN_is_web K f fd) (g : mg "is_web" = some (.ref f)) : DF_is_web P w K mg base :=
  ⟨f, fd, ok_is_web B T c_MOST_SPOTS D_is_spot F, g, F.kp, F.bindsN fun _ _ _ _ _ _ us hl => match us, hl with | [_], _ => rfl⟩
/-! need_form -/
abbrev s_need_form : Stmt := topS 12
theorem sc_need_form : FnScope N_need_form ["web"] (defScope s_need_form) := ⟨rfl, rfl, rfl, by decide +kernel, rfl, by decide +kernel, by decide +kernel⟩
abbrev FN_need_form (K : PySem.W.Frag) (f : Addr) (fd : FuncData) : Prop := FunD K "need_form" "need_form" (defArgs s_need_form) (defBody s_need_form) (defScope s_need_form) [] [] f fd
abbrev DF_need_form (P : Program) (w : World) (K : PySem.W.Frag) (mg : Str → Option Value) (base : Heap) : Prop := DfX P w K mg base 4 "need_form" ["web"] (sp_need_form K)
theorem len_need_form {K : PySem.W.Frag} {vs : List V} {H : Hp} {Q : VK} {E : XK} (h : sp_need_form K vs H Q E) : vs.length = 1 := by
  unfold sp_need_form at h
  repeat (first | (obtain ⟨rfl, _⟩ := h; rfl) | obtain ⟨_, h⟩ := h)
theorem ok_need_form {P : Program} {w : World} {K : PySem.W.Frag} {mg : Str → Option Value} {base : Heap} {f : Addr} {fd : FuncData} (B : Blt mg) (T : XT exNs K mg) (D_is_web : DF_is_web P w K mg base) (F : FN_need_form K f fd) : FnOk P w K mg base (L2.CX P w) 4 f fd ["web"] (sp_need_form K) := by
  have nd := sc_need_form.nd
  refine F.ok sc_need_form (fun vs H Q E h => len_need_form h) (fun cdv A outer s H vs Q E hr h => ⟨t_need_form K E, ?_, r_need_form vs H Q E h⟩)
  exact (pss_one (ps_if (pt_not (pt_val (pe_cd D_is_web (hr.mono (by decide)) (by rfl) (pa_cons (pv 0) pa_nil)))) (pss_one (ps_raiseC T (x := "NoWeb") (by decide) rfl (takes_of rfl rfl rfl rfl) (by rfl))) pss_nil))
theorem df_need_form {P : Program} {w : World} {K : PySem.W.Frag} {mg : Str → Option Value} {base : Heap} {f : Addr} {fd : FuncData} (B : Blt mg) (T : XT exNs K mg) (D_is_web : DF_is_web P w K mg base) (F : FN_need_form K f fd) (g : mg "need_form" = some (.ref f)) : DF_need_form P w K mg base :=
  ⟨f, fd, ok_need_form B T D_is_web F, g, F.kp, F.bindsN fun _ _ _ _ _ _ us hl => match us, hl with | [_], _ => rfl⟩
/-! play_order -/
abbrev s_play_order : Stmt := topS 13
theorem sc_play_order : FnScope N_play_order ["web"] (defScope s_play_order) := ⟨rfl, rfl, rfl, by decide +kernel, rfl, by decide +kernel, by decide +kernel⟩
abbrev FN_play_order (K : PySem.W.Frag) (f : Addr) (fd : FuncData) : Prop := FunD K "play_order" "play_order" (defArgs s_play_order) (defBody s_play_order) (defScope s_play_order) [] [] f fd
abbrev DF_play_order (P : Program) (w : World) (K : PySem.W.Frag) (mg : Str → Option Value) (base : Heap) : Prop := Df P w K mg base 1 "play_order" ["web"] (sp_play_order K)
theorem len_play_order {K : PySem.W.Frag} {vs : List V} {H : Hp} {Q : VK} {E : XK} (h : sp_play_order K vs H Q E) : vs.length = 1 := by
  unfold sp_play_order at h
  repeat (first | (obtain ⟨rfl, _⟩ := h; rfl) | obtain ⟨_, h⟩ := h)
theorem ok_play_order {P : Program} {w : World} {K : PySem.W.Frag} {mg : Str → Option Value} {base : Heap} {f : Addr} {fd : FuncData} (B : Blt mg) (T : XT exNs K mg) (F : FN_play_order K f fd) : FnOk P w K mg base CX0 1 f fd ["web"] (sp_play_order K) := by
  have nd := sc_play_order.nd
  refine F.ok sc_play_order (fun vs H Q E h => len_play_order h) (fun cdv A outer s H vs Q E hr h => ⟨t_play_order K, PSs.nox ?_, r_play_order vs H Q E h⟩)
  exact (pss_cons (ps_set (i := 1) nd rfl (.inr rfl) (pe_lc (own := [("spot", 4)]) (g := gName 4) rfl nd (pi_list (pv 0)) (blkOk_by (N := N_play_order) (sc := defScope s_play_order) (by decide +kernel)) (fun _ _ _ _ _ => pg_name (i := 4) nd rfl (.inl rfl)) (fun _ _ _ _ _ => pts_nil) (fun _ _ _ _ _ => (pe_callB call_len_seq (by rfl) B.len PySem.boot_len (pa_cons (pv 4) pa_nil)))))
      (pss_cons (ps_setLc (i := 2) (own := [("spot", 4)]) (g := gName 4) rfl nd rfl rfl (sw_true rfl rfl rfl (by decide +kernel)) (pi_list (pv 0)) (blkOk_by (N := N_play_order) (sc := defScope s_play_order) (by decide +kernel)) (fun _ _ _ _ _ => pg_name (i := 4) nd rfl (.inl rfl)) (fun _ _ _ _ _ => pts_nil) (fun _ _ _ _ _ => (pe_lst pa_nil)))
      (pss_cons (ps_for PassesOwn.never rfl (pi_enum (by rfl) B.enumerate (pa_cons (pv 0) pa_nil)) (pg_tup rfl (pgs_cons (pg_name (i := 3) nd rfl (.inl rfl)) (pgs_cons (pg_name (i := 4) nd rfl (.inl rfl)) pgs_nil))) (pss_one (ps_for PassesOwn.never rfl (pi_list (pv 4)) (pg_name (i := 5) nd rfl (.inl rfl)) (pss_one (ps_expr (pe_bm PySem.F.plainAttrs_list PySem.F.slot_list_append PySem.F.type_list_append mt_append (pe_ix ix_list (pv 2) (pv 5) (fun _ _ => rfl)) (pa_cons (pv 3) pa_nil)))))))
      (pss_cons (ps_set (i := 6) nd rfl (.inl rfl) (pe_lst pa_nil))
      (pss_cons (ps_setLc (i := 7) (own := [("at", 3)]) (g := gName 3) rfl nd rfl rfl (sw_true rfl rfl rfl (by decide +kernel)) (pi_range1 (by rfl) B.range (pa_cons (pe_callB call_len_seq (by rfl) B.len PySem.boot_len (pa_cons (pv 0) pa_nil)) pa_nil)) (blkOk_by (N := N_play_order) (sc := defScope s_play_order) (by decide +kernel)) (fun _ _ _ _ _ => pg_name (i := 3) nd rfl (.inl rfl)) (fun _ _ _ _ _ => (pts_one (pt_cmpR op_eq (pe_ix ix_list (pv 1) (pv 3) (fun _ _ => rfl)) pe_int (nomark _)))) (fun _ _ _ _ _ => (pv 3)))
      (pss_cons (ps_while PassesOwn.never (pt_cmpR op_gt (pe_callB call_len_seq (by rfl) B.len PySem.boot_len (pa_cons (pv 7) pa_nil)) pe_int (nomark _)) (pss_cons (ps_set (i := 4) nd rfl (.inl rfl) (pe_bm0 PySem.F.plainAttrs_list PySem.F.slot_list_pop PySem.F.type_list_pop mt_pop (pv 7)))
      (pss_cons (ps_expr (pe_bm PySem.F.plainAttrs_list PySem.F.slot_list_append PySem.F.type_list_append mt_append (pv 6) (pa_cons (pv 4) pa_nil)))
      (pss_one (ps_for PassesOwn.never rfl (pi_list (pe_ix ix_list (pv 2) (pv 4) (fun _ _ => rfl))) (pg_name (i := 3) nd rfl (.inl rfl)) (pss_cons (ps_asg (pe_op op_sub (pe_ix ix_list (pv 1) (pv 3) (fun _ _ => rfl)) pe_int) (pg_sub (pv 1) (pv 3) set_list))
      (pss_one (ps_if (pt_cmpR op_eq (pe_ix ix_list (pv 1) (pv 3) (fun _ _ => rfl)) pe_int (nomark _)) (pss_one (ps_expr (pe_bm PySem.F.plainAttrs_list PySem.F.slot_list_append PySem.F.type_list_append mt_append (pv 7) (pa_cons (pv 3) pa_nil)))) pss_nil))))))))
      (pss_one (ps_ret (pv 6)))))))))
theorem df_play_order {P : Program} {w : World} {K : PySem.W.Frag} {mg : Str → Option Value} {base : Heap} {f : Addr} {fd : FuncData} (B : Blt mg) (T : XT exNs K mg) (F : FN_play_order K f fd) (g : mg "play_order" = some (.ref f)) : DF_play_order P w K mg base :=
  ⟨f, fd, ok_play_order B T F, g, F.kp, F.bindsN fun _ _ _ _ _ _ us hl => match us, hl with | [_], _ => rfl⟩
/-! ring_in -/
abbrev s_ring_in : Stmt := topS 14
theorem sc_ring_in : FnScope N_ring_in ["web"] (defScope s_ring_in) := ⟨rfl, rfl, rfl, by decide +kernel, rfl, by decide +kernel, by decide +kernel⟩
abbrev FN_ring_in (K : PySem.W.Frag) (f : Addr) (fd : FuncData) : Prop := FunD K "ring_in" "ring_in" (defArgs s_ring_in) (defBody s_ring_in) (defScope s_ring_in) [] [] f fd
abbrev DF_ring_in (P : Program) (w : World) (K : PySem.W.Frag) (mg : Str → Option Value) (base : Heap) : Prop := DfX P w K mg base 5 "ring_in" ["web"] (sp_ring_in K)
theorem len_ring_in {K : PySem.W.Frag} {vs : List V} {H : Hp} {Q : VK} {E : XK} (h : sp_ring_in K vs H Q E) : vs.length = 1 := by
  unfold sp_ring_in at h
  repeat (first | (obtain ⟨rfl, _⟩ := h; rfl) | obtain ⟨_, h⟩ := h)
theorem ok_ring_in {P : Program} {w : World} {K : PySem.W.Frag} {mg : Str → Option Value} {base : Heap} {f : Addr} {fd : FuncData} (B : Blt mg) (T : XT exNs K mg) (D_need_form : DF_need_form P w K mg base) (D_play_order : DF_play_order P w K mg base) (F : FN_ring_in K f fd) : FnOk P w K mg base (L2.CX P w) 5 f fd ["web"] (sp_ring_in K) := by
  have nd := sc_ring_in.nd
  refine F.ok sc_ring_in (fun vs H Q E h => len_ring_in h) (fun cdv A outer s H vs Q E hr h => ⟨t_ring_in K E, ?_, r_ring_in vs H Q E h⟩)
  exact (pss_cons (ps_expr (pe_cdE D_need_form (takes_of rfl rfl rfl rfl) (hr.mono (by decide)) (by rfl) (pa_cons (pv 0) pa_nil)))
      (PSs.nox (pss_cons (ps_set (i := 1) nd rfl (.inr rfl) (pe_cd D_play_order (hr.mono (by decide)) (by rfl) (pa_cons (pv 0) pa_nil)))
      (pss_cons (ps_set (i := 2) nd rfl (.inr rfl) (pe_lc (own := [("at", 5)]) (g := gName 5) rfl nd (pi_range1 (by rfl) B.range (pa_cons (pe_callB call_len_seq (by rfl) B.len PySem.boot_len (pa_cons (pv 0) pa_nil)) pa_nil)) (blkOk_by (N := N_ring_in) (sc := defScope s_ring_in) (by decide +kernel)) (fun _ _ _ _ _ => pg_name (i := 5) nd rfl (.inl rfl)) (fun _ _ _ _ _ => (pts_one (pt_cmpR op_notIn_seq (pv 5) (pv 1) (by rfl)))) (fun _ _ _ _ _ => (pv 5))))
      (pss_cons (ps_if (pt_cmpR op_eq (pe_callB call_len_seq (by rfl) B.len PySem.boot_len (pa_cons (pv 2) pa_nil)) pe_int (nomark _)) (pss_one (ps_ret pe_non)) pss_nil)
      (pss_cons (ps_set (i := 3) nd rfl (.inl rfl) (pe_lst (pa_cons (pe_ix ix_list (pv 2) pe_int (fun _ _ => rfl)) pa_nil)))
      (pss_cons (ps_while PassesOwn.never (pt_cmpR op_gt (pe_callB call_len_seq (by rfl) B.len PySem.boot_len (pa_cons (pv 3) pa_nil)) pe_int (nomark _)) (pss_cons (ps_setLc (i := 4) (own := [("other", 6)]) (g := gName 6) rfl nd rfl rfl (sw_true rfl rfl rfl (by decide +kernel)) (pi_list (pe_ix ix_list (pv 0) (pe_ix ix_list (pv 3) (pe_op op_sub (pe_callB call_len_seq (by rfl) B.len PySem.boot_len (pa_cons (pv 3) pa_nil)) pe_int) (fun _ _ => rfl)) (fun _ _ => rfl))) (blkOk_by (N := N_ring_in) (sc := defScope s_ring_in) (by decide +kernel)) (fun _ _ _ _ _ => pg_name (i := 6) nd rfl (.inl rfl)) (fun _ _ _ _ _ => (pts_one (pt_cmpR op_in_seq (pv 6) (pv 2) (by rfl)))) (fun _ _ _ _ _ => (pv 6)))
      (pss_cons (ps_if (pt_cmpR op_in_seq (pe_ix ix_list (pv 4) pe_int (fun _ _ => rfl)) (pv 3) (by rfl)) (pss_one (ps_ret (pe_slice sl_list (pv 3) (po_some (pe_bm PySem.F.plainAttrs_list PySem.F.slot_list_index PySem.F.type_list_index mt_index (pv 3) (pa_cons (pe_ix ix_list (pv 4) pe_int (fun _ _ => rfl)) pa_nil))) po_none))) pss_nil)
      (pss_one (ps_expr (pe_bm PySem.F.plainAttrs_list PySem.F.slot_list_append PySem.F.type_list_append mt_append (pv 3) (pa_cons (pe_ix ix_list (pv 4) pe_int (fun _ _ => rfl)) pa_nil)))))))
      (pss_one (ps_ret pe_non)))))))))
theorem df_ring_in {P : Program} {w : World} {K : PySem.W.Frag} {mg : Str → Option Value} {base : Heap} {f : Addr} {fd : FuncData} (B : Blt mg) (T : XT exNs K mg) (D_need_form : DF_need_form P w K mg base) (D_play_order : DF_play_order P w K mg base) (F : FN_ring_in K f fd) (g : mg "ring_in" = some (.ref f)) : DF_ring_in P w K mg base :=
  ⟨f, fd, ok_ring_in B T D_need_form D_play_order F, g, F.kp, F.bindsN fun _ _ _ _ _ _ us hl => match us, hl with | [_], _ => rfl⟩
/-! need_game -/
abbrev s_need_game : Stmt := topS 15
theorem sc_need_game : FnScope N_need_game ["web"] (defScope s_need_game) := ⟨rfl, rfl, rfl, by decide +kernel, rfl, by decide +kernel, by decide +kernel⟩
abbrev FN_need_game (K : PySem.W.Frag) (f : Addr) (fd : FuncData) : Prop := FunD K "need_game" "need_game" (defArgs s_need_game) (defBody s_need_game) (defScope s_need_game) [] [] f fd
abbrev DF_need_game (P : Program) (w : World) (K : PySem.W.Frag) (mg : Str → Option Value) (base : Heap) : Prop := DfX P w K mg base 5 "need_game" ["web"] (sp_need_game K)
theorem len_need_game {K : PySem.W.Frag} {vs : List V} {H : Hp} {Q : VK} {E : XK} (h : sp_need_game K vs H Q E) : vs.length = 1 := by
  unfold sp_need_game at h
  repeat (first | (obtain ⟨rfl, _⟩ := h; rfl) | obtain ⟨_, h⟩ := h)
theorem ok_need_game {P : Program} {w : World} {K : PySem.W.Frag} {mg : Str → Option Value} {base : Heap} {f : Addr} {fd : FuncData} (B : Blt mg) (T : XT exNs K mg) (D_need_form : DF_need_form P w K mg base) (D_play_order : DF_play_order P w K mg base) (F : FN_need_game K f fd) : FnOk P w K mg base (L2.CX P w) 5 f fd ["web"] (sp_need_game K) := by
  have nd := sc_need_game.nd
  refine F.ok sc_need_game (fun vs H Q E h => len_need_game h) (fun cdv A outer s H vs Q E hr h => ⟨t_need_game K E, ?_, r_need_game vs H Q E h⟩)
  exact (pss_cons (ps_expr (pe_cdE D_need_form (takes_of rfl rfl rfl rfl) (hr.mono (by decide)) (by rfl) (pa_cons (pv 0) pa_nil)))
      (pss_one (ps_if (pt_cmpR op_lt (pe_callB call_len_seq (by rfl) B.len PySem.boot_len (pa_cons (pe_cd D_play_order (hr.mono (by decide)) (by rfl) (pa_cons (pv 0) pa_nil)) pa_nil)) (pe_callB call_len_seq (by rfl) B.len PySem.boot_len (pa_cons (pv 0) pa_nil)) (nomark _)) (pss_one (ps_raiseC T (x := "Ringed") (by decide) rfl (takes_of rfl rfl rfl rfl) (by rfl))) pss_nil)))
theorem df_need_game {P : Program} {w : World} {K : PySem.W.Frag} {mg : Str → Option Value} {base : Heap} {f : Addr} {fd : FuncData} (B : Blt mg) (T : XT exNs K mg) (D_need_form : DF_need_form P w K mg base) (D_play_order : DF_play_order P w K mg base) (F : FN_need_game K f fd) (g : mg "need_game" = some (.ref f)) : DF_need_game P w K mg base :=
  ⟨f, fd, ok_need_game B T D_need_form D_play_order F, g, F.kp, F.bindsN fun _ _ _ _ _ _ us hl => match us, hl with | [_], _ => rfl⟩
/-! least_missing -/
abbrev s_least_missing : Stmt := topS 19
theorem sc_least_missing : FnScope N_least_missing ["numbers"] (defScope s_least_missing) := ⟨rfl, rfl, rfl, by decide +kernel, rfl, by decide +kernel, by decide +kernel⟩
abbrev FN_least_missing (K : PySem.W.Frag) (f : Addr) (fd : FuncData) : Prop := FunD K "least_missing" "least_missing" (defArgs s_least_missing) (defBody s_least_missing) (defScope s_least_missing) [] [] f fd
abbrev DF_least_missing (P : Program) (w : World) (K : PySem.W.Frag) (mg : Str → Option Value) (base : Heap) : Prop := Df P w K mg base 1 "least_missing" ["numbers"] (sp_least_missing K)
theorem len_least_missing {K : PySem.W.Frag} {vs : List V} {H : Hp} {Q : VK} {E : XK} (h : sp_least_missing K vs H Q E) : vs.length = 1 := by
  unfold sp_least_missing at h
  repeat (first | (obtain ⟨rfl, _⟩ := h; rfl) | obtain ⟨_, h⟩ := h)
theorem ok_least_missing {P : Program} {w : World} {K : PySem.W.Frag} {mg : Str → Option Value} {base : Heap} {f : Addr} {fd : FuncData} (B : Blt mg) (T : XT exNs K mg) (F : FN_least_missing K f fd) : FnOk P w K mg base CX0 1 f fd ["numbers"] (sp_least_missing K) := by
  have nd := sc_least_missing.nd
  refine F.ok sc_least_missing (fun vs H Q E h => len_least_missing h) (fun cdv A outer s H vs Q E hr h => ⟨t_least_missing K, PSs.nox ?_, r_least_missing vs H Q E h⟩)
  exact (pss_cons (ps_set (i := 1) nd rfl (.inl rfl) pe_int)
      (pss_cons (ps_while PassesOwn.never (pt_cmpR op_in_seq (pv 1) (pv 0) (by rfl)) (pss_one (ps_set (i := 1) nd rfl (.inl rfl) (pe_op op_add (pv 1) pe_int))))
      (pss_one (ps_ret (pv 1)))))
theorem df_least_missing {P : Program} {w : World} {K : PySem.W.Frag} {mg : Str → Option Value} {base : Heap} {f : Addr} {fd : FuncData} (B : Blt mg) (T : XT exNs K mg) (F : FN_least_missing K f fd) (g : mg "least_missing" = some (.ref f)) : DF_least_missing P w K mg base :=
  ⟨f, fd, ok_least_missing B T F, g, F.kp, F.bindsN fun _ _ _ _ _ _ us hl => match us, hl with | [_], _ => rfl⟩
/-! numbers_of -/
abbrev s_numbers_of : Stmt := topS 20
theorem sc_numbers_of : FnScope N_numbers_of ["web"] (defScope s_numbers_of) := ⟨rfl, rfl, rfl, by decide +kernel, rfl, by decide +kernel, by decide +kernel⟩
abbrev FN_numbers_of (K : PySem.W.Frag) (f : Addr) (fd : FuncData) : Prop := FunD K "numbers_of" "numbers_of" (defArgs s_numbers_of) (defBody s_numbers_of) (defScope s_numbers_of) [] [] f fd
abbrev DF_numbers_of (P : Program) (w : World) (K : PySem.W.Frag) (mg : Str → Option Value) (base : Heap) : Prop := DfX P w K mg base 6 "numbers_of" ["web"] (sp_numbers_of K)
theorem len_numbers_of {K : PySem.W.Frag} {vs : List V} {H : Hp} {Q : VK} {E : XK} (h : sp_numbers_of K vs H Q E) : vs.length = 1 := by
  unfold sp_numbers_of at h
  repeat (first | (obtain ⟨rfl, _⟩ := h; rfl) | obtain ⟨_, h⟩ := h)
theorem ok_numbers_of {P : Program} {w : World} {K : PySem.W.Frag} {mg : Str → Option Value} {base : Heap} {f : Addr} {fd : FuncData} (B : Blt mg) (T : XT exNs K mg) (D_need_game : DF_need_game P w K mg base) (D_play_order : DF_play_order P w K mg base) (D_least_missing : DF_least_missing P w K mg base) (F : FN_numbers_of K f fd) : FnOk P w K mg base (L2.CX P w) 6 f fd ["web"] (sp_numbers_of K) := by
  have nd := sc_numbers_of.nd
  refine F.ok sc_numbers_of (fun vs H Q E h => len_numbers_of h) (fun cdv A outer s H vs Q E hr h => ⟨t_numbers_of K E, ?_, r_numbers_of vs H Q E h⟩)
  exact (pss_cons (ps_expr (pe_cdE D_need_game (takes_of rfl rfl rfl rfl) (hr.mono (by decide)) (by rfl) (pa_cons (pv 0) pa_nil)))
      (PSs.nox (pss_cons (ps_set (i := 1) nd rfl (.inr rfl) (pe_op op_rep (pe_lst (pa_cons pe_int pa_nil)) (pe_callB call_len_seq (by rfl) B.len PySem.boot_len (pa_cons (pv 0) pa_nil))))
      (pss_cons (ps_for PassesOwn.never rfl (pi_list (pe_cd D_play_order (hr.mono (by decide)) (by rfl) (pa_cons (pv 0) pa_nil))) (pg_name (i := 2) nd rfl (.inl rfl)) (pss_one (ps_asg (pe_cd D_least_missing (hr.mono (by decide)) (by rfl) (pa_cons (pe_lc (own := [("other", 3)]) (g := gName 3) rfl nd (pi_list (pe_ix ix_list (pv 0) (pv 2) (fun _ _ => rfl))) (blkOk_by (N := N_numbers_of) (sc := defScope s_numbers_of) (by decide +kernel)) (fun _ _ _ _ _ => pg_name (i := 3) nd rfl (.inl rfl)) (fun _ _ _ _ _ => pts_nil) (fun _ _ _ _ _ => (pe_ix ix_list (pv 1) (pv 3) (fun _ _ => rfl)))) pa_nil)) (pg_sub (pv 1) (pv 2) set_list))))
      (pss_one (ps_ret (pv 1)))))))
theorem df_numbers_of {P : Program} {w : World} {K : PySem.W.Frag} {mg : Str → Option Value} {base : Heap} {f : Addr} {fd : FuncData} (B : Blt mg) (T : XT exNs K mg) (D_need_game : DF_need_game P w K mg base) (D_play_order : DF_play_order P w K mg base) (D_least_missing : DF_least_missing P w K mg base) (F : FN_numbers_of K f fd) (g : mg "numbers_of" = some (.ref f)) : DF_numbers_of P w K mg base :=
  ⟨f, fd, ok_numbers_of B T D_need_game D_play_order D_least_missing F, g, F.kp, F.bindsN fun _ _ _ _ _ _ us hl => match us, hl with | [_], _ => rfl⟩
/-! lengths_of -/
abbrev s_lengths_of : Stmt := topS 21
theorem sc_lengths_of : FnScope N_lengths_of ["web"] (defScope s_lengths_of) := ⟨rfl, rfl, rfl, by decide +kernel, rfl, by decide +kernel, by decide +kernel⟩
abbrev FN_lengths_of (K : PySem.W.Frag) (f : Addr) (fd : FuncData) : Prop := FunD K "lengths_of" "lengths_of" (defArgs s_lengths_of) (defBody s_lengths_of) (defScope s_lengths_of) [] [] f fd
abbrev DF_lengths_of (P : Program) (w : World) (K : PySem.W.Frag) (mg : Str → Option Value) (base : Heap) : Prop := DfX P w K mg base 6 "lengths_of" ["web"] (sp_lengths_of K)
theorem len_lengths_of {K : PySem.W.Frag} {vs : List V} {H : Hp} {Q : VK} {E : XK} (h : sp_lengths_of K vs H Q E) : vs.length = 1 := by
  unfold sp_lengths_of at h
  repeat (first | (obtain ⟨rfl, _⟩ := h; rfl) | obtain ⟨_, h⟩ := h)
theorem ok_lengths_of {P : Program} {w : World} {K : PySem.W.Frag} {mg : Str → Option Value} {base : Heap} {f : Addr} {fd : FuncData} (B : Blt mg) (T : XT exNs K mg) (D_need_game : DF_need_game P w K mg base) (D_play_order : DF_play_order P w K mg base) (F : FN_lengths_of K f fd) : FnOk P w K mg base (L2.CX P w) 6 f fd ["web"] (sp_lengths_of K) := by
  have nd := sc_lengths_of.nd
  refine F.ok sc_lengths_of (fun vs H Q E h => len_lengths_of h) (fun cdv A outer s H vs Q E hr h => ⟨t_lengths_of K E, ?_, r_lengths_of vs H Q E h⟩)
  exact (pss_cons (ps_expr (pe_cdE D_need_game (takes_of rfl rfl rfl rfl) (hr.mono (by decide)) (by rfl) (pa_cons (pv 0) pa_nil)))
      (PSs.nox (pss_cons (ps_set (i := 1) nd rfl (.inr rfl) (pe_op op_rep (pe_lst (pa_cons pe_int pa_nil)) (pe_callB call_len_seq (by rfl) B.len PySem.boot_len (pa_cons (pv 0) pa_nil))))
      (pss_cons (ps_for PassesOwn.never rfl (pi_list (pe_cd D_play_order (hr.mono (by decide)) (by rfl) (pa_cons (pv 0) pa_nil))) (pg_name (i := 2) nd rfl (.inl rfl)) (pss_one (ps_if (pt_cmpR op_gt (pe_callB call_len_seq (by rfl) B.len PySem.boot_len (pa_cons (pe_ix ix_list (pv 0) (pv 2) (fun _ _ => rfl)) pa_nil)) pe_int (nomark _)) (pss_one (ps_asg (pe_op op_add pe_int (pe_callB (cr_max rfl) (by rfl) B.max (by decide +kernel) (pa_cons (pe_lc (own := [("other", 3)]) (g := gName 3) rfl nd (pi_list (pe_ix ix_list (pv 0) (pv 2) (fun _ _ => rfl))) (blkOk_by (N := N_lengths_of) (sc := defScope s_lengths_of) (by decide +kernel)) (fun _ _ _ _ _ => pg_name (i := 3) nd rfl (.inl rfl)) (fun _ _ _ _ _ => pts_nil) (fun _ _ _ _ _ => (pe_ix ix_list (pv 1) (pv 3) (fun _ _ => rfl)))) pa_nil))) (pg_sub (pv 1) (pv 2) set_list))) pss_nil)))
      (pss_one (ps_ret (pv 1)))))))
theorem df_lengths_of {P : Program} {w : World} {K : PySem.W.Frag} {mg : Str → Option Value} {base : Heap} {f : Addr} {fd : FuncData} (B : Blt mg) (T : XT exNs K mg) (D_need_game : DF_need_game P w K mg base) (D_play_order : DF_play_order P w K mg base) (F : FN_lengths_of K f fd) (g : mg "lengths_of" = some (.ref f)) : DF_lengths_of P w K mg base :=
  ⟨f, fd, ok_lengths_of B T D_need_game D_play_order F, g, F.kp, F.bindsN fun _ _ _ _ _ _ us hl => match us, hl with | [_], _ => rfl⟩
/-! shown_moves -/
abbrev s_shown_moves : Stmt := topS 22
theorem sc_shown_moves : FnScope N_shown_moves ["web", "spot"] (defScope s_shown_moves) := ⟨rfl, rfl, rfl, by decide +kernel, rfl, by decide +kernel, by decide +kernel⟩
abbrev FN_shown_moves (K : PySem.W.Frag) (f : Addr) (fd : FuncData) : Prop := FunD K "shown_moves" "shown_moves" (defArgs s_shown_moves) (defBody s_shown_moves) (defScope s_shown_moves) [] [] f fd
abbrev DF_shown_moves (P : Program) (w : World) (K : PySem.W.Frag) (mg : Str → Option Value) (base : Heap) : Prop := DfX P w K mg base 7 "shown_moves" ["web", "spot"] (sp_shown_moves K)
theorem len_shown_moves {K : PySem.W.Frag} {vs : List V} {H : Hp} {Q : VK} {E : XK} (h : sp_shown_moves K vs H Q E) : vs.length = 2 := by
  unfold sp_shown_moves at h
  repeat (first | (obtain ⟨rfl, _⟩ := h; rfl) | obtain ⟨_, h⟩ := h)
theorem ok_shown_moves {P : Program} {w : World} {K : PySem.W.Frag} {mg : Str → Option Value} {base : Heap} {f : Addr} {fd : FuncData} (B : Blt mg) (T : XT exNs K mg) (D_numbers_of : DF_numbers_of P w K mg base) (F : FN_shown_moves K f fd) : FnOk P w K mg base (L2.CX P w) 7 f fd ["web", "spot"] (sp_shown_moves K) := by
  have nd := sc_shown_moves.nd
  refine F.ok sc_shown_moves (fun vs H Q E h => len_shown_moves h) (fun cdv A outer s H vs Q E hr h => ⟨t_shown_moves K E, ?_, r_shown_moves vs H Q E h⟩)
  exact (pss_cons (ps_set (i := 2) nd rfl (.inr rfl) (pe_cdE D_numbers_of (takes_of rfl rfl rfl rfl) (hr.mono (by decide)) (by rfl) (pa_cons (pv 0) pa_nil)))
      (PSs.nox (pss_cons (ps_set (i := 3) nd rfl (.inr rfl) (pe_lc (own := [("other", 4)]) (g := gName 4) rfl nd (pi_list (pe_ix ix_list (pv 0) (pv 1) (fun _ _ => rfl))) (blkOk_by (N := N_shown_moves) (sc := defScope s_shown_moves) (by decide +kernel)) (fun _ _ _ _ _ => pg_name (i := 4) nd rfl (.inl rfl)) (fun _ _ _ _ _ => pts_nil) (fun _ _ _ _ _ => (pe_ix ix_list (pv 2) (pv 4) (fun _ _ => rfl)))))
      (pss_one (ps_ret (pe_lc (own := [("number", 5)]) (g := gName 5) rfl nd (pi_range1 (by rfl) B.range (pa_cons (pe_ix ix_list (pv 2) (pv 1) (fun _ _ => rfl)) pa_nil)) (blkOk_by (N := N_shown_moves) (sc := defScope s_shown_moves) (by decide +kernel)) (fun _ _ _ _ _ => pg_name (i := 5) nd rfl (.inl rfl)) (fun _ _ _ _ _ => pts_nil) (fun _ _ _ _ _ => (pe_ix ix_list (pe_ix ix_list (pv 0) (pv 1) (fun _ _ => rfl)) (pe_bm PySem.F.plainAttrs_list PySem.F.slot_list_index PySem.F.type_list_index mt_index (pv 3) (pa_cons (pv 5) pa_nil)) (fun _ _ => rfl)))))))))
theorem df_shown_moves {P : Program} {w : World} {K : PySem.W.Frag} {mg : Str → Option Value} {base : Heap} {f : Addr} {fd : FuncData} (B : Blt mg) (T : XT exNs K mg) (D_numbers_of : DF_numbers_of P w K mg base) (F : FN_shown_moves K f fd) (g : mg "shown_moves" = some (.ref f)) : DF_shown_moves P w K mg base :=
  ⟨f, fd, ok_shown_moves B T D_numbers_of F, g, F.kp, F.bindsN fun _ _ _ _ _ _ us hl => match us, hl with | [_, _], _ => rfl⟩
/-! need_row -/
abbrev s_need_row : Stmt := topS 26
theorem sc_need_row : FnScope N_need_row ["web", "row"] (defScope s_need_row) := ⟨rfl, rfl, rfl, by decide +kernel, rfl, by decide +kernel, by decide +kernel⟩
abbrev FN_need_row (K : PySem.W.Frag) (f : Addr) (fd : FuncData) : Prop := FunD K "need_row" "need_row" (defArgs s_need_row) (defBody s_need_row) (defScope s_need_row) [] [] f fd
abbrev DF_need_row (P : Program) (w : World) (K : PySem.W.Frag) (mg : Str → Option Value) (base : Heap) : Prop := DfX P w K mg base 2 "need_row" ["web", "row"] (sp_need_row K)
theorem len_need_row {K : PySem.W.Frag} {vs : List V} {H : Hp} {Q : VK} {E : XK} (h : sp_need_row K vs H Q E) : vs.length = 2 := by
  unfold sp_need_row at h
  repeat (first | (obtain ⟨rfl, _⟩ := h; rfl) | obtain ⟨_, h⟩ := h)
theorem ok_need_row {P : Program} {w : World} {K : PySem.W.Frag} {mg : Str → Option Value} {base : Heap} {f : Addr} {fd : FuncData} (B : Blt mg) (T : XT exNs K mg) {tk_MOST_GAMES : Tok} (c_MOST_GAMES : mg "MOST_GAMES" = some (.int 24 tk_MOST_GAMES)) (D_is_number : DF_is_number P w K mg base) (F : FN_need_row K f fd) : FnOk P w K mg base (L2.CX P w) 2 f fd ["web", "row"] (sp_need_row K) := by
  have nd := sc_need_row.nd
  refine F.ok sc_need_row (fun vs H Q E h => len_need_row h) (fun cdv A outer s H vs Q E hr h => ⟨t_need_row K E, ?_, r_need_row vs H Q E h⟩)
  exact (pss_cons (ps_if (PW.pt (pw_or (pt_not (pt_val (pe_callB call_isi (by rfl) B.isinstance (by decide +kernel) (pa_cons (pv 1) (pa_cons (pe_bltn (v := .ty "list") (by rfl) B.list (by decide +kernel) rfl) pa_nil))))) (pw_or1 (pt_cmpR op_gt (pe_callB call_len_seq (by rfl) B.len PySem.boot_len (pa_cons (pv 1) pa_nil)) (pe_glob (by rfl) c_MOST_GAMES ⟨_, rfl⟩) (nomark _))))) (pss_one (ps_raiseC T (x := "NoRow") (by decide) rfl (takes_of rfl rfl rfl rfl) (by rfl))) pss_nil)
      (pss_one (ps_if (pt_not (pt_val (pe_callB (cr_all rfl) (by rfl) B.all (by decide +kernel) (pa_cons (pe_lc (own := [("spot", 2)]) (g := gName 2) rfl nd (pi_list (pv 1)) (blkOk_by (N := N_need_row) (sc := defScope s_need_row) (by decide +kernel)) (fun _ _ _ _ _ => pg_name (i := 2) nd rfl (.inl rfl)) (fun _ _ _ _ _ => pts_nil) (fun _ _ _ _ _ => (pe_cd D_is_number (hr.mono (by decide)) (by rfl) (pa_cons (pv 2) (pa_cons (pe_op op_sub (pe_callB call_len_seq (by rfl) B.len PySem.boot_len (pa_cons (pv 0) pa_nil)) pe_int) pa_nil))))) pa_nil)))) (pss_one (ps_raiseC T (x := "NoRow") (by decide) rfl (takes_of rfl rfl rfl rfl) (by rfl))) pss_nil)))
theorem df_need_row {P : Program} {w : World} {K : PySem.W.Frag} {mg : Str → Option Value} {base : Heap} {f : Addr} {fd : FuncData} (B : Blt mg) (T : XT exNs K mg) {tk_MOST_GAMES : Tok} (c_MOST_GAMES : mg "MOST_GAMES" = some (.int 24 tk_MOST_GAMES)) (D_is_number : DF_is_number P w K mg base) (F : FN_need_row K f fd) (g : mg "need_row" = some (.ref f)) : DF_need_row P w K mg base :=
  ⟨f, fd, ok_need_row B T c_MOST_GAMES D_is_number F, g, F.kp, F.bindsN fun _ _ _ _ _ _ us hl => match us, hl with | [_, _], _ => rfl⟩
/-! moves_of -/
abbrev s_moves_of : Stmt := topS 27
theorem sc_moves_of : FnScope N_moves_of ["web", "row"] (defScope s_moves_of) := ⟨rfl, rfl, rfl, by decide +kernel, rfl, by decide +kernel, by decide +kernel⟩
abbrev FN_moves_of (K : PySem.W.Frag) (f : Addr) (fd : FuncData) : Prop := FunD K "moves_of" "moves_of" (defArgs s_moves_of) (defBody s_moves_of) (defScope s_moves_of) [] [] f fd
abbrev DF_moves_of (P : Program) (w : World) (K : PySem.W.Frag) (mg : Str → Option Value) (base : Heap) : Prop := Df P w K mg base 1 "moves_of" ["web", "row"] (sp_moves_of K)
theorem len_moves_of {K : PySem.W.Frag} {vs : List V} {H : Hp} {Q : VK} {E : XK} (h : sp_moves_of K vs H Q E) : vs.length = 2 := by
  unfold sp_moves_of at h
  repeat (first | (obtain ⟨rfl, _⟩ := h; rfl) | obtain ⟨_, h⟩ := h)
theorem ok_moves_of {P : Program} {w : World} {K : PySem.W.Frag} {mg : Str → Option Value} {base : Heap} {f : Addr} {fd : FuncData} (B : Blt mg) (T : XT exNs K mg) (F : FN_moves_of K f fd) : FnOk P w K mg base CX0 1 f fd ["web", "row"] (sp_moves_of K) := by
  have nd := sc_moves_of.nd
  refine F.ok sc_moves_of (fun vs H Q E h => len_moves_of h) (fun cdv A outer s H vs Q E hr h => ⟨t_moves_of K, PSs.nox ?_, r_moves_of vs H Q E h⟩)
  exact (pss_cons (ps_set (i := 2) nd rfl (.inl rfl) (pe_lst pa_nil))
      (pss_cons (ps_for PassesOwn.never rfl (pi_enum (by rfl) B.enumerate (pa_cons (pv 1) pa_nil)) (pg_tup rfl (pgs_cons (pg_name (i := 3) nd rfl (.inl rfl)) (pgs_cons (pg_name (i := 4) nd rfl (.inl rfl)) pgs_nil))) (pss_one (ps_for PassesOwn.never rfl (pi_list (pe_callB cr_sortedI (by rfl) B.sorted (by decide +kernel) (pa_cons (pe_ix ix_list (pv 0) (pv 4) (fun _ _ => rfl)) pa_nil))) (pg_name (i := 5) nd rfl (.inl rfl)) (pss_one (ps_expr (pe_bm PySem.F.plainAttrs_list PySem.F.slot_list_append PySem.F.type_list_append mt_append (pv 2) (pa_cons (pe_tup (pa_cons (pv 3) (pa_cons (pv 5) pa_nil))) pa_nil)))))))
      (pss_one (ps_ret (pv 2)))))
theorem df_moves_of {P : Program} {w : World} {K : PySem.W.Frag} {mg : Str → Option Value} {base : Heap} {f : Addr} {fd : FuncData} (B : Blt mg) (T : XT exNs K mg) (F : FN_moves_of K f fd) (g : mg "moves_of" = some (.ref f)) : DF_moves_of P w K mg base :=
  ⟨f, fd, ok_moves_of B T F, g, F.kp, F.bindsN fun _ _ _ _ _ _ us hl => match us, hl with | [_, _], _ => rfl⟩
/-! moves_in -/
abbrev s_moves_in : Stmt := topS 28
theorem sc_moves_in : FnScope N_moves_in ["web", "row"] (defScope s_moves_in) := ⟨rfl, rfl, rfl, by decide +kernel, rfl, by decide +kernel, by decide +kernel⟩
abbrev FN_moves_in (K : PySem.W.Frag) (f : Addr) (fd : FuncData) : Prop := FunD K "moves_in" "moves_in" (defArgs s_moves_in) (defBody s_moves_in) (defScope s_moves_in) [] [] f fd
abbrev DF_moves_in (P : Program) (w : World) (K : PySem.W.Frag) (mg : Str → Option Value) (base : Heap) : Prop := DfX P w K mg base 6 "moves_in" ["web", "row"] (sp_moves_in K)
theorem len_moves_in {K : PySem.W.Frag} {vs : List V} {H : Hp} {Q : VK} {E : XK} (h : sp_moves_in K vs H Q E) : vs.length = 2 := by
  unfold sp_moves_in at h
  repeat (first | (obtain ⟨rfl, _⟩ := h; rfl) | obtain ⟨_, h⟩ := h)
theorem ok_moves_in {P : Program} {w : World} {K : PySem.W.Frag} {mg : Str → Option Value} {base : Heap} {f : Addr} {fd : FuncData} (B : Blt mg) (T : XT exNs K mg) (D_need_game : DF_need_game P w K mg base) (D_need_row : DF_need_row P w K mg base) (D_moves_of : DF_moves_of P w K mg base) (F : FN_moves_in K f fd) : FnOk P w K mg base (L2.CX P w) 6 f fd ["web", "row"] (sp_moves_in K) := by
  have nd := sc_moves_in.nd
  refine F.ok sc_moves_in (fun vs H Q E h => len_moves_in h) (fun cdv A outer s H vs Q E hr h => ⟨t_moves_in K E, ?_, r_moves_in vs H Q E h⟩)
  exact (pss_cons (ps_expr (pe_cdE D_need_game (takes_of rfl rfl rfl rfl) (hr.mono (by decide)) (by rfl) (pa_cons (pv 0) pa_nil)))
      (pss_cons (ps_expr (pe_cdE D_need_row (takes_of rfl rfl rfl rfl) (hr.mono (by decide)) (by rfl) (pa_cons (pv 0) (pa_cons (pv 1) pa_nil))))
      (PSs.nox (pss_one (ps_ret (pe_cd D_moves_of (hr.mono (by decide)) (by rfl) (pa_cons (pv 0) (pa_cons (pv 1) pa_nil))))))))
theorem df_moves_in {P : Program} {w : World} {K : PySem.W.Frag} {mg : Str → Option Value} {base : Heap} {f : Addr} {fd : FuncData} (B : Blt mg) (T : XT exNs K mg) (D_need_game : DF_need_game P w K mg base) (D_need_row : DF_need_row P w K mg base) (D_moves_of : DF_moves_of P w K mg base) (F : FN_moves_in K f fd) (g : mg "moves_in" = some (.ref f)) : DF_moves_in P w K mg base :=
  ⟨f, fd, ok_moves_in B T D_need_game D_need_row D_moves_of F, g, F.kp, F.bindsN fun _ _ _ _ _ _ us hl => match us, hl with | [_, _], _ => rfl⟩
/-! laid_over -/
abbrev s_laid_over : Stmt := topS 23
theorem sc_laid_over : FnScope N_laid_over ["numbers"] (defScope s_laid_over) := ⟨rfl, rfl, rfl, by decide +kernel, rfl, by decide +kernel, by decide +kernel⟩
abbrev FN_laid_over (K : PySem.W.Frag) (f : Addr) (fd : FuncData) : Prop := FunD K "laid_over" "laid_over" (defArgs s_laid_over) (defBody s_laid_over) (defScope s_laid_over) [] [] f fd
abbrev DF_laid_over (P : Program) (w : World) (K : PySem.W.Frag) (mg : Str → Option Value) (base : Heap) : Prop := Df P w K mg base 1 "laid_over" ["numbers"] (sp_laid_over K)
theorem len_laid_over {K : PySem.W.Frag} {vs : List V} {H : Hp} {Q : VK} {E : XK} (h : sp_laid_over K vs H Q E) : vs.length = 1 := by
  unfold sp_laid_over at h
  repeat (first | (obtain ⟨rfl, _⟩ := h; rfl) | obtain ⟨_, h⟩ := h)
theorem ok_laid_over {P : Program} {w : World} {K : PySem.W.Frag} {mg : Str → Option Value} {base : Heap} {f : Addr} {fd : FuncData} (B : Blt mg) (T : XT exNs K mg) (F : FN_laid_over K f fd) : FnOk P w K mg base CX0 1 f fd ["numbers"] (sp_laid_over K) := by
  have nd := sc_laid_over.nd
  refine F.ok sc_laid_over (fun vs H Q E h => len_laid_over h) (fun cdv A outer s H vs Q E hr h => ⟨t_laid_over K, PSs.nox ?_, r_laid_over vs H Q E h⟩)
  exact (pss_cons (ps_set (i := 1) nd rfl (.inl rfl) pe_int)
      (pss_cons (ps_set (i := 2) nd rfl (.inl rfl) pe_int)
      (pss_cons (ps_set (i := 3) nd rfl (.inl rfl) (pe_callTy call_list_of (by rfl) B.list (by decide +kernel) (pa_cons (pv 0) pa_nil)))
      (pss_cons (ps_while PassesOwn.never (pt_cmpR op_gt (pe_callB call_len_seq (by rfl) B.len PySem.boot_len (pa_cons (pv 3) pa_nil)) pe_int (nomark _)) (pss_cons (ps_set (i := 1) nd rfl (.inl rfl) (pe_op op_add (pv 1) (pe_op op_mul (pe_op op_mod (pe_callB (cr_sum rfl) (by rfl) B.sum (by decide +kernel) (pa_cons (pe_lc (own := [("number", 4)]) (g := gName 4) rfl nd (pi_list (pv 3)) (blkOk_by (N := N_laid_over) (sc := defScope s_laid_over) (by decide +kernel)) (fun _ _ _ _ _ => pg_name (i := 4) nd rfl (.inl rfl)) (fun _ _ _ _ _ => pts_nil) (fun _ _ _ _ _ => (pe_op op_mod (pv 4) pe_int))) pa_nil)) pe_int) (pv 2))))
      (pss_cons (ps_set (i := 2) nd rfl (.inl rfl) (pe_op op_mul (pv 2) pe_int))
      (pss_one (ps_setLc (i := 3) (own := [("number", 4)]) (g := gName 4) rfl nd rfl rfl (sw_true rfl rfl rfl (by decide +kernel)) (pi_list (pv 3)) (blkOk_by (N := N_laid_over) (sc := defScope s_laid_over) (by decide +kernel)) (fun _ _ _ _ _ => pg_name (i := 4) nd rfl (.inl rfl)) (fun _ _ _ _ _ => (pts_one (pt_cmpR op_gt (pv 4) pe_int (nomark _)))) (fun _ _ _ _ _ => (pe_op op_fdiv (pv 4) pe_int)))))))
      (pss_one (ps_ret (pv 1)))))))
theorem df_laid_over {P : Program} {w : World} {K : PySem.W.Frag} {mg : Str → Option Value} {base : Heap} {f : Addr} {fd : FuncData} (B : Blt mg) (T : XT exNs K mg) (F : FN_laid_over K f fd) (g : mg "laid_over" = some (.ref f)) : DF_laid_over P w K mg base :=
  ⟨f, fd, ok_laid_over B T F, g, F.kp, F.bindsN fun _ _ _ _ _ _ us hl => match us, hl with | [_], _ => rfl⟩
/-! row_number -/
abbrev s_row_number : Stmt := topS 32
theorem sc_row_number : FnScope N_row_number ["web", "row"] (defScope s_row_number) := ⟨rfl, rfl, rfl, by decide +kernel, rfl, by decide +kernel, by decide +kernel⟩
abbrev FN_row_number (K : PySem.W.Frag) (f : Addr) (fd : FuncData) : Prop := FunD K "row_number" "row_number" (defArgs s_row_number) (defBody s_row_number) (defScope s_row_number) [] [] f fd
abbrev DF_row_number (P : Program) (w : World) (K : PySem.W.Frag) (mg : Str → Option Value) (base : Heap) : Prop := DfX P w K mg base 7 "row_number" ["web", "row"] (sp_row_number K)
theorem len_row_number {K : PySem.W.Frag} {vs : List V} {H : Hp} {Q : VK} {E : XK} (h : sp_row_number K vs H Q E) : vs.length = 2 := by
  unfold sp_row_number at h
  repeat (first | (obtain ⟨rfl, _⟩ := h; rfl) | obtain ⟨_, h⟩ := h)
theorem ok_row_number {P : Program} {w : World} {K : PySem.W.Frag} {mg : Str → Option Value} {base : Heap} {f : Addr} {fd : FuncData} (B : Blt mg) (T : XT exNs K mg) (D_numbers_of : DF_numbers_of P w K mg base) (D_need_row : DF_need_row P w K mg base) (D_laid_over : DF_laid_over P w K mg base) (F : FN_row_number K f fd) : FnOk P w K mg base (L2.CX P w) 7 f fd ["web", "row"] (sp_row_number K) := by
  have nd := sc_row_number.nd
  refine F.ok sc_row_number (fun vs H Q E h => len_row_number h) (fun cdv A outer s H vs Q E hr h => ⟨t_row_number K E, ?_, r_row_number vs H Q E h⟩)
  exact (pss_cons (ps_set (i := 2) nd rfl (.inr rfl) (pe_cdE D_numbers_of (takes_of rfl rfl rfl rfl) (hr.mono (by decide)) (by rfl) (pa_cons (pv 0) pa_nil)))
      (pss_cons (ps_expr (pe_cdE D_need_row (takes_of rfl rfl rfl rfl) (hr.mono (by decide)) (by rfl) (pa_cons (pv 0) (pa_cons (pv 1) pa_nil))))
      (PSs.nox (pss_one (ps_ret (pe_cd D_laid_over (hr.mono (by decide)) (by rfl) (pa_cons (pe_lc (own := [("spot", 3)]) (g := gName 3) rfl nd (pi_list (pv 1)) (blkOk_by (N := N_row_number) (sc := defScope s_row_number) (by decide +kernel)) (fun _ _ _ _ _ => pg_name (i := 3) nd rfl (.inl rfl)) (fun _ _ _ _ _ => pts_nil) (fun _ _ _ _ _ => (pe_ix ix_list (pv 2) (pv 3) (fun _ _ => rfl)))) pa_nil)))))))
theorem df_row_number {P : Program} {w : World} {K : PySem.W.Frag} {mg : Str → Option Value} {base : Heap} {f : Addr} {fd : FuncData} (B : Blt mg) (T : XT exNs K mg) (D_numbers_of : DF_numbers_of P w K mg base) (D_need_row : DF_need_row P w K mg base) (D_laid_over : DF_laid_over P w K mg base) (F : FN_row_number K f fd) (g : mg "row_number" = some (.ref f)) : DF_row_number P w K mg base :=
  ⟨f, fd, ok_row_number B T D_numbers_of D_need_row D_laid_over F, g, F.kp, F.bindsN fun _ _ _ _ _ _ us hl => match us, hl with | [_, _], _ => rfl⟩
/-! is_lost -/
abbrev s_is_lost : Stmt := topS 34
theorem sc_is_lost : FnScope N_is_lost ["web", "row"] (defScope s_is_lost) := ⟨rfl, rfl, rfl, by decide +kernel, rfl, by decide +kernel, by decide +kernel⟩
abbrev FN_is_lost (K : PySem.W.Frag) (f : Addr) (fd : FuncData) : Prop := FunD K "is_lost" "is_lost" (defArgs s_is_lost) (defBody s_is_lost) (defScope s_is_lost) [] [] f fd
abbrev DF_is_lost (P : Program) (w : World) (K : PySem.W.Frag) (mg : Str → Option Value) (base : Heap) : Prop := DfX P w K mg base 8 "is_lost" ["web", "row"] (sp_is_lost K)
theorem len_is_lost {K : PySem.W.Frag} {vs : List V} {H : Hp} {Q : VK} {E : XK} (h : sp_is_lost K vs H Q E) : vs.length = 2 := by
  unfold sp_is_lost at h
  repeat (first | (obtain ⟨rfl, _⟩ := h; rfl) | obtain ⟨_, h⟩ := h)
theorem ok_is_lost {P : Program} {w : World} {K : PySem.W.Frag} {mg : Str → Option Value} {base : Heap} {f : Addr} {fd : FuncData} (B : Blt mg) (T : XT exNs K mg) (D_row_number : DF_row_number P w K mg base) (F : FN_is_lost K f fd) : FnOk P w K mg base (L2.CX P w) 8 f fd ["web", "row"] (sp_is_lost K) := by
  have nd := sc_is_lost.nd
  refine F.ok sc_is_lost (fun vs H Q E h => len_is_lost h) (fun cdv A outer s H vs Q E hr h => ⟨t_is_lost K E, ?_, r_is_lost vs H Q E h⟩)
  exact (pss_one (ps_ret (pe_cmpR op_eq (pe_cdE D_row_number (takes_of rfl rfl rfl rfl) (hr.mono (by decide)) (by rfl) (pa_cons (pv 0) (pa_cons (pv 1) pa_nil))) pe_int (nomark _))))
theorem df_is_lost {P : Program} {w : World} {K : PySem.W.Frag} {mg : Str → Option Value} {base : Heap} {f : Addr} {fd : FuncData} (B : Blt mg) (T : XT exNs K mg) (D_row_number : DF_row_number P w K mg base) (F : FN_is_lost K f fd) (g : mg "is_lost" = some (.ref f)) : DF_is_lost P w K mg base :=
  ⟨f, fd, ok_is_lost B T D_row_number F, g, F.kp, F.bindsN fun _ _ _ _ _ _ us hl => match us, hl with | [_, _], _ => rfl⟩
/-! behind -/
abbrev s_behind : Stmt := topS 30
theorem sc_behind : FnScope N_behind ["row", "move"] (defScope s_behind) := ⟨rfl, rfl, rfl, by decide +kernel, rfl, by decide +kernel, by decide +kernel⟩
abbrev FN_behind (K : PySem.W.Frag) (f : Addr) (fd : FuncData) : Prop := FunD K "behind" "behind" (defArgs s_behind) (defBody s_behind) (defScope s_behind) [] [] f fd
abbrev DF_behind (P : Program) (w : World) (K : PySem.W.Frag) (mg : Str → Option Value) (base : Heap) : Prop := Df P w K mg base 1 "behind" ["row", "move"] (sp_behind K)
theorem len_behind {K : PySem.W.Frag} {vs : List V} {H : Hp} {Q : VK} {E : XK} (h : sp_behind K vs H Q E) : vs.length = 2 := by
  unfold sp_behind at h
  repeat (first | (obtain ⟨rfl, _⟩ := h; rfl) | obtain ⟨_, h⟩ := h)
theorem ok_behind {P : Program} {w : World} {K : PySem.W.Frag} {mg : Str → Option Value} {base : Heap} {f : Addr} {fd : FuncData} (B : Blt mg) (T : XT exNs K mg) (F : FN_behind K f fd) : FnOk P w K mg base CX0 1 f fd ["row", "move"] (sp_behind K) := by
  have nd := sc_behind.nd
  refine F.ok sc_behind (fun vs H Q E h => len_behind h) (fun cdv A outer s H vs Q E hr h => ⟨t_behind K, PSs.nox ?_, r_behind vs H Q E h⟩)
  exact (pss_one (ps_ret (pe_op op_cat (pe_op op_cat (pe_slice sl_list (pv 0) po_none (po_some (pe_ix ix_tup (pv 1) pe_int (fun _ _ => rfl)))) (pe_lst (pa_cons (pe_ix ix_tup (pv 1) pe_int (fun _ _ => rfl)) pa_nil))) (pe_slice sl_list (pv 0) (po_some (pe_op op_add (pe_ix ix_tup (pv 1) pe_int (fun _ _ => rfl)) pe_int)) po_none))))
theorem df_behind {P : Program} {w : World} {K : PySem.W.Frag} {mg : Str → Option Value} {base : Heap} {f : Addr} {fd : FuncData} (B : Blt mg) (T : XT exNs K mg) (F : FN_behind K f fd) (g : mg "behind" = some (.ref f)) : DF_behind P w K mg base :=
  ⟨f, fd, ok_behind B T F, g, F.kp, F.bindsN fun _ _ _ _ _ _ us hl => match us, hl with | [_, _], _ => rfl⟩
/-! good_moves -/
abbrev s_good_moves : Stmt := topS 35
theorem sc_good_moves : FnScope N_good_moves ["web", "row"] (defScope s_good_moves) := ⟨rfl, rfl, rfl, by decide +kernel, rfl, by decide +kernel, by decide +kernel⟩
abbrev FN_good_moves (K : PySem.W.Frag) (f : Addr) (fd : FuncData) : Prop := FunD K "good_moves" "good_moves" (defArgs s_good_moves) (defBody s_good_moves) (defScope s_good_moves) [] [] f fd
abbrev DF_good_moves (P : Program) (w : World) (K : PySem.W.Frag) (mg : Str → Option Value) (base : Heap) : Prop := DfX P w K mg base 7 "good_moves" ["web", "row"] (sp_good_moves K)
theorem len_good_moves {K : PySem.W.Frag} {vs : List V} {H : Hp} {Q : VK} {E : XK} (h : sp_good_moves K vs H Q E) : vs.length = 2 := by
  unfold sp_good_moves at h
  repeat (first | (obtain ⟨rfl, _⟩ := h; rfl) | obtain ⟨_, h⟩ := h)
theorem ok_good_moves {P : Program} {w : World} {K : PySem.W.Frag} {mg : Str → Option Value} {base : Heap} {f : Addr} {fd : FuncData} (B : Blt mg) (T : XT exNs K mg) (D_numbers_of : DF_numbers_of P w K mg base) (D_need_row : DF_need_row P w K mg base) (D_moves_of : DF_moves_of P w K mg base) (D_laid_over : DF_laid_over P w K mg base) (D_behind : DF_behind P w K mg base) (F : FN_good_moves K f fd) : FnOk P w K mg base (L2.CX P w) 7 f fd ["web", "row"] (sp_good_moves K) := by
  have nd := sc_good_moves.nd
  refine F.ok sc_good_moves (fun vs H Q E h => len_good_moves h) (fun cdv A outer s H vs Q E hr h => ⟨t_good_moves K E, ?_, r_good_moves vs H Q E h⟩)
  exact (pss_cons (ps_set (i := 2) nd rfl (.inr rfl) (pe_cdE D_numbers_of (takes_of rfl rfl rfl rfl) (hr.mono (by decide)) (by rfl) (pa_cons (pv 0) pa_nil)))
      (pss_cons (ps_expr (pe_cdE D_need_row (takes_of rfl rfl rfl rfl) (hr.mono (by decide)) (by rfl) (pa_cons (pv 0) (pa_cons (pv 1) pa_nil))))
      (PSs.nox (pss_cons (ps_set (i := 3) nd rfl (.inl rfl) (pe_lst pa_nil))
      (pss_cons (ps_for PassesOwn.never rfl (pi_list (pe_cd D_moves_of (hr.mono (by decide)) (by rfl) (pa_cons (pv 0) (pa_cons (pv 1) pa_nil)))) (pg_name (i := 4) nd rfl (.inl rfl)) (pss_one (ps_if (pt_cmpR op_eq (pe_cd D_laid_over (hr.mono (by decide)) (by rfl) (pa_cons (pe_lc (own := [("spot", 5)]) (g := gName 5) rfl nd (pi_list (pe_cd D_behind (hr.mono (by decide)) (by rfl) (pa_cons (pv 1) (pa_cons (pv 4) pa_nil)))) (blkOk_by (N := N_good_moves) (sc := defScope s_good_moves) (by decide +kernel)) (fun _ _ _ _ _ => pg_name (i := 5) nd rfl (.inl rfl)) (fun _ _ _ _ _ => pts_nil) (fun _ _ _ _ _ => (pe_ix ix_list (pv 2) (pv 5) (fun _ _ => rfl)))) pa_nil)) pe_int (nomark _)) (pss_one (ps_expr (pe_bm PySem.F.plainAttrs_list PySem.F.slot_list_append PySem.F.type_list_append mt_append (pv 3) (pa_cons (pv 4) pa_nil)))) pss_nil)))
      (pss_one (ps_ret (pv 3))))))))
theorem df_good_moves {P : Program} {w : World} {K : PySem.W.Frag} {mg : Str → Option Value} {base : Heap} {f : Addr} {fd : FuncData} (B : Blt mg) (T : XT exNs K mg) (D_numbers_of : DF_numbers_of P w K mg base) (D_need_row : DF_need_row P w K mg base) (D_moves_of : DF_moves_of P w K mg base) (D_laid_over : DF_laid_over P w K mg base) (D_behind : DF_behind P w K mg base) (F : FN_good_moves K f fd) (g : mg "good_moves" = some (.ref f)) : DF_good_moves P w K mg base :=
  ⟨f, fd, ok_good_moves B T D_numbers_of D_need_row D_moves_of D_laid_over D_behind F, g, F.kp, F.bindsN fun _ _ _ _ _ _ us hl => match us, hl with | [_, _], _ => rfl⟩
/-! _law_asked_one -/
abbrev s__law_asked_one : Stmt := topS 46
theorem sc__law_asked_one : FnScope N__law_asked_one ["_law_which", "_law_web", "_law_row"] (defScope s__law_asked_one) := ⟨rfl, rfl, rfl, by decide +kernel, rfl, by decide +kernel, by decide +kernel⟩
abbrev FN__law_asked_one (K : PySem.W.Frag) (f : Addr) (fd : FuncData) : Prop := FunD K "_law_asked_one" "_law_asked_one" (defArgs s__law_asked_one) (defBody s__law_asked_one) (defScope s__law_asked_one) [] [] f fd
abbrev DF__law_asked_one (P : Program) (w : World) (K : PySem.W.Frag) (mg : Str → Option Value) (base : Heap) : Prop := DfX P w K mg base 9 "_law_asked_one" ["_law_which", "_law_web", "_law_row"] (sp__law_asked_one K)
theorem len__law_asked_one {K : PySem.W.Frag} {vs : List V} {H : Hp} {Q : VK} {E : XK} (h : sp__law_asked_one K vs H Q E) : vs.length = 3 := by
  unfold sp__law_asked_one at h
  repeat (first | (obtain ⟨rfl, _⟩ := h; rfl) | obtain ⟨_, h⟩ := h)
theorem ok__law_asked_one {P : Program} {w : World} {K : PySem.W.Frag} {mg : Str → Option Value} {base : Heap} {f : Addr} {fd : FuncData} (B : Blt mg) (T : XT exNs K mg) (D_ring_in : DF_ring_in P w K mg base) (D_numbers_of : DF_numbers_of P w K mg base) (D_lengths_of : DF_lengths_of P w K mg base) (D_shown_moves : DF_shown_moves P w K mg base) (D_moves_in : DF_moves_in P w K mg base) (D_row_number : DF_row_number P w K mg base) (D_is_lost : DF_is_lost P w K mg base) (D_good_moves : DF_good_moves P w K mg base) (F : FN__law_asked_one K f fd) : FnOk P w K mg base (L2.CX P w) 9 f fd ["_law_which", "_law_web", "_law_row"] (sp__law_asked_one K) := by
  have nd := sc__law_asked_one.nd
  refine F.ok sc__law_asked_one (fun vs H Q E h => len__law_asked_one h) (fun cdv A outer s H vs Q E hr h => ⟨t__law_asked_one K E, ?_, r__law_asked_one vs H Q E h⟩)
  exact (pss_one (ps_if (pt_cmpR op_eq (pv 0) pe_int (nomark _)) (pss_one (ps_expr (pe_cdE D_ring_in (takes_of rfl rfl rfl rfl) (hr.mono (by decide)) (by rfl) (pa_cons (pv 1) pa_nil)))) (pss_one (ps_if (pt_cmpR op_eq (pv 0) pe_int (nomark _)) (pss_one (ps_expr (pe_cdE D_numbers_of (takes_of rfl rfl rfl rfl) (hr.mono (by decide)) (by rfl) (pa_cons (pv 1) pa_nil)))) (pss_one (ps_if (pt_cmpR op_eq (pv 0) pe_int (nomark _)) (pss_one (ps_expr (pe_cdE D_lengths_of (takes_of rfl rfl rfl rfl) (hr.mono (by decide)) (by rfl) (pa_cons (pv 1) pa_nil)))) (pss_one (ps_if (pt_cmpR op_eq (pv 0) pe_int (nomark _)) (pss_one (ps_expr (pe_cdE D_shown_moves (takes_of rfl rfl rfl rfl) (hr.mono (by decide)) (by rfl) (pa_cons (pv 1) (pa_cons pe_int pa_nil))))) (pss_one (ps_if (pt_cmpR op_eq (pv 0) pe_int (nomark _)) (pss_one (ps_expr (pe_cdE D_moves_in (takes_of rfl rfl rfl rfl) (hr.mono (by decide)) (by rfl) (pa_cons (pv 1) (pa_cons (pv 2) pa_nil))))) (pss_one (ps_if (pt_cmpR op_eq (pv 0) pe_int (nomark _)) (pss_one (ps_expr (pe_cdE D_row_number (takes_of rfl rfl rfl rfl) (hr.mono (by decide)) (by rfl) (pa_cons (pv 1) (pa_cons (pv 2) pa_nil))))) (pss_one (ps_if (pt_cmpR op_eq (pv 0) pe_int (nomark _)) (pss_one (ps_expr (pe_cdE D_is_lost (takes_of rfl rfl rfl rfl) (hr.mono (by decide)) (by rfl) (pa_cons (pv 1) (pa_cons (pv 2) pa_nil))))) (pss_one (ps_expr (pe_cdE D_good_moves (takes_of rfl rfl rfl rfl) (hr.mono (by decide)) (by rfl) (pa_cons (pv 1) (pa_cons (pv 2) pa_nil)))))))))))))))))))
theorem df__law_asked_one {P : Program} {w : World} {K : PySem.W.Frag} {mg : Str → Option Value} {base : Heap} {f : Addr} {fd : FuncData} (B : Blt mg) (T : XT exNs K mg) (D_ring_in : DF_ring_in P w K mg base) (D_numbers_of : DF_numbers_of P w K mg base) (D_lengths_of : DF_lengths_of P w K mg base) (D_shown_moves : DF_shown_moves P w K mg base) (D_moves_in : DF_moves_in P w K mg base) (D_row_number : DF_row_number P w K mg base) (D_is_lost : DF_is_lost P w K mg base) (D_good_moves : DF_good_moves P w K mg base) (F : FN__law_asked_one K f fd) (g : mg "_law_asked_one" = some (.ref f)) : DF__law_asked_one P w K mg base :=
  ⟨f, fd, ok__law_asked_one B T D_ring_in D_numbers_of D_lengths_of D_shown_moves D_moves_in D_row_number D_is_lost D_good_moves F, g, F.kp, F.bindsN fun _ _ _ _ _ _ us hl => match us, hl with | [_, _, _], _ => rfl⟩
/-! is_move -/
abbrev s_is_move : Stmt := topS 29
theorem sc_is_move : FnScope N_is_move ["web", "row", "move"] (defScope s_is_move) := ⟨rfl, rfl, rfl, by decide +kernel, rfl, by decide +kernel, by decide +kernel⟩
abbrev FN_is_move (K : PySem.W.Frag) (f : Addr) (fd : FuncData) : Prop := FunD K "is_move" "is_move" (defArgs s_is_move) (defBody s_is_move) (defScope s_is_move) [] [] f fd
abbrev DF_is_move (P : Program) (w : World) (K : PySem.W.Frag) (mg : Str → Option Value) (base : Heap) : Prop := Df P w K mg base 2 "is_move" ["web", "row", "move"] (sp_is_move K)
theorem len_is_move {K : PySem.W.Frag} {vs : List V} {H : Hp} {Q : VK} {E : XK} (h : sp_is_move K vs H Q E) : vs.length = 3 := by
  unfold sp_is_move at h
  repeat (first | (obtain ⟨rfl, _⟩ := h; rfl) | obtain ⟨_, h⟩ := h)
theorem ok_is_move {P : Program} {w : World} {K : PySem.W.Frag} {mg : Str → Option Value} {base : Heap} {f : Addr} {fd : FuncData} (B : Blt mg) (T : XT exNs K mg) (D_is_number : DF_is_number P w K mg base) (F : FN_is_move K f fd) : FnOk P w K mg base CX0 2 f fd ["web", "row", "move"] (sp_is_move K) := by
  have nd := sc_is_move.nd
  refine F.ok sc_is_move (fun vs H Q E h => len_is_move h) (fun cdv A outer s H vs Q E hr h => ⟨t_is_move K, PSs.nox ?_, r_is_move vs H Q E h⟩)
  exact (pss_cons (ps_if (PW.pt (pw_or (pt_not (pt_val (pe_callB call_isi (by rfl) B.isinstance (by decide +kernel) (pa_cons (pv 2) (pa_cons (pe_bltn (v := .ty "tuple") (by rfl) B.tuple (by decide +kernel) rfl) pa_nil))))) (pw_or1 (pt_cmpR op_ne (pe_callB call_len_seq (by rfl) B.len PySem.boot_len (pa_cons (pv 2) pa_nil)) pe_int (nomark _))))) (pss_one (ps_ret pe_bl)) pss_nil)
      (pss_cons (ps_if (PW.pt (pw_or (pt_not (pt_val (pe_cd D_is_number (hr.mono (by decide)) (by rfl) (pa_cons (pe_ix ix_tup (pv 2) pe_int (fun _ _ => rfl)) (pa_cons (pe_op op_sub (pe_callB call_len_seq (by rfl) B.len PySem.boot_len (pa_cons (pv 1) pa_nil)) pe_int) pa_nil))))) (pw_or1 (pt_not (pt_val (pe_cd D_is_number (hr.mono (by decide)) (by rfl) (pa_cons (pe_ix ix_tup (pv 2) pe_int (fun _ _ => rfl)) (pa_cons (pe_op op_sub (pe_callB call_len_seq (by rfl) B.len PySem.boot_len (pa_cons (pv 0) pa_nil)) pe_int) pa_nil)))))))) (pss_one (ps_ret pe_bl)) pss_nil)
      (pss_one (ps_ret (pe_cmpR op_in_seq (pe_ix ix_tup (pv 2) pe_int (fun _ _ => rfl)) (pe_ix ix_list (pv 0) (pe_ix ix_list (pv 1) (pe_ix ix_tup (pv 2) pe_int (fun _ _ => rfl)) (fun _ _ => rfl)) (fun _ _ => rfl)) (by rfl))))))
theorem df_is_move {P : Program} {w : World} {K : PySem.W.Frag} {mg : Str → Option Value} {base : Heap} {f : Addr} {fd : FuncData} (B : Blt mg) (T : XT exNs K mg) (D_is_number : DF_is_number P w K mg base) (F : FN_is_move K f fd) (g : mg "is_move" = some (.ref f)) : DF_is_move P w K mg base :=
  ⟨f, fd, ok_is_move B T D_is_number F, g, F.kp, F.bindsN fun _ _ _ _ _ _ us hl => match us, hl with | [_, _, _], _ => rfl⟩
/-! played -/
abbrev s_played : Stmt := topS 31
theorem sc_played : FnScope N_played ["web", "row", "move"] (defScope s_played) := ⟨rfl, rfl, rfl, by decide +kernel, rfl, by decide +kernel, by decide +kernel⟩
abbrev FN_played (K : PySem.W.Frag) (f : Addr) (fd : FuncData) : Prop := FunD K "played" "played" (defArgs s_played) (defBody s_played) (defScope s_played) [] [] f fd
abbrev DF_played (P : Program) (w : World) (K : PySem.W.Frag) (mg : Str → Option Value) (base : Heap) : Prop := DfX P w K mg base 6 "played" ["web", "row", "move"] (sp_played K)
theorem len_played {K : PySem.W.Frag} {vs : List V} {H : Hp} {Q : VK} {E : XK} (h : sp_played K vs H Q E) : vs.length = 3 := by
  unfold sp_played at h
  repeat (first | (obtain ⟨rfl, _⟩ := h; rfl) | obtain ⟨_, h⟩ := h)
theorem ok_played {P : Program} {w : World} {K : PySem.W.Frag} {mg : Str → Option Value} {base : Heap} {f : Addr} {fd : FuncData} (B : Blt mg) (T : XT exNs K mg) (D_need_game : DF_need_game P w K mg base) (D_need_row : DF_need_row P w K mg base) (D_is_move : DF_is_move P w K mg base) (D_behind : DF_behind P w K mg base) (F : FN_played K f fd) : FnOk P w K mg base (L2.CX P w) 6 f fd ["web", "row", "move"] (sp_played K) := by
  have nd := sc_played.nd
  refine F.ok sc_played (fun vs H Q E h => len_played h) (fun cdv A outer s H vs Q E hr h => ⟨t_played K E, ?_, r_played vs H Q E h⟩)
  exact (pss_cons (ps_expr (pe_cdE D_need_game (takes_of rfl rfl rfl rfl) (hr.mono (by decide)) (by rfl) (pa_cons (pv 0) pa_nil)))
      (pss_cons (ps_expr (pe_cdE D_need_row (takes_of rfl rfl rfl rfl) (hr.mono (by decide)) (by rfl) (pa_cons (pv 0) (pa_cons (pv 1) pa_nil))))
      (pss_cons (ps_if (pt_not (pt_val (pe_cd D_is_move (hr.mono (by decide)) (by rfl) (pa_cons (pv 0) (pa_cons (pv 1) (pa_cons (pv 2) pa_nil)))))) (pss_one (ps_raiseC T (x := "NoMove") (by decide) rfl (takes_of rfl rfl rfl rfl) (by rfl))) pss_nil)
      (PSs.nox (pss_one (ps_ret (pe_cd D_behind (hr.mono (by decide)) (by rfl) (pa_cons (pv 1) (pa_cons (pv 2) pa_nil)))))))))
theorem df_played {P : Program} {w : World} {K : PySem.W.Frag} {mg : Str → Option Value} {base : Heap} {f : Addr} {fd : FuncData} (B : Blt mg) (T : XT exNs K mg) (D_need_game : DF_need_game P w K mg base) (D_need_row : DF_need_row P w K mg base) (D_is_move : DF_is_move P w K mg base) (D_behind : DF_behind P w K mg base) (F : FN_played K f fd) (g : mg "played" = some (.ref f)) : DF_played P w K mg base :=
  ⟨f, fd, ok_played B T D_need_game D_need_row D_is_move D_behind F, g, F.kp, F.bindsN fun _ _ _ _ _ _ us hl => match us, hl with | [_, _, _], _ => rfl⟩
/-! parting_row -/
abbrev s_parting_row : Stmt := topS 36
theorem sc_parting_row : FnScope N_parting_row ["web", "one", "other"] (defScope s_parting_row) := ⟨rfl, rfl, rfl, by decide +kernel, rfl, by decide +kernel, by decide +kernel⟩
abbrev FN_parting_row (K : PySem.W.Frag) (f : Addr) (fd : FuncData) : Prop := FunD K "parting_row" "parting_row" (defArgs s_parting_row) (defBody s_parting_row) (defScope s_parting_row) [] [] f fd
abbrev DF_parting_row (P : Program) (w : World) (K : PySem.W.Frag) (mg : Str → Option Value) (base : Heap) : Prop := DfX P w K mg base 8 "parting_row" ["web", "one", "other"] (sp_parting_row K)
theorem len_parting_row {K : PySem.W.Frag} {vs : List V} {H : Hp} {Q : VK} {E : XK} (h : sp_parting_row K vs H Q E) : vs.length = 3 := by
  unfold sp_parting_row at h
  repeat (first | (obtain ⟨rfl, _⟩ := h; rfl) | obtain ⟨_, h⟩ := h)
theorem ok_parting_row {P : Program} {w : World} {K : PySem.W.Frag} {mg : Str → Option Value} {base : Heap} {f : Addr} {fd : FuncData} (B : Blt mg) (T : XT exNs K mg) (D_row_number : DF_row_number P w K mg base) (F : FN_parting_row K f fd) : FnOk P w K mg base (L2.CX P w) 8 f fd ["web", "one", "other"] (sp_parting_row K) := by
  have nd := sc_parting_row.nd
  refine F.ok sc_parting_row (fun vs H Q E h => len_parting_row h) (fun cdv A outer s H vs Q E hr h => ⟨t_parting_row K E, ?_, r_parting_row vs H Q E h⟩)
  exact (pss_cons (ps_if (pt_cmpR op_eq (pe_cdE D_row_number (takes_of rfl rfl rfl rfl) (hr.mono (by decide)) (by rfl) (pa_cons (pv 0) (pa_cons (pv 1) pa_nil))) (pe_cdE D_row_number (takes_of rfl rfl rfl rfl) (hr.mono (by decide)) (by rfl) (pa_cons (pv 0) (pa_cons (pv 2) pa_nil))) (nomark _)) (pss_one (ps_ret pe_non)) pss_nil)
      (PSs.nox (pss_cons (ps_if (pt_cmpR op_le (pe_callB call_len_seq (by rfl) B.len PySem.boot_len (pa_cons (pv 1) pa_nil)) (pe_callB call_len_seq (by rfl) B.len PySem.boot_len (pa_cons (pv 2) pa_nil)) (nomark _)) (pss_one (ps_ret (pe_callTy call_list_of (by rfl) B.list (by decide +kernel) (pa_cons (pv 1) pa_nil)))) pss_nil)
      (pss_one (ps_ret (pe_callTy call_list_of (by rfl) B.list (by decide +kernel) (pa_cons (pv 2) pa_nil)))))))
theorem df_parting_row {P : Program} {w : World} {K : PySem.W.Frag} {mg : Str → Option Value} {base : Heap} {f : Addr} {fd : FuncData} (B : Blt mg) (T : XT exNs K mg) (D_row_number : DF_row_number P w K mg base) (F : FN_parting_row K f fd) (g : mg "parting_row" = some (.ref f)) : DF_parting_row P w K mg base :=
  ⟨f, fd, ok_parting_row B T D_row_number F, g, F.kp, F.bindsN fun _ _ _ _ _ _ us hl => match us, hl with | [_, _, _], _ => rfl⟩
/-! joined_webs -/
abbrev s_joined_webs : Stmt := topS 16
theorem sc_joined_webs : FnScope N_joined_webs ["one", "other"] (defScope s_joined_webs) := ⟨rfl, rfl, rfl, by decide +kernel, rfl, by decide +kernel, by decide +kernel⟩
abbrev FN_joined_webs (K : PySem.W.Frag) (f : Addr) (fd : FuncData) : Prop := FunD K "joined_webs" "joined_webs" (defArgs s_joined_webs) (defBody s_joined_webs) (defScope s_joined_webs) [] [] f fd
abbrev DF_joined_webs (P : Program) (w : World) (K : PySem.W.Frag) (mg : Str → Option Value) (base : Heap) : Prop := DfX P w K mg base 5 "joined_webs" ["one", "other"] (sp_joined_webs K)
theorem len_joined_webs {K : PySem.W.Frag} {vs : List V} {H : Hp} {Q : VK} {E : XK} (h : sp_joined_webs K vs H Q E) : vs.length = 2 := by
  unfold sp_joined_webs at h
  repeat (first | (obtain ⟨rfl, _⟩ := h; rfl) | obtain ⟨_, h⟩ := h)
theorem ok_joined_webs {P : Program} {w : World} {K : PySem.W.Frag} {mg : Str → Option Value} {base : Heap} {f : Addr} {fd : FuncData} (B : Blt mg) (T : XT exNs K mg) {tk_MOST_SPOTS : Tok} (c_MOST_SPOTS : mg "MOST_SPOTS" = some (.int 200 tk_MOST_SPOTS)) (D_need_form : DF_need_form P w K mg base) (F : FN_joined_webs K f fd) : FnOk P w K mg base (L2.CX P w) 5 f fd ["one", "other"] (sp_joined_webs K) := by
  have nd := sc_joined_webs.nd
  refine F.ok sc_joined_webs (fun vs H Q E h => len_joined_webs h) (fun cdv A outer s H vs Q E hr h => ⟨t_joined_webs K E, ?_, r_joined_webs vs H Q E h⟩)
  exact (pss_cons (ps_expr (pe_cdE D_need_form (takes_of rfl rfl rfl rfl) (hr.mono (by decide)) (by rfl) (pa_cons (pv 0) pa_nil)))
      (pss_cons (ps_expr (pe_cdE D_need_form (takes_of rfl rfl rfl rfl) (hr.mono (by decide)) (by rfl) (pa_cons (pv 1) pa_nil)))
      (pss_cons (ps_if (pt_cmpR op_gt (pe_op op_add (pe_callB call_len_seq (by rfl) B.len PySem.boot_len (pa_cons (pv 0) pa_nil)) (pe_callB call_len_seq (by rfl) B.len PySem.boot_len (pa_cons (pv 1) pa_nil))) (pe_glob (by rfl) c_MOST_SPOTS ⟨_, rfl⟩) (nomark _)) (pss_one (ps_raiseC T (x := "TooMany") (by decide) rfl (takes_of rfl rfl rfl rfl) (by rfl))) pss_nil)
      (PSs.nox (pss_one (ps_ret (pe_op op_cat (pe_lc (own := [("spot", 2)]) (g := gName 2) rfl nd (pi_list (pv 0)) (blkOk_by (N := N_joined_webs) (sc := defScope s_joined_webs) (by decide +kernel)) (fun _ _ _ _ _ => pg_name (i := 2) nd rfl (.inl rfl)) (fun _ _ _ _ _ => pts_nil) (fun _ _ _ _ _ => (pe_callTy call_list_of (by rfl) B.list (by decide +kernel) (pa_cons (pv 2) pa_nil)))) (pe_lc (own := [("spot", 2)]) (g := gName 2) rfl nd (pi_list (pv 1)) (blkOk_by (N := N_joined_webs) (sc := defScope s_joined_webs) (by decide +kernel)) (fun _ _ _ _ _ => pg_name (i := 2) nd rfl (.inl rfl)) (fun _ _ _ _ _ => pts_nil) (fun _ _ _ _ _ => (pe_lc (own := [("at", 3)]) (g := gName 3) rfl nd (pi_list (pv 2)) (blkOk_by (N := N_joined_webs) (sc := relS _ (defScope s_joined_webs)) (by decide +kernel)) (fun _ _ _ _ _ => pg_name (i := 3) nd rfl (.inl rfl)) (fun _ _ _ _ _ => pts_nil) (fun _ _ _ _ _ => (pe_op op_add (pe_callB call_len_seq (by rfl) B.len PySem.boot_len (pa_cons (pv 0) pa_nil)) (pv 3)))))))))))))
theorem df_joined_webs {P : Program} {w : World} {K : PySem.W.Frag} {mg : Str → Option Value} {base : Heap} {f : Addr} {fd : FuncData} (B : Blt mg) (T : XT exNs K mg) {tk_MOST_SPOTS : Tok} (c_MOST_SPOTS : mg "MOST_SPOTS" = some (.int 200 tk_MOST_SPOTS)) (D_need_form : DF_need_form P w K mg base) (F : FN_joined_webs K f fd) (g : mg "joined_webs" = some (.ref f)) : DF_joined_webs P w K mg base :=
  ⟨f, fd, ok_joined_webs B T c_MOST_SPOTS D_need_form F, g, F.kp, F.bindsN fun _ _ _ _ _ _ us hl => match us, hl with | [_, _], _ => rfl⟩
/-! paired_web -/
abbrev s_paired_web : Stmt := topS 17
theorem sc_paired_web : FnScope N_paired_web ["one", "other"] (defScope s_paired_web) := ⟨rfl, rfl, rfl, by decide +kernel, rfl, by decide +kernel, by decide +kernel⟩
abbrev FN_paired_web (K : PySem.W.Frag) (f : Addr) (fd : FuncData) : Prop := FunD K "paired_web" "paired_web" (defArgs s_paired_web) (defBody s_paired_web) (defScope s_paired_web) [] [] f fd
abbrev DF_paired_web (P : Program) (w : World) (K : PySem.W.Frag) (mg : Str → Option Value) (base : Heap) : Prop := DfX P w K mg base 5 "paired_web" ["one", "other"] (sp_paired_web K)
theorem len_paired_web {K : PySem.W.Frag} {vs : List V} {H : Hp} {Q : VK} {E : XK} (h : sp_paired_web K vs H Q E) : vs.length = 2 := by
  unfold sp_paired_web at h
  repeat (first | (obtain ⟨rfl, _⟩ := h; rfl) | obtain ⟨_, h⟩ := h)
theorem ok_paired_web {P : Program} {w : World} {K : PySem.W.Frag} {mg : Str → Option Value} {base : Heap} {f : Addr} {fd : FuncData} (B : Blt mg) (T : XT exNs K mg) {tk_MOST_SPOTS : Tok} (c_MOST_SPOTS : mg "MOST_SPOTS" = some (.int 200 tk_MOST_SPOTS)) (D_need_form : DF_need_form P w K mg base) (F : FN_paired_web K f fd) : FnOk P w K mg base (L2.CX P w) 5 f fd ["one", "other"] (sp_paired_web K) := by
  have nd := sc_paired_web.nd
  refine F.ok sc_paired_web (fun vs H Q E h => len_paired_web h) (fun cdv A outer s H vs Q E hr h => ⟨t_paired_web K E, ?_, r_paired_web vs H Q E h⟩)
  exact (pss_cons (ps_expr (pe_cdE D_need_form (takes_of rfl rfl rfl rfl) (hr.mono (by decide)) (by rfl) (pa_cons (pv 0) pa_nil)))
      (pss_cons (ps_expr (pe_cdE D_need_form (takes_of rfl rfl rfl rfl) (hr.mono (by decide)) (by rfl) (pa_cons (pv 1) pa_nil)))
      (pss_cons (ps_if (pt_cmpR op_gt (pe_op op_mul (pe_callB call_len_seq (by rfl) B.len PySem.boot_len (pa_cons (pv 0) pa_nil)) (pe_callB call_len_seq (by rfl) B.len PySem.boot_len (pa_cons (pv 1) pa_nil))) (pe_glob (by rfl) c_MOST_SPOTS ⟨_, rfl⟩) (nomark _)) (pss_one (ps_raiseC T (x := "TooMany") (by decide) rfl (takes_of rfl rfl rfl rfl) (by rfl))) pss_nil)
      (PSs.nox (pss_cons (ps_set (i := 2) nd rfl (.inl rfl) (pe_lst pa_nil))
      (pss_cons (ps_for PassesOwn.never rfl (pi_range1 (by rfl) B.range (pa_cons (pe_callB call_len_seq (by rfl) B.len PySem.boot_len (pa_cons (pv 0) pa_nil)) pa_nil)) (pg_name (i := 3) nd rfl (.inr rfl)) (pss_one (ps_for PassesOwn.never rfl (pi_range1 (by rfl) B.range (pa_cons (pe_callB call_len_seq (by rfl) B.len PySem.boot_len (pa_cons (pv 1) pa_nil)) pa_nil)) (pg_name (i := 4) nd rfl (.inr rfl)) (pss_cons (ps_setLc (i := 5) (own := [("at", 6)]) (g := gName 6) rfl nd rfl rfl (sw_true rfl rfl rfl (by decide +kernel)) (pi_list (pe_ix ix_list (pv 0) (pv 3) (fun _ _ => rfl))) (blkOk_by (N := N_paired_web) (sc := defScope s_paired_web) (by decide +kernel)) (fun _ _ _ _ _ => pg_name (i := 6) nd rfl (.inl rfl)) (fun _ _ _ _ _ => pts_nil) (fun _ _ _ _ _ => (pe_op op_add (pe_op op_mul (pv 6) (pe_callB call_len_seq (by rfl) B.len PySem.boot_len (pa_cons (pv 1) pa_nil))) (pv 4))))
      (pss_one (ps_expr (pe_bm PySem.F.plainAttrs_list PySem.F.slot_list_append PySem.F.type_list_append mt_append (pv 2) (pa_cons (pe_op op_cat (pv 5) (pe_lc (own := [("at", 6)]) (g := gName 6) rfl nd (pi_list (pe_ix ix_list (pv 1) (pv 4) (fun _ _ => rfl))) (blkOk_by (N := N_paired_web) (sc := defScope s_paired_web) (by decide +kernel)) (fun _ _ _ _ _ => pg_name (i := 6) nd rfl (.inl rfl)) (fun _ _ _ _ _ => pts_nil) (fun _ _ _ _ _ => (pe_op op_add (pe_op op_mul (pv 3) (pe_callB call_len_seq (by rfl) B.len PySem.boot_len (pa_cons (pv 1) pa_nil))) (pv 6))))) pa_nil))))))))
      (pss_one (ps_ret (pv 2)))))))))
theorem df_paired_web {P : Program} {w : World} {K : PySem.W.Frag} {mg : Str → Option Value} {base : Heap} {f : Addr} {fd : FuncData} (B : Blt mg) (T : XT exNs K mg) {tk_MOST_SPOTS : Tok} (c_MOST_SPOTS : mg "MOST_SPOTS" = some (.int 200 tk_MOST_SPOTS)) (D_need_form : DF_need_form P w K mg base) (F : FN_paired_web K f fd) (g : mg "paired_web" = some (.ref f)) : DF_paired_web P w K mg base :=
  ⟨f, fd, ok_paired_web B T c_MOST_SPOTS D_need_form F, g, F.kp, F.bindsN fun _ _ _ _ _ _ us hl => match us, hl with | [_, _], _ => rfl⟩
/-! _law_asked -/
abbrev s__law_asked : Stmt := topS 47
theorem sc__law_asked : FnScope N__law_asked ["_law_which", "_law_web", "_law_other", "_law_row", "_law_more", "_law_move"] (defScope s__law_asked) := ⟨rfl, rfl, rfl, by decide +kernel, rfl, by decide +kernel, by decide +kernel⟩
abbrev FN__law_asked (K : PySem.W.Frag) (f : Addr) (fd : FuncData) : Prop := FunD K "_law_asked" "_law_asked" (defArgs s__law_asked) (defBody s__law_asked) (defScope s__law_asked) [] [] f fd
abbrev DF__law_asked (P : Program) (w : World) (K : PySem.W.Frag) (mg : Str → Option Value) (base : Heap) : Prop := DfX P w K mg base 10 "_law_asked" ["_law_which", "_law_web", "_law_other", "_law_row", "_law_more", "_law_move"] (sp__law_asked K)
theorem len__law_asked {K : PySem.W.Frag} {vs : List V} {H : Hp} {Q : VK} {E : XK} (h : sp__law_asked K vs H Q E) : vs.length = 6 := by
  unfold sp__law_asked at h
  repeat (first | (obtain ⟨rfl, _⟩ := h; rfl) | obtain ⟨_, h⟩ := h)
theorem ok__law_asked {P : Program} {w : World} {K : PySem.W.Frag} {mg : Str → Option Value} {base : Heap} {f : Addr} {fd : FuncData} (B : Blt mg) (T : XT exNs K mg) (D__law_asked_one : DF__law_asked_one P w K mg base) (D_played : DF_played P w K mg base) (D_parting_row : DF_parting_row P w K mg base) (D_joined_webs : DF_joined_webs P w K mg base) (D_paired_web : DF_paired_web P w K mg base) (F : FN__law_asked K f fd) : FnOk P w K mg base (L2.CX P w) 10 f fd ["_law_which", "_law_web", "_law_other", "_law_row", "_law_more", "_law_move"] (sp__law_asked K) := by
  have nd := sc__law_asked.nd
  refine F.ok sc__law_asked (fun vs H Q E h => len__law_asked h) (fun cdv A outer s H vs Q E hr h => ⟨t__law_asked K E, ?_, r__law_asked vs H Q E h⟩)
  exact (pss_one (ps_if (pt_cmpR op_lt (pv 0) pe_int (nomark _)) (pss_one (ps_expr (pe_cdE D__law_asked_one (takes_of rfl rfl rfl rfl) (hr.mono (by decide)) (by rfl) (pa_cons (pv 0) (pa_cons (pv 1) (pa_cons (pv 3) pa_nil)))))) (pss_one (ps_if (pt_cmpR op_eq (pv 0) pe_int (nomark _)) (pss_one (ps_expr (pe_cdE D_played (takes_of rfl rfl rfl rfl) (hr.mono (by decide)) (by rfl) (pa_cons (pv 1) (pa_cons (pv 3) (pa_cons (pv 5) pa_nil)))))) (pss_one (ps_if (pt_cmpR op_eq (pv 0) pe_int (nomark _)) (pss_one (ps_expr (pe_cdE D_parting_row (takes_of rfl rfl rfl rfl) (hr.mono (by decide)) (by rfl) (pa_cons (pv 1) (pa_cons (pv 3) (pa_cons (pv 4) pa_nil)))))) (pss_one (ps_if (pt_cmpR op_eq (pv 0) pe_int (nomark _)) (pss_one (ps_expr (pe_cdE D_joined_webs (takes_of rfl rfl rfl rfl) (hr.mono (by decide)) (by rfl) (pa_cons (pv 1) (pa_cons (pv 2) pa_nil))))) (pss_one (ps_expr (pe_cdE D_paired_web (takes_of rfl rfl rfl rfl) (hr.mono (by decide)) (by rfl) (pa_cons (pv 1) (pa_cons (pv 2) pa_nil)))))))))))))
theorem df__law_asked {P : Program} {w : World} {K : PySem.W.Frag} {mg : Str → Option Value} {base : Heap} {f : Addr} {fd : FuncData} (B : Blt mg) (T : XT exNs K mg) (D__law_asked_one : DF__law_asked_one P w K mg base) (D_played : DF_played P w K mg base) (D_parting_row : DF_parting_row P w K mg base) (D_joined_webs : DF_joined_webs P w K mg base) (D_paired_web : DF_paired_web P w K mg base) (F : FN__law_asked K f fd) (g : mg "_law_asked" = some (.ref f)) : DF__law_asked P w K mg base :=
  ⟨f, fd, ok__law_asked B T D__law_asked_one D_played D_parting_row D_joined_webs D_paired_web F, g, F.kp, F.bindsN fun _ _ _ _ _ _ us hl => match us, hl with | [_, _, _, _, _, _], _ => rfl⟩
/-! _law_told -/
abbrev s__law_told : Stmt := topS 48
theorem sc__law_told : FnScope N__law_told ["_law_which", "_law_web", "_law_other", "_law_row", "_law_more", "_law_move"] (defScope s__law_told) := ⟨rfl, rfl, rfl, by decide +kernel, rfl, by decide +kernel, by decide +kernel⟩
abbrev FN__law_told (K : PySem.W.Frag) (f : Addr) (fd : FuncData) : Prop := FunD K "_law_told" "_law_told" (defArgs s__law_told) (defBody s__law_told) (defScope s__law_told) [] [] f fd
abbrev DF__law_told (P : Program) (w : World) (K : PySem.W.Frag) (mg : Str → Option Value) (base : Heap) : Prop := Df P w K mg base 11 "_law_told" ["_law_which", "_law_web", "_law_other", "_law_row", "_law_more", "_law_move"] (sp__law_told K)
theorem len__law_told {K : PySem.W.Frag} {vs : List V} {H : Hp} {Q : VK} {E : XK} (h : sp__law_told K vs H Q E) : vs.length = 6 := by
  unfold sp__law_told at h
  repeat (first | (obtain ⟨rfl, _⟩ := h; rfl) | obtain ⟨_, h⟩ := h)
theorem ok__law_told {P : Program} {w : World} {K : PySem.W.Frag} {mg : Str → Option Value} {base : Heap} {f : Addr} {fd : FuncData} (B : Blt mg) (T : XT exNs K mg) (D__law_asked : DF__law_asked P w K mg base) (F : FN__law_told K f fd) : FnOk P w K mg base CX0 11 f fd ["_law_which", "_law_web", "_law_other", "_law_row", "_law_more", "_law_move"] (sp__law_told K) := by
  have nd := sc__law_told.nd
  refine F.ok sc__law_told (fun vs H Q E h => len__law_told h) (fun cdv A outer s H vs Q E hr h => ⟨t__law_told K, PSs.nox ?_, r__law_told T.xf vs H Q E h⟩)
  exact (pss_cons (ps_try_as (i := 6) (tb := fun W => tDrop (tCallS (sp__law_asked K) (WE W) (tCons (tVar 0) (tCons (tVar 1) (tCons (tVar 2) (tCons (tVar 3) (tCons (tVar 4) (tCons (tVar 5) (tNil))))))))) (ts := fun a cls d => tSeq (tAsg (tLst (tCons (tCB (rIsX K a cls d) (tCons (tVar 6) (tCons (tC (.ref (He.ga K "NoWeb"))) (tNil)))) (tCons (tCB (rIsX K a cls d) (tCons (tVar 6) (tCons (tC (.ref (He.ga K "Ringed"))) (tNil)))) (tCons (tCB (rIsX K a cls d) (tCons (tVar 6) (tCons (tC (.ref (He.ga K "NoRow"))) (tNil)))) (tNil))))) (gName 7))
    (tSeq (tAsg (tOp rCat (tVar 7) (tLst (tCons (tCB (rIsX K a cls d) (tCons (tVar 6) (tCons (tC (.ref (He.ga K "NoMove"))) (tNil)))) (tCons (tCB (rIsX K a cls d) (tCons (tVar 6) (tCons (tC (.ref (He.ga K "TooMany"))) (tNil)))) (tCons (tCB (rIsX K a cls d) (tCons (tVar 6) (tCons (tC (.ty "ValueError")) (tNil)))) (tNil)))))) (gName 7))
    (tSeq (tIfS (tOr (tTest (tOp rNe (tBM K "list" (rCntB K) (tVar 7) (tCons (tC (.bl true)) (tNil))) (tC (.int 2)))) (tNot (tB (tOp (rIxL K) (tVar 7) (tC (.int 5)))))) (tRet (tC (.str "several"))) (tNext))
    (tRet (tOp (rIxL K) (tLst (tCons (tC (.str "web")) (tCons (tC (.str "ring")) (tCons (tC (.str "row")) (tCons (tC (.str "move")) (tCons (tC (.str "many")) (tNil))))))) (tBM K "list" (rIndex K) (tVar 7) (tCons (tC (.bl true)) (tNil)))))))) (Wout := fun _ _ _ _ => False) rfl rfl nd rfl rfl ⟨rfl, by decide, .inl T.gE⟩ takes0 (fun W pn xe tk _ => (pss_one (ps_expr (pe_cdS D__law_asked tk (hr.mono (by decide)) (by rfl) (pa_cons (pv 0) (pa_cons (pv 1) (pa_cons (pv 2) (pa_cons (pv 3) (pa_cons (pv 4) (pa_cons (pv 5) pa_nil)))))))))) (fun a oe cls d pn hz hf => (pss_cons (ps_set (i := 7) nd rfl (.inl rfl) (pe_lst (pa_cons (pe_callB (call_isX hz hf) (by rfl) B.isinstance (by decide +kernel) (pa_cons (pv 6) (pa_cons (pe_glob (by rfl) (T.gl "NoWeb" (by decide)) rfl) pa_nil))) (pa_cons (pe_callB (call_isX hz hf) (by rfl) B.isinstance (by decide +kernel) (pa_cons (pv 6) (pa_cons (pe_glob (by rfl) (T.gl "Ringed" (by decide)) rfl) pa_nil))) (pa_cons (pe_callB (call_isX hz hf) (by rfl) B.isinstance (by decide +kernel) (pa_cons (pv 6) (pa_cons (pe_glob (by rfl) (T.gl "NoRow" (by decide)) rfl) pa_nil))) pa_nil)))))
      (pss_cons (ps_set (i := 7) nd rfl (.inl rfl) (pe_op op_cat (pv 7) (pe_lst (pa_cons (pe_callB (call_isX hz hf) (by rfl) B.isinstance (by decide +kernel) (pa_cons (pv 6) (pa_cons (pe_glob (by rfl) (T.gl "NoMove" (by decide)) rfl) pa_nil))) (pa_cons (pe_callB (call_isX hz hf) (by rfl) B.isinstance (by decide +kernel) (pa_cons (pv 6) (pa_cons (pe_glob (by rfl) (T.gl "TooMany" (by decide)) rfl) pa_nil))) (pa_cons (pe_callB (call_isX hz hf) (by rfl) B.isinstance (by decide +kernel) (pa_cons (pv 6) (pa_cons (pe_bltn (v := .ty "ValueError") (by rfl) T.vE (by decide +kernel) rfl) pa_nil))) pa_nil))))))
      (pss_cons (ps_if (PW.pt (pw_or (pt_cmpR op_ne (pe_bm PySem.F.plainAttrs_list PySem.F.slot_list_count PySem.F.type_list_count mt_countB (pv 7) (pa_cons pe_bl pa_nil)) pe_int (nomark _)) (pw_or1 (pt_not (pt_val (pe_ix ix_list (pv 7) pe_int (fun _ _ => rfl))))))) (pss_one (ps_ret pe_str)) pss_nil)
      (pss_one (ps_ret (pe_ix ix_list (pe_lst (pa_cons pe_str (pa_cons pe_str (pa_cons pe_str (pa_cons pe_str (pa_cons pe_str pa_nil)))))) (pe_bm PySem.F.plainAttrs_list PySem.F.slot_list_index PySem.F.type_list_index mt_index (pv 7) (pa_cons pe_bl pa_nil)) (fun _ _ => rfl)))))))))
      (pss_one (ps_ret pe_str)))
theorem df__law_told {P : Program} {w : World} {K : PySem.W.Frag} {mg : Str → Option Value} {base : Heap} {f : Addr} {fd : FuncData} (B : Blt mg) (T : XT exNs K mg) (D__law_asked : DF__law_asked P w K mg base) (F : FN__law_told K f fd) (g : mg "_law_told" = some (.ref f)) : DF__law_told P w K mg base :=
  ⟨f, fd, ok__law_told B T D__law_asked F, g, F.kp, F.bindsN fun _ _ _ _ _ _ us hl => match us, hl with | [_, _, _, _, _, _], _ => rfl⟩
/-! law -/
abbrev s_law : Stmt := topS 49
theorem sc_law : FnScope N_law ["_law_script"] (defScope s_law) := ⟨rfl, rfl, rfl, by decide +kernel, rfl, by decide +kernel, by decide +kernel⟩
abbrev FN_law (K : PySem.W.Frag) (f : Addr) (fd : FuncData) : Prop := FunD K "law" "law" (defArgs s_law) (defBody s_law) (defScope s_law) [] [] f fd
abbrev DF_law (P : Program) (w : World) (K : PySem.W.Frag) (mg : Str → Option Value) (base : Heap) : Prop := Df P w K mg base 12 "law" ["_law_script"] (sp_law K)
theorem len_law {K : PySem.W.Frag} {vs : List V} {H : Hp} {Q : VK} {E : XK} (h : sp_law K vs H Q E) : vs.length = 1 := by
  unfold sp_law at h
  repeat (first | (obtain ⟨rfl, _⟩ := h; rfl) | obtain ⟨_, h⟩ := h)
theorem ok_law {P : Program} {w : World} {K : PySem.W.Frag} {mg : Str → Option Value} {base : Heap} {f : Addr} {fd : FuncData} (B : Blt mg) (T : XT exNs K mg) (D__law_web_by : DF__law_web_by P w K mg base) (D__law_cell_at : DF__law_cell_at P w K mg base) (D__law_spoilt : DF__law_spoilt P w K mg base) (D__law_ringed : DF__law_ringed P w K mg base) (D__law_bad_row : DF__law_bad_row P w K mg base) (D_is_web : DF_is_web P w K mg base) (D__law_told : DF__law_told P w K mg base) (D__law_copied : DF__law_copied P w K mg base) (F : FN_law K f fd) : FnOk P w K mg base CX0 12 f fd ["_law_script"] (sp_law K) := by
  have nd := sc_law.nd
  refine F.ok sc_law (fun vs H Q E h => len_law h) (fun cdv A outer s H vs Q E hr h => ⟨t_law K, PSs.nox ?_, r_law vs H Q E h⟩)
  exact (pss_cons (ps_set (i := 1) nd rfl (.inr rfl) (pe_cd D__law_web_by (hr.mono (by decide)) (by rfl) (pa_cons (pv 0) (pa_cons pe_int pa_nil))))
      (pss_cons (ps_setLc (i := 2) (own := [("_law_cell", 14)]) (g := gName 14) rfl nd rfl rfl (sw_true rfl rfl rfl (by decide +kernel)) (pi_list (pe_slice sl_list (pv 0) (po_some pe_int) (po_some pe_int))) (blkOk_by (N := N_law) (sc := defScope s_law) (by decide +kernel)) (fun _ _ _ _ _ => pg_name (i := 14) nd rfl (.inl rfl)) (fun _ _ _ _ _ => pts_nil) (fun _ _ _ _ _ => (pe_op op_mod (pv 14) (pe_callB call_len_seq (by rfl) B.len PySem.boot_len (pa_cons (pv 1) pa_nil)))))
      (pss_cons (ps_set (i := 3) nd rfl (.inl rfl) (pe_op op_mod (pe_cd D__law_cell_at (hr.mono (by decide)) (by rfl) (pa_cons (pv 0) (pa_cons pe_int pa_nil))) pe_int))
      (pss_cons (ps_set (i := 4) nd rfl (.inl rfl) (pe_cd D__law_spoilt (hr.mono (by decide)) (by rfl) (pa_cons (pv 1) (pa_cons (pe_cd D__law_cell_at (hr.mono (by decide)) (by rfl) (pa_cons (pv 0) (pa_cons pe_int pa_nil))) pa_nil))))
      (pss_cons (ps_set (i := 5) nd rfl (.inl rfl) (pe_cd D__law_ringed (hr.mono (by decide)) (by rfl) (pa_cons (pv 1) (pa_cons (pe_cd D__law_cell_at (hr.mono (by decide)) (by rfl) (pa_cons (pv 0) (pa_cons pe_int pa_nil))) pa_nil))))
      (pss_cons (ps_set (i := 6) nd rfl (.inl rfl) (pe_cd D__law_bad_row (hr.mono (by decide)) (by rfl) (pa_cons (pv 2) (pa_cons (pe_callB call_len_seq (by rfl) B.len PySem.boot_len (pa_cons (pv 1) pa_nil)) (pa_cons (pe_cd D__law_cell_at (hr.mono (by decide)) (by rfl) (pa_cons (pv 0) (pa_cons pe_int pa_nil))) pa_nil)))))
      (pss_cons (ps_if (PW.pt (pw_or (pt_cmpR op_isnot_bl (pe_cd D_is_web (hr.mono (by decide)) (by rfl) (pa_cons (pv 1) pa_nil)) pe_bl (nomark _)) (pw_or (pt_cmpR op_isnot_bl (pe_cd D_is_web (hr.mono (by decide)) (by rfl) (pa_cons (pv 5) pa_nil)) pe_bl (nomark _)) (pw_or1 (pt_cmpR op_isnot_bl (pe_cd D_is_web (hr.mono (by decide)) (by rfl) (pa_cons (pv 4) pa_nil)) pe_bl (nomark _)))))) (pss_one (ps_ret pe_bl)) pss_nil)
      (pss_cons (ps_if (PW.pt (pw_or (pt_cmpR op_isnot_bl (pe_cd D_is_web (hr.mono (by decide)) (by rfl) (pa_cons (pe_lc (own := [("_law_k", 15)]) (g := gName 15) rfl nd (pi_range1 (by rfl) B.range (pa_cons pe_int pa_nil)) (blkOk_by (N := N_law) (sc := defScope s_law) (by decide +kernel)) (fun _ _ _ _ _ => pg_name (i := 15) nd rfl (.inl rfl)) (fun _ _ _ _ _ => pts_nil) (fun _ _ _ _ _ => (pe_lst pa_nil))) pa_nil)) pe_bl (nomark _)) (pw_or1 (pt_cmpR op_ne (pe_cd D__law_told (hr.mono (by decide)) (by rfl) (pa_cons (pv 3) (pa_cons (pv 4) (pa_cons (pv 4) (pa_cons (pv 6) (pa_cons (pv 6) (pa_cons pe_non pa_nil))))))) pe_str (nomark _))))) (pss_one (ps_ret pe_bl)) pss_nil)
      (pss_cons (ps_if (PW.pt (pw_and (pt_cmpR op_gt (pv 3) pe_int (nomark _)) (pw_and1 (pt_cmpR op_ne (pe_cd D__law_told (hr.mono (by decide)) (by rfl) (pa_cons (pv 3) (pa_cons (pv 1) (pa_cons (pv 4) (pa_cons (pv 2) (pa_cons (pv 2) (pa_cons pe_non pa_nil))))))) pe_str (nomark _))))) (pss_one (ps_ret pe_bl)) pss_nil)
      (pss_cons (ps_set (i := 7) nd rfl (.inl rfl) (pe_ifExp (pt_chain op_lt op_lt pe_int (pv 3) pe_int) pe_str pe_str))
      (pss_cons (ps_if (pt_cmpR op_ne (pe_cd D__law_told (hr.mono (by decide)) (by rfl) (pa_cons (pv 3) (pa_cons (pv 5) (pa_cons (pe_lst (pa_cons (pe_lst (pa_cons pe_int pa_nil)) pa_nil)) (pa_cons (pv 6) (pa_cons (pv 6) (pa_cons pe_non pa_nil))))))) (pv 7) (nomark _)) (pss_one (ps_ret pe_bl)) pss_nil)
      (pss_cons (ps_set (i := 7) nd rfl (.inl rfl) (pe_ifExp (pt_chain op_lt op_lt pe_int (pv 3) pe_int) pe_str pe_str))
      (pss_cons (ps_if (pt_cmpR op_ne (pe_cd D__law_told (hr.mono (by decide)) (by rfl) (pa_cons (pv 3) (pa_cons (pv 1) (pa_cons (pe_lst (pa_cons (pe_lst pa_nil) pa_nil)) (pa_cons (pv 6) (pa_cons (pv 2) (pa_cons pe_non pa_nil))))))) (pv 7) (nomark _)) (pss_one (ps_ret pe_bl)) pss_nil)
      (pss_cons (ps_if (PW.pt (pw_and (pt_cmpR op_eq (pv 3) pe_int (nomark _)) (pw_and1 (pt_cmpR op_ne (pe_cd D__law_told (hr.mono (by decide)) (by rfl) (pa_cons pe_int (pa_cons (pv 1) (pa_cons (pv 1) (pa_cons (pv 2) (pa_cons (pv 6) (pa_cons pe_non pa_nil))))))) pe_str (nomark _))))) (pss_one (ps_ret pe_bl)) pss_nil)
      (pss_cons (ps_set (i := 8) nd rfl (.inl rfl) (pe_lst (pa_cons (pe_cd D__law_copied (hr.mono (by decide)) (by rfl) (pa_cons (pv 1) pa_nil)) (pa_cons (pe_callTy call_list_of (by rfl) B.list (by decide +kernel) (pa_cons (pv 2) pa_nil)) pa_nil))))
      (pss_cons (ps_set (i := 9) nd rfl (.inl rfl) (pe_lst (pa_cons pe_non (pa_cons (pe_tup (pa_cons pe_int pa_nil)) (pa_cons (pe_tup (pa_cons (pe_un un_neg pe_int) (pa_cons pe_int pa_nil))) (pa_cons (pe_tup (pa_cons (pe_callB call_len_seq (by rfl) B.len PySem.boot_len (pa_cons (pv 2) pa_nil)) (pa_cons pe_int pa_nil))) (pa_cons (pe_tup (pa_cons pe_int (pa_cons (pe_callB call_len_seq (by rfl) B.len PySem.boot_len (pa_cons (pv 1) pa_nil)) pa_nil))) (pa_cons (pe_tup (pa_cons pe_int (pa_cons (pe_un un_neg pe_int) pa_nil))) (pa_cons (pe_lst (pa_cons pe_int (pa_cons pe_int pa_nil))) (pa_cons (pe_tup (pa_cons pe_bl (pa_cons pe_int pa_nil))) (pa_cons (pe_tup (pa_cons pe_int (pa_cons pe_str pa_nil))) (pa_cons pe_int pa_nil))))))))))))
      (pss_cons (ps_for PassesOwn.never rfl (pi_range1 (by rfl) B.range (pa_cons (pe_callB call_len_seq (by rfl) B.len PySem.boot_len (pa_cons (pv 2) pa_nil)) pa_nil)) (pg_name (i := 10) nd rfl (.inl rfl)) (pss_one (ps_for PassesOwn.never rfl (pi_list (pe_slice sl_list (pe_ix ix_list (pv 1) (pe_ix ix_list (pv 2) (pv 10) (fun _ _ => rfl)) (fun _ _ => rfl)) po_none (po_some pe_int))) (pg_name (i := 11) nd rfl (.inl rfl)) (pss_one (ps_set (i := 9) nd rfl (.inl rfl) (pe_op op_cat (pv 9) (pe_lst (pa_cons (pe_lst (pa_cons (pv 10) (pa_cons (pv 11) pa_nil))) (pa_cons (pe_tup (pa_cons (pv 10) (pa_cons (pv 11) (pa_cons pe_int pa_nil)))) (pa_cons (pe_tup (pa_cons (pv 10) (pa_cons (pe_callTy call_bool1 (by rfl) B.bool (by decide +kernel) (pa_cons (pv 11) pa_nil)) pa_nil))) (pa_cons (pe_tup (pa_cons (pe_callTy call_bool1 (by rfl) B.bool (by decide +kernel) (pa_cons (pv 10) pa_nil)) (pa_cons (pv 11) pa_nil))) pa_nil)))))))))))
      (pss_cons (ps_set (i := 12) nd rfl (.inl rfl) (pe_ix ix_list (pv 9) (pe_op op_mod (pe_cd D__law_cell_at (hr.mono (by decide)) (by rfl) (pa_cons (pv 0) (pa_cons pe_int pa_nil))) (pe_callB call_len_seq (by rfl) B.len PySem.boot_len (pa_cons (pv 9) pa_nil))) (fun _ _ => rfl)))
      (pss_cons (ps_if (pt_cmpR op_ne (pe_cd D__law_told (hr.mono (by decide)) (by rfl) (pa_cons (pv 3) (pa_cons (pe_ix ix_list (pv 8) pe_int (fun _ _ => rfl)) (pa_cons (pe_lst (pa_cons (pe_lst (pa_cons pe_int pa_nil)) pa_nil)) (pa_cons (pe_ix ix_list (pv 8) pe_int (fun _ _ => rfl)) (pa_cons (pv 2) (pa_cons (pv 12) pa_nil))))))) (pe_ix ix_list (pe_lst (pa_cons pe_str (pa_cons pe_str pa_nil))) (pe_callTy call_int1 (by rfl) B.int (by decide +kernel) (pa_cons (pe_cmpR op_eq (pv 3) pe_int (nomark _)) pa_nil)) (fun _ _ => rfl)) (nomark _)) (pss_one (ps_ret pe_bl)) pss_nil)
      (pss_cons (ps_set (i := 13) nd rfl (.inl rfl) (pe_ifExp (pt_cmpR op_gt (pv 3) pe_int (nomark _)) (pe_lc (own := [("_law_k", 15)]) (g := gName 15) rfl nd (pi_range1 (by rfl) B.range (pa_cons (pe_ix ix_list (pe_lst (pa_cons pe_int (pa_cons (pe_op op_fdiv pe_int (pe_callB (call_max2 rfl) (by rfl) B.max (by decide +kernel) (pa_cons pe_int (pa_cons (pe_callB call_len_seq (by rfl) B.len PySem.boot_len (pa_cons (pv 1) pa_nil)) pa_nil)))) pa_nil))) (pe_op op_sub (pv 3) pe_int) (fun _ _ => rfl)) pa_nil)) (blkOk_by (N := N_law) (sc := defScope s_law) (by decide +kernel)) (fun _ _ _ _ _ => pg_name (i := 15) nd rfl (.inl rfl)) (fun _ _ _ _ _ => pts_nil) (fun _ _ _ _ _ => (pe_lst pa_nil))) (pe_lst (pa_cons (pe_lst pa_nil) pa_nil))))
      (pss_mid (ps_if (PW.pt (pw_and (pt_cmpR op_gt (pv 3) pe_int (nomark _)) (pw_and1 (pt_val (pe_cd D_is_web (hr.mono (by decide)) (by rfl) (pa_cons (pv 13) pa_nil)))))) (pss_cons (ps_set (i := 7) nd rfl (.inl rfl) (pe_ifExp (pt_cmpR op_gt (pe_ix ix_list (pe_lst (pa_cons (pe_op op_add (pe_callB call_len_seq (by rfl) B.len PySem.boot_len (pa_cons (pv 1) pa_nil)) (pe_callB call_len_seq (by rfl) B.len PySem.boot_len (pa_cons (pv 13) pa_nil))) (pa_cons (pe_op op_mul (pe_callB call_len_seq (by rfl) B.len PySem.boot_len (pa_cons (pv 1) pa_nil)) (pe_callB call_len_seq (by rfl) B.len PySem.boot_len (pa_cons (pv 13) pa_nil))) pa_nil))) (pe_op op_sub (pv 3) pe_int) (fun _ _ => rfl)) pe_int (nomark _)) pe_str pe_str))
      (pss_one (ps_if (pt_cmpR op_ne (pe_cd D__law_told (hr.mono (by decide)) (by rfl) (pa_cons (pv 3) (pa_cons (pv 1) (pa_cons (pv 13) (pa_cons (pv 2) (pa_cons (pv 2) (pa_cons pe_non pa_nil))))))) (pv 7) (nomark _)) (pss_one (ps_ret pe_bl)) pss_nil))) pss_nil)
      (pss_one (ps_ret (pe_cmpR (op_eqD hr.units) (pv 8) (pe_lst (pa_cons (pv 1) (pa_cons (pv 2) pa_nil))) (nomark _)))))))))))))))))))))))))
/-! ### the head -/
def dd__law_cell_at : He.DefD := ⟨("_law_cell_at", none), "_law_cell_at", "_law_cell_at", defArgs s__law_cell_at, defBody s__law_cell_at, defScope s__law_cell_at, [], []⟩
def dd__law_mixed : He.DefD := ⟨("_law_mixed", none), "_law_mixed", "_law_mixed", defArgs s__law_mixed, defBody s__law_mixed, defScope s__law_mixed, [], []⟩
def dd__law_order_by : He.DefD := ⟨("_law_order_by", none), "_law_order_by", "_law_order_by", defArgs s__law_order_by, defBody s__law_order_by, defScope s__law_order_by, [], []⟩
def dd__law_web_by : He.DefD := ⟨("_law_web_by", none), "_law_web_by", "_law_web_by", defArgs s__law_web_by, defBody s__law_web_by, defScope s__law_web_by, [], []⟩
def dd__law_copied : He.DefD := ⟨("_law_copied", none), "_law_copied", "_law_copied", defArgs s__law_copied, defBody s__law_copied, defScope s__law_copied, [], []⟩
def dd__law_spoilt : He.DefD := ⟨("_law_spoilt", none), "_law_spoilt", "_law_spoilt", defArgs s__law_spoilt, defBody s__law_spoilt, defScope s__law_spoilt, [], []⟩
def dd__law_ringed : He.DefD := ⟨("_law_ringed", none), "_law_ringed", "_law_ringed", defArgs s__law_ringed, defBody s__law_ringed, defScope s__law_ringed, [], []⟩
def dd__law_bad_row : He.DefD := ⟨("_law_bad_row", none), "_law_bad_row", "_law_bad_row", defArgs s__law_bad_row, defBody s__law_bad_row, defScope s__law_bad_row, [], []⟩
def dd_is_number : He.DefD := ⟨("is_number", none), "is_number", "is_number", defArgs s_is_number, defBody s_is_number, defScope s_is_number, [], []⟩
def dd_is_spot : He.DefD := ⟨("is_spot", none), "is_spot", "is_spot", defArgs s_is_spot, defBody s_is_spot, defScope s_is_spot, [], []⟩
def dd_is_web : He.DefD := ⟨("is_web", none), "is_web", "is_web", defArgs s_is_web, defBody s_is_web, defScope s_is_web, [], []⟩
def dd_need_form : He.DefD := ⟨("need_form", none), "need_form", "need_form", defArgs s_need_form, defBody s_need_form, defScope s_need_form, [], []⟩
def dd_play_order : He.DefD := ⟨("play_order", none), "play_order", "play_order", defArgs s_play_order, defBody s_play_order, defScope s_play_order, [], []⟩
def dd_ring_in : He.DefD := ⟨("ring_in", none), "ring_in", "ring_in", defArgs s_ring_in, defBody s_ring_in, defScope s_ring_in, [], []⟩
def dd_need_game : He.DefD := ⟨("need_game", none), "need_game", "need_game", defArgs s_need_game, defBody s_need_game, defScope s_need_game, [], []⟩
def dd_least_missing : He.DefD := ⟨("least_missing", none), "least_missing", "least_missing", defArgs s_least_missing, defBody s_least_missing, defScope s_least_missing, [], []⟩
def dd_numbers_of : He.DefD := ⟨("numbers_of", none), "numbers_of", "numbers_of", defArgs s_numbers_of, defBody s_numbers_of, defScope s_numbers_of, [], []⟩
def dd_lengths_of : He.DefD := ⟨("lengths_of", none), "lengths_of", "lengths_of", defArgs s_lengths_of, defBody s_lengths_of, defScope s_lengths_of, [], []⟩
def dd_shown_moves : He.DefD := ⟨("shown_moves", none), "shown_moves", "shown_moves", defArgs s_shown_moves, defBody s_shown_moves, defScope s_shown_moves, [], []⟩
def dd_need_row : He.DefD := ⟨("need_row", none), "need_row", "need_row", defArgs s_need_row, defBody s_need_row, defScope s_need_row, [], []⟩
def dd_moves_of : He.DefD := ⟨("moves_of", none), "moves_of", "moves_of", defArgs s_moves_of, defBody s_moves_of, defScope s_moves_of, [], []⟩
def dd_moves_in : He.DefD := ⟨("moves_in", none), "moves_in", "moves_in", defArgs s_moves_in, defBody s_moves_in, defScope s_moves_in, [], []⟩
def dd_laid_over : He.DefD := ⟨("laid_over", none), "laid_over", "laid_over", defArgs s_laid_over, defBody s_laid_over, defScope s_laid_over, [], []⟩
def dd_row_number : He.DefD := ⟨("row_number", none), "row_number", "row_number", defArgs s_row_number, defBody s_row_number, defScope s_row_number, [], []⟩
def dd_is_lost : He.DefD := ⟨("is_lost", none), "is_lost", "is_lost", defArgs s_is_lost, defBody s_is_lost, defScope s_is_lost, [], []⟩
def dd_behind : He.DefD := ⟨("behind", none), "behind", "behind", defArgs s_behind, defBody s_behind, defScope s_behind, [], []⟩
def dd_good_moves : He.DefD := ⟨("good_moves", none), "good_moves", "good_moves", defArgs s_good_moves, defBody s_good_moves, defScope s_good_moves, [], []⟩
def dd__law_asked_one : He.DefD := ⟨("_law_asked_one", none), "_law_asked_one", "_law_asked_one", defArgs s__law_asked_one, defBody s__law_asked_one, defScope s__law_asked_one, [], []⟩
def dd_is_move : He.DefD := ⟨("is_move", none), "is_move", "is_move", defArgs s_is_move, defBody s_is_move, defScope s_is_move, [], []⟩
def dd_played : He.DefD := ⟨("played", none), "played", "played", defArgs s_played, defBody s_played, defScope s_played, [], []⟩
def dd_parting_row : He.DefD := ⟨("parting_row", none), "parting_row", "parting_row", defArgs s_parting_row, defBody s_parting_row, defScope s_parting_row, [], []⟩
def dd_joined_webs : He.DefD := ⟨("joined_webs", none), "joined_webs", "joined_webs", defArgs s_joined_webs, defBody s_joined_webs, defScope s_joined_webs, [], []⟩
def dd_paired_web : He.DefD := ⟨("paired_web", none), "paired_web", "paired_web", defArgs s_paired_web, defBody s_paired_web, defScope s_paired_web, [], []⟩
def dd__law_asked : He.DefD := ⟨("_law_asked", none), "_law_asked", "_law_asked", defArgs s__law_asked, defBody s__law_asked, defScope s__law_asked, [], []⟩
def dd__law_told : He.DefD := ⟨("_law_told", none), "_law_told", "_law_told", defArgs s__law_told, defBody s__law_told, defScope s__law_told, [], []⟩
def dd_law : He.DefD := ⟨("law", none), "law", "law", defArgs s_law, defBody s_law, defScope s_law, [], []⟩
def hfn : List He.DefD := [dd__law_cell_at, dd__law_mixed, dd__law_order_by, dd__law_web_by, dd__law_copied, dd__law_spoilt, dd__law_ringed, dd__law_bad_row, dd_is_number, dd_is_spot, dd_is_web, dd_need_form, dd_play_order, dd_ring_in, dd_need_game, dd_least_missing, dd_numbers_of, dd_lengths_of, dd_shown_moves, dd_need_row, dd_moves_of, dd_moves_in, dd_laid_over, dd_row_number, dd_is_lost, dd_behind, dd_good_moves, dd__law_asked_one, dd_is_move, dd_played, dd_parting_row, dd_joined_webs, dd_paired_web, dd__law_asked, dd__law_told, dd_law]
def hfa : List He.Fa := [.glo "_law_cell_at", .glo "_law_mixed", .glo "_law_order_by", .glo "_law_web_by", .glo "_law_copied", .glo "_law_spoilt", .glo "_law_ringed", .glo "_law_bad_row", .glo "is_number", .glo "is_spot", .glo "is_web", .glo "need_form", .glo "play_order", .glo "ring_in", .glo "need_game", .glo "least_missing", .glo "numbers_of", .glo "lengths_of", .glo "shown_moves", .glo "need_row", .glo "moves_of", .glo "moves_in", .glo "laid_over", .glo "row_number", .glo "is_lost", .glo "behind", .glo "good_moves", .glo "_law_asked_one", .glo "is_move", .glo "played", .glo "parting_row", .glo "joined_webs", .glo "paired_web", .glo "_law_asked", .glo "_law_told", .glo "law", .free "len", .free "range", .free "list", .free "sum", .free "all", .free "any", .free "max", .free "min", .free "isinstance", .free "int", .free "bool", .free "tuple", .free "sorted", .free "enumerate", .free "set", .int "MOST_GAMES" 24, .int "MOST_SPOTS" 200, .glo "NoWeb", .glo "Ringed", .glo "NoRow", .glo "NoMove", .glo "TooMany", .glo "GameError", .free "ValueError"]
def looseN : List Str := (["MOST_SPOTS", "MOST_GAMES", "GameError", "NoWeb", "Ringed", "NoRow", "NoMove", "TooMany", "is_number", "is_spot", "is_web", "need_form", "play_order", "ring_in", "need_game", "joined_webs", "paired_web", "least_missing", "numbers_of", "lengths_of", "shown_moves", "laid_over", "need_row", "moves_of", "moves_in", "is_move", "behind", "played", "row_number", "is_lost"] : List Str) ++ (["good_moves", "parting_row", "_law_cell_at", "_law_mixed", "_law_order_by", "_law_web_by", "_law_copied", "_law_spoilt", "_law_ringed", "_law_bad_row", "_law_asked_one", "_law_asked", "_law_told"] : List Str)
abbrev HR : PySem.W.OpenRow := PySem.W.OpenLaw.row PySem.Challenge.rw_spotsums_k01_what_is_refused
abbrev hhk : PySem.W.Hook := hookX 4 hfa hfn (xfB exNs)
def hob (s : PySem.W.SharedT) : AlX := obsXG 4 hfa hfn (xfB exNs) (HandSHeadRun.getT s)
theorem hob_eq (s : PySem.W.SharedT) : hob s = hhk.obs s.abs := obsXG_eq (HandSHeadRun.getT_eq s)
theorem hrun (w : World) : HandSHeadRun.RunEq HR (PySem.W.view HR.prog [49]) hhk hob 3000 looseN w := by
  intro os
  kernel_rfl
theorem hfacts {P : Program} {w : World} {K : PySem.W.Frag} {h : Heap} {mg : Str → Option Value} {f : Addr} (X : K.In h) (G : h.Ns mainGlobals mg) (hlaw : mg ("law" : Str) = some (.ref f)) (cx : SaysX hfa hfn (xfB exNs) K) :
    ∃ fd : FuncData, (∀ (s : Shared) (v : Value), BindsTo s fd ⟨[v], []⟩ [("_law_script", v)]) ∧ ∀ base : Heap, K.In base → base.Ns mainGlobals mg → FnOk P w K mg base CX0 12 f fd ["_law_script"] (sp_law K) := by
  have c := cx.d
  have gl : ∀ x ∈ exNs, mg x = some (.ref (He.ga K x)) := by
    intro x hx
    rcases List.mem_cons.mp hx with e | hx
    · subst e
      exact He.glo_ok X G (c.fact 53 (f := .glo "NoWeb") rfl)
    rcases List.mem_cons.mp hx with e | hx
    · subst e
      exact He.glo_ok X G (c.fact 54 (f := .glo "Ringed") rfl)
    rcases List.mem_cons.mp hx with e | hx
    · subst e
      exact He.glo_ok X G (c.fact 55 (f := .glo "NoRow") rfl)
    rcases List.mem_cons.mp hx with e | hx
    · subst e
      exact He.glo_ok X G (c.fact 56 (f := .glo "NoMove") rfl)
    rcases List.mem_cons.mp hx with e | hx
    · subst e
      exact He.glo_ok X G (c.fact 57 (f := .glo "TooMany") rfl)
    cases hx
  have T : XT exNs K mg := ⟨xfB_ok cx.ex, gl, He.glo_ok X G (c.fact 58 (f := .glo "GameError") rfl), He.free_ok X G (c.fact 59 (f := .free "ValueError") rfl)⟩
  have B : Blt mg := ⟨He.free_ok X G (c.fact 36 (f := .free "len") rfl), He.free_ok X G (c.fact 37 (f := .free "range") rfl), He.free_ok X G (c.fact 38 (f := .free "list") rfl), He.free_ok X G (c.fact 39 (f := .free "sum") rfl), He.free_ok X G (c.fact 40 (f := .free "all") rfl), He.free_ok X G (c.fact 41 (f := .free "any") rfl), He.free_ok X G (c.fact 42 (f := .free "max") rfl), He.free_ok X G (c.fact 43 (f := .free "min") rfl), He.free_ok X G (c.fact 44 (f := .free "isinstance") rfl), He.free_ok X G (c.fact 45 (f := .free "int") rfl), He.free_ok X G (c.fact 46 (f := .free "bool") rfl), He.free_ok X G (c.fact 47 (f := .free "tuple") rfl), He.free_ok X G (c.fact 48 (f := .free "sorted") rfl), He.free_ok X G (c.fact 49 (f := .free "enumerate") rfl), He.free_ok X G (c.fact 50 (f := .free "set") rfl)⟩
  obtain ⟨fd__law_cell_at, F__law_cell_at⟩ := c.def_ 0 (d := dd__law_cell_at) rfl
  have g__law_cell_at := He.glo_ok X G (c.fact 0 (f := .glo "_law_cell_at") rfl)
  obtain ⟨fd__law_mixed, F__law_mixed⟩ := c.def_ 1 (d := dd__law_mixed) rfl
  have g__law_mixed := He.glo_ok X G (c.fact 1 (f := .glo "_law_mixed") rfl)
  obtain ⟨fd__law_order_by, F__law_order_by⟩ := c.def_ 2 (d := dd__law_order_by) rfl
  have g__law_order_by := He.glo_ok X G (c.fact 2 (f := .glo "_law_order_by") rfl)
  obtain ⟨fd__law_web_by, F__law_web_by⟩ := c.def_ 3 (d := dd__law_web_by) rfl
  have g__law_web_by := He.glo_ok X G (c.fact 3 (f := .glo "_law_web_by") rfl)
  obtain ⟨fd__law_copied, F__law_copied⟩ := c.def_ 4 (d := dd__law_copied) rfl
  have g__law_copied := He.glo_ok X G (c.fact 4 (f := .glo "_law_copied") rfl)
  obtain ⟨fd__law_spoilt, F__law_spoilt⟩ := c.def_ 5 (d := dd__law_spoilt) rfl
  have g__law_spoilt := He.glo_ok X G (c.fact 5 (f := .glo "_law_spoilt") rfl)
  obtain ⟨fd__law_ringed, F__law_ringed⟩ := c.def_ 6 (d := dd__law_ringed) rfl
  have g__law_ringed := He.glo_ok X G (c.fact 6 (f := .glo "_law_ringed") rfl)
  obtain ⟨fd__law_bad_row, F__law_bad_row⟩ := c.def_ 7 (d := dd__law_bad_row) rfl
  have g__law_bad_row := He.glo_ok X G (c.fact 7 (f := .glo "_law_bad_row") rfl)
  obtain ⟨fd_is_number, F_is_number⟩ := c.def_ 8 (d := dd_is_number) rfl
  have g_is_number := He.glo_ok X G (c.fact 8 (f := .glo "is_number") rfl)
  obtain ⟨fd_is_spot, F_is_spot⟩ := c.def_ 9 (d := dd_is_spot) rfl
  have g_is_spot := He.glo_ok X G (c.fact 9 (f := .glo "is_spot") rfl)
  obtain ⟨fd_is_web, F_is_web⟩ := c.def_ 10 (d := dd_is_web) rfl
  have g_is_web := He.glo_ok X G (c.fact 10 (f := .glo "is_web") rfl)
  obtain ⟨fd_need_form, F_need_form⟩ := c.def_ 11 (d := dd_need_form) rfl
  have g_need_form := He.glo_ok X G (c.fact 11 (f := .glo "need_form") rfl)
  obtain ⟨fd_play_order, F_play_order⟩ := c.def_ 12 (d := dd_play_order) rfl
  have g_play_order := He.glo_ok X G (c.fact 12 (f := .glo "play_order") rfl)
  obtain ⟨fd_ring_in, F_ring_in⟩ := c.def_ 13 (d := dd_ring_in) rfl
  have g_ring_in := He.glo_ok X G (c.fact 13 (f := .glo "ring_in") rfl)
  obtain ⟨fd_need_game, F_need_game⟩ := c.def_ 14 (d := dd_need_game) rfl
  have g_need_game := He.glo_ok X G (c.fact 14 (f := .glo "need_game") rfl)
  obtain ⟨fd_least_missing, F_least_missing⟩ := c.def_ 15 (d := dd_least_missing) rfl
  have g_least_missing := He.glo_ok X G (c.fact 15 (f := .glo "least_missing") rfl)
  obtain ⟨fd_numbers_of, F_numbers_of⟩ := c.def_ 16 (d := dd_numbers_of) rfl
  have g_numbers_of := He.glo_ok X G (c.fact 16 (f := .glo "numbers_of") rfl)
  obtain ⟨fd_lengths_of, F_lengths_of⟩ := c.def_ 17 (d := dd_lengths_of) rfl
  have g_lengths_of := He.glo_ok X G (c.fact 17 (f := .glo "lengths_of") rfl)
  obtain ⟨fd_shown_moves, F_shown_moves⟩ := c.def_ 18 (d := dd_shown_moves) rfl
  have g_shown_moves := He.glo_ok X G (c.fact 18 (f := .glo "shown_moves") rfl)
  obtain ⟨fd_need_row, F_need_row⟩ := c.def_ 19 (d := dd_need_row) rfl
  have g_need_row := He.glo_ok X G (c.fact 19 (f := .glo "need_row") rfl)
  obtain ⟨fd_moves_of, F_moves_of⟩ := c.def_ 20 (d := dd_moves_of) rfl
  have g_moves_of := He.glo_ok X G (c.fact 20 (f := .glo "moves_of") rfl)
  obtain ⟨fd_moves_in, F_moves_in⟩ := c.def_ 21 (d := dd_moves_in) rfl
  have g_moves_in := He.glo_ok X G (c.fact 21 (f := .glo "moves_in") rfl)
  obtain ⟨fd_laid_over, F_laid_over⟩ := c.def_ 22 (d := dd_laid_over) rfl
  have g_laid_over := He.glo_ok X G (c.fact 22 (f := .glo "laid_over") rfl)
  obtain ⟨fd_row_number, F_row_number⟩ := c.def_ 23 (d := dd_row_number) rfl
  have g_row_number := He.glo_ok X G (c.fact 23 (f := .glo "row_number") rfl)
  obtain ⟨fd_is_lost, F_is_lost⟩ := c.def_ 24 (d := dd_is_lost) rfl
  have g_is_lost := He.glo_ok X G (c.fact 24 (f := .glo "is_lost") rfl)
  obtain ⟨fd_behind, F_behind⟩ := c.def_ 25 (d := dd_behind) rfl
  have g_behind := He.glo_ok X G (c.fact 25 (f := .glo "behind") rfl)
  obtain ⟨fd_good_moves, F_good_moves⟩ := c.def_ 26 (d := dd_good_moves) rfl
  have g_good_moves := He.glo_ok X G (c.fact 26 (f := .glo "good_moves") rfl)
  obtain ⟨fd__law_asked_one, F__law_asked_one⟩ := c.def_ 27 (d := dd__law_asked_one) rfl
  have g__law_asked_one := He.glo_ok X G (c.fact 27 (f := .glo "_law_asked_one") rfl)
  obtain ⟨fd_is_move, F_is_move⟩ := c.def_ 28 (d := dd_is_move) rfl
  have g_is_move := He.glo_ok X G (c.fact 28 (f := .glo "is_move") rfl)
  obtain ⟨fd_played, F_played⟩ := c.def_ 29 (d := dd_played) rfl
  have g_played := He.glo_ok X G (c.fact 29 (f := .glo "played") rfl)
  obtain ⟨fd_parting_row, F_parting_row⟩ := c.def_ 30 (d := dd_parting_row) rfl
  have g_parting_row := He.glo_ok X G (c.fact 30 (f := .glo "parting_row") rfl)
  obtain ⟨fd_joined_webs, F_joined_webs⟩ := c.def_ 31 (d := dd_joined_webs) rfl
  have g_joined_webs := He.glo_ok X G (c.fact 31 (f := .glo "joined_webs") rfl)
  obtain ⟨fd_paired_web, F_paired_web⟩ := c.def_ 32 (d := dd_paired_web) rfl
  have g_paired_web := He.glo_ok X G (c.fact 32 (f := .glo "paired_web") rfl)
  obtain ⟨fd__law_asked, F__law_asked⟩ := c.def_ 33 (d := dd__law_asked) rfl
  have g__law_asked := He.glo_ok X G (c.fact 33 (f := .glo "_law_asked") rfl)
  obtain ⟨fd__law_told, F__law_told⟩ := c.def_ 34 (d := dd__law_told) rfl
  have g__law_told := He.glo_ok X G (c.fact 34 (f := .glo "_law_told") rfl)
  obtain ⟨fd_law, F_law⟩ := c.def_ 35 (d := dd_law) rfl
  obtain ⟨tk_MOST_GAMES, c_MOST_GAMES⟩ := He.int_ok X G (c.fact 51 (f := .int "MOST_GAMES" 24) rfl)
  obtain ⟨tk_MOST_SPOTS, c_MOST_SPOTS⟩ := He.int_ok X G (c.fact 52 (f := .int "MOST_SPOTS" 200) rfl)
  have e := hlaw.symm.trans (He.glo_ok X G (c.fact 35 (f := .glo "law") rfl))
  cases e
  have b := FunD.bindsA (ps := ["_law_script"]) F_law fun _ _ _ _ _ _ us hl => match us, hl with | [_], _ => rfl
  refine ⟨fd_law, fun s v => b s [v] rfl, fun base _ _ => ?_⟩
  have D__law_cell_at : DF__law_cell_at P w K mg base := df__law_cell_at B T F__law_cell_at g__law_cell_at
  have D__law_mixed : DF__law_mixed P w K mg base := df__law_mixed B T F__law_mixed g__law_mixed
  have D__law_order_by : DF__law_order_by P w K mg base := df__law_order_by B T D__law_mixed F__law_order_by g__law_order_by
  have D__law_web_by : DF__law_web_by P w K mg base := df__law_web_by B T D__law_cell_at D__law_order_by D__law_mixed F__law_web_by g__law_web_by
  have D__law_copied : DF__law_copied P w K mg base := df__law_copied B T F__law_copied g__law_copied
  have D__law_spoilt : DF__law_spoilt P w K mg base := df__law_spoilt B T D__law_copied F__law_spoilt g__law_spoilt
  have D__law_ringed : DF__law_ringed P w K mg base := df__law_ringed B T D__law_copied F__law_ringed g__law_ringed
  have D__law_bad_row : DF__law_bad_row P w K mg base := df__law_bad_row B T F__law_bad_row g__law_bad_row
  have D_is_number : DF_is_number P w K mg base := df_is_number B T F_is_number g_is_number
  have D_is_spot : DF_is_spot P w K mg base := df_is_spot B T D_is_number F_is_spot g_is_spot
  have D_is_web : DF_is_web P w K mg base := df_is_web B T c_MOST_SPOTS D_is_spot F_is_web g_is_web
  have D_need_form : DF_need_form P w K mg base := df_need_form B T D_is_web F_need_form g_need_form
  have D_play_order : DF_play_order P w K mg base := df_play_order B T F_play_order g_play_order
  have D_ring_in : DF_ring_in P w K mg base := df_ring_in B T D_need_form D_play_order F_ring_in g_ring_in
  have D_need_game : DF_need_game P w K mg base := df_need_game B T D_need_form D_play_order F_need_game g_need_game
  have D_least_missing : DF_least_missing P w K mg base := df_least_missing B T F_least_missing g_least_missing
  have D_numbers_of : DF_numbers_of P w K mg base := df_numbers_of B T D_need_game D_play_order D_least_missing F_numbers_of g_numbers_of
  have D_lengths_of : DF_lengths_of P w K mg base := df_lengths_of B T D_need_game D_play_order F_lengths_of g_lengths_of
  have D_shown_moves : DF_shown_moves P w K mg base := df_shown_moves B T D_numbers_of F_shown_moves g_shown_moves
  have D_need_row : DF_need_row P w K mg base := df_need_row B T c_MOST_GAMES D_is_number F_need_row g_need_row
  have D_moves_of : DF_moves_of P w K mg base := df_moves_of B T F_moves_of g_moves_of
  have D_moves_in : DF_moves_in P w K mg base := df_moves_in B T D_need_game D_need_row D_moves_of F_moves_in g_moves_in
  have D_laid_over : DF_laid_over P w K mg base := df_laid_over B T F_laid_over g_laid_over
  have D_row_number : DF_row_number P w K mg base := df_row_number B T D_numbers_of D_need_row D_laid_over F_row_number g_row_number
  have D_is_lost : DF_is_lost P w K mg base := df_is_lost B T D_row_number F_is_lost g_is_lost
  have D_behind : DF_behind P w K mg base := df_behind B T F_behind g_behind
  have D_good_moves : DF_good_moves P w K mg base := df_good_moves B T D_numbers_of D_need_row D_moves_of D_laid_over D_behind F_good_moves g_good_moves
  have D__law_asked_one : DF__law_asked_one P w K mg base := df__law_asked_one B T D_ring_in D_numbers_of D_lengths_of D_shown_moves D_moves_in D_row_number D_is_lost D_good_moves F__law_asked_one g__law_asked_one
  have D_is_move : DF_is_move P w K mg base := df_is_move B T D_is_number F_is_move g_is_move
  have D_played : DF_played P w K mg base := df_played B T D_need_game D_need_row D_is_move D_behind F_played g_played
  have D_parting_row : DF_parting_row P w K mg base := df_parting_row B T D_row_number F_parting_row g_parting_row
  have D_joined_webs : DF_joined_webs P w K mg base := df_joined_webs B T c_MOST_SPOTS D_need_form F_joined_webs g_joined_webs
  have D_paired_web : DF_paired_web P w K mg base := df_paired_web B T c_MOST_SPOTS D_need_form F_paired_web g_paired_web
  have D__law_asked : DF__law_asked P w K mg base := df__law_asked B T D__law_asked_one D_played D_parting_row D_joined_webs D_paired_web F__law_asked g__law_asked
  have D__law_told : DF__law_told P w K mg base := df__law_told B T D__law_asked F__law_told g__law_told
  exact ok_law B T D__law_web_by D__law_cell_at D__law_spoilt D__law_ringed D__law_bad_row D_is_web D__law_told D__law_copied F_law
end Sp
open PySem PySem.W PySem.Calls PyProof.Rows
theorem PySem.Challenge.cw_spotsums_k01_what_is_refused_holds : PySem.Challenge.rw_spotsums_k01_what_is_refused.Holds := by
  w_on; o_law
  refine HandSHeadRun.head_any (r := OpenLaw.row PySem.Challenge.rw_spotsums_k01_what_is_refused) (q := view (OpenLaw.row PySem.Challenge.rw_spotsums_k01_what_is_refused).prog [49]) (H := Sp.hhk) (ob := Sp.hob) (M := 3000) (loose := Sp.looseN) (d := HandSHeadRun.topDef (OpenLaw.row PySem.Challenge.rw_spotsums_k01_what_is_refused).prog 49) (kwd := []) Sp.hob_eq
    (by kernel_rfl) (fun s => by kernel_rfl) Sp.hrun (by kernel_rfl) (by kernel_rfl) (by kernel_rfl) (by rfl) (by first | assumption | decide +kernel) (by decide +kernel) ⟨rfl, rfl, rfl, rfl, rfl, by decide +kernel⟩ ?hw ?hc
  case hw => w_witness2
  case hc =>
    refine Sp.walk_bits (l := PySem.Challenge.rw_spotsums_k01_what_is_refused) (n := 63) (k := 12) (x := "_law_script") (CX := L2.CX0) rfl (by decide) (by kernel_rfl) ⟨rfl, by decide, by decide⟩ ?F (fun _ _ _ _ z => z)
    intro w mg fa h Y G hmg0
    obtain ⟨K, KX, c⟩ := Y
    have hmg : mg ("law" : PySem.Str) = some (.ref fa) := by
      have e : (HandSHeadRun.topDef (OpenLaw.row PySem.Challenge.rw_spotsums_k01_what_is_refused).prog 49).name = ("law" : PySem.Str) := by kernel_rfl
      rw [← e]
      exact hmg0
    obtain ⟨fd, hb, hF⟩ := Sp.hfacts (P := (PySem.Challenge.rw_spotsums_k01_what_is_refused).prog) (w := w) KX G hmg c
    exact ⟨K, fd, Sp.sp_law K, KX, hb, fun H a ns hl hbits _ hS => ⟨a, ns, rfl, hS, hl, hbits, fun _ => rfl⟩, hF⟩
#print axioms PySem.Challenge.cw_spotsums_k01_what_is_refused_holds
