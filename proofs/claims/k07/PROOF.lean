import PyProof.Rows.All
import Wide.All
import OpenK.AllK
import Wide.FinOn
import KE.KStateDown
import Lean
import HandS.ForMost
import HandS.WordsExc
import HandS.IsInst
import HandS.Conv
import HandS.Wide
import HandS.SortInts
import HandS.TupLe
import HandS.Walk
import HandS.Zip
import HandS.Defaults
import HandS.EndBits
import HandS.Head0
import HandS.Head1
import HandS.Head2
import HandS.HeadEnd
import HandS.HeadHook1
import HandS.HeadHook2
import HandS.ExcOwn
import HandS.ExcIs
import PySem.Challenge.RW_spotsums_k07_moves_in_rows
set_option Elab.async false
set_option linter.all false
set_option maxRecDepth 100000
set_option maxHeartbeats 0
namespace Sp
open PySem PySem.Spec PyProof.Rows L2
/-! ### readings by short names -/
abbrev rAdd : R2 := rI0 fun i j => .int (i + j)
abbrev rSub : R2 := rI0 fun i j => .int (i - j)
abbrev rMul : R2 := rI CMul fun i j => .int (i * j)
abbrev rMulB : R2 := rI IntMulOk fun i j => .int (i * j)
abbrev rDiv : R2 := rI CDiv fun i j => .int (i / j)
abbrev rDivW : R2 := rI CDivW fun i j => .int (i / j)
abbrev rMod : R2 := rI (fun _ j => 0 < j) fun i j => .int (i % j)
abbrev rPow : R2 := rI CPow fun i j => .int (i ^ j.toNat)
abbrev rLt : R2 := rI0 fun i j => .bl (decide (i < j))
abbrev rLe : R2 := rI0 fun i j => .bl (decide (i ≤ j))
abbrev rGt : R2 := rI0 fun i j => .bl (decide (j < i))
abbrev rGe : R2 := rI0 fun i j => .bl (decide (j ≤ i))
abbrev rIsN : R2 := fun x y H Q => y = .non ∧ Q (.bl (decide (x = .non))) H
abbrev rNotN : R2 := fun x y H Q => y = .non ∧ Q (.bl (!decide (x = .non))) H
abbrev rLen (K : PySem.W.Frag) : List V → Hp → VK → Prop := fun xs H Q => ∃ p ys, xs = [.ref p] ∧ (SqL K H p ys ∨ SqT K H p ys) ∧ Q (.int ys.length) H
abbrev rList (K : PySem.W.Frag) : List V → Hp → VK → Prop := fun xs H Q => ∃ p ys, xs = [.ref p] ∧ (SqL K H p ys ∨ SqT K H p ys) ∧ ∀ l, H l = none → Q (.ref l) (upd H l (.lst ys))
abbrev rTuple (K : PySem.W.Frag) : List V → Hp → VK → Prop := fun xs H Q => ∃ p ys, xs = [.ref p] ∧ ((SqL K H p ys ∧ ∀ l, H l = none → Q (.ref l) (upd H l (.tup ys))) ∨ (SqT K H p ys ∧ Q (.ref p) H))
abbrev rMax2 : List V → Hp → VK → Prop := fun xs H Q => ∃ i j, xs = [.int i, .int j] ∧ Q (.int (if j > i then j else i)) H
abbrev rMin2 : List V → Hp → VK → Prop := fun xs H Q => ∃ i j, xs = [.int i, .int j] ∧ Q (.int (if j < i then j else i)) H
theorem op_mulB {X : Cx} : OpR X (binaryOp .Mult) rMulB := opI fun _ _ _ _ _ _ _ hc q => mul_int q hc
/-! ### a def as a caller takes it -/
structure Df (P : Program) (w : World) (K : PySem.W.Frag) (mg : Str → Option Value) (base : Heap) (k : Nat) (x : Str) (ps : List Str) (sp : Sp) : Prop where
  ex : ∃ (f : Addr) (fd : FuncData), FnOk P w K mg base CX0 k f fd ps sp ∧ mg x = some (.ref f) ∧ PySem.W.keepIn K (.ref f) = true ∧ Binds K fd ps []
theorem pe_cd {X : Cx} {k : Nat} {x : Str} {ps : List Str} {sp : Sp} {e : Expr} {es : List Expr} {t : TA} {p pos : Pos} (D : Df X.prog X.w X.K X.mg X.base k x ps sp) (hr : Room k X.A) (hg : Gl X x) (ha : PA X (e :: es) t)
    (hdb : (x == ("__debug__" : Str)) = false := by decide) (he : starEach (e :: es) X.env = (false, eval e X.env) :: starEach es X.env := by rfl) (hpl : (backTo pos (starEach es X.env)).any (·.1) = false := by rfl) :
    PE X (.Call (.Name x p) (e :: es) [] pos) (tCall sp [] E0 t) := by
  obtain ⟨f, fd, F, g, kp, b⟩ := D.ex
  exact pe_call F hr hg g kp b .nil pass0 ha hdb he hpl
/-- the built-in names that no name of the module hides -/
structure Blt (mg : Str → Option Value) : Prop where
  len : mg "len" = none
  range : mg "range" = none
  list : mg "list" = none
  sum : mg "sum" = none
  all : mg "all" = none
  any : mg "any" = none
  max : mg "max" = none
  min : mg "min" = none
  isinstance : mg "isinstance" = none
  int : mg "int" = none
  bool : mg "bool" = none
  tuple : mg "tuple" = none
  sorted : mg "sorted" = none
  enumerate : mg "enumerate" = none
  set : mg "set" = none
/-! ### a word between two statements -/
def tMid (t u : TS) : TS := fun D σ H => ∃ M : L2.St → Hp → Prop, t { D with nx := M } σ H ∧ ∀ σ' H', M σ' H' → u D σ' H'
theorem pss_mid {X : Cx} {st : Stmt} {rest : List Stmt} {t u : TS} (h1 : PS X st t) (h2 : PSs X rest u) : PSs X (st :: rest) (tMid t u) := by
  refine ⟨fun pins s σ H D I h => ?_⟩
  obtain ⟨M, hm, hu⟩ := h
  have run := h1.run pins s σ H { D with nx := M } I hm
  refine wpAny_execs_cons (thn run fun f s1 q => ?_)
  cases f with
  | next =>
    obtain ⟨σ1, H1, I1, q1⟩ := q
    exact h2.run pins s1 σ1 H1 D I1 (hu σ1 H1 q1)
  | brk => exact q
  | cont => exact q
  | ret v => exact q
/-- a law's end by the head's facts, the script's bits told -/
theorem walk_bits {l : PySem.W.OpenLaw} {n k : Nat} {q : Program} {loose : List Str} {XP : (Str → Option Value) → Heap → Prop} {YP : World → Heap → Prop} {d : DefRec} {CX : CXT} {x : Str}
    (hn : l.most = some n) (hn2 : n ≤ sizeLine) (hdf : d.params.defaults = []) (hr : Room k callerA)
    (F : ∀ (w : World) (mg : Str → Option Value) (fa : Addr) (h : Heap), YP w h → h.Ns mainGlobals mg → mg d.name = some (.ref fa) →
      ∃ (K : PySem.W.Frag) (fd : FuncData) (sp : Sp), K.In h ∧ (∀ (s : Shared) (u : Value), BindsTo s fd ⟨[u], []⟩ [(x, u)]) ∧
        (∀ (H : Hp) (a : Addr) (ns : List Int), ns.length ≤ n → (∀ z ∈ ns, Builtin.Int.intBits z ≤ 1048576) → Only H → SqL K H a (ns.map V.int) → sp [.ref a] H (fun v _ => v = .bl true) fun _ _ _ => False) ∧
        ∀ base : Heap, K.In base → base.Ns mainGlobals mg → FnOk l.prog w K mg base CX k fa fd [x] sp)
    (hCX : ∀ (H : Hp) (s : Shared) (e : Value) (s' : Shared), CX [] H s (fun _ _ _ => False) e s' → False) :
    PySem.W.WalkO q loose XP YP l.row.toRowW d [] (fun f vs => PySem.call f vs) := by
  refine Att.attach_callB hn hdf fun w _ s1 mg _ fa _ _ _ _ a vs ns G Y _ _ _ hmg hobj hints hlen hbits hg => ?_
  obtain ⟨K, fd, sp, KX, hb, hsp, hF⟩ := F w mg fa s1.heap Y G.T.g hmg
  exact law_call KX G.T.g G.T.b G.T.builtins G.T.nolimit hg hobj hints (Nat.le_trans hlen hn2) hr hF hb (fun H hO hS => hsp H a ns hlen hbits hO hS) fun H e s' z => hCX H s1 e s' z
/-! ### heaps -/
theorem same_new {H : Hp} {p : Addr} {o : HO} (h : H p = none) : Same H (upd H p o) := fun b x e => by
  rw [upd_ne (ne_of_none e h)]
  exact e
theorem _root_.L2.Same.new {H H1 : Hp} {p : Addr} {o : HO} (s : Same H H1) (h : H1 p = none) : Same H (upd H1 p o) := s.trans (same_new h)
/-- what H doesn't know may change -/
theorem _root_.L2.Same.mut {H H1 : Hp} {p : Addr} {o : HO} (s : Same H H1) (h : H p = none) : Same H (upd H1 p o) := fun b x e => by
  rw [upd_ne (ne_of_none e h)]
  exact s b x e
theorem line_le {n : Nat} (h : n ≤ 100000) : n ≤ sizeLine := Nat.le_trans h (by rw [sizeLine_eq]; decide)
theorem line_lt {n : Nat} (h : n < 100000) : n < sizeLine := Nat.lt_of_lt_of_le h (by rw [sizeLine_eq]; decide)
/-! ### numbers as values -/
abbrev nv (n : Nat) : V := .int (n : Int)
def nvs (l : List Nat) : List V := l.map nv
theorem nvs_int (l : List Nat) : nvs l = (l.map fun n : Nat => (n : Int)).map V.int := by
  rw [List.map_map]
  rfl
theorem nvs_length (l : List Nat) : (nvs l).length = l.length := List.length_map ..
theorem nvs_append (l m : List Nat) : nvs (l ++ m) = nvs l ++ nvs m := List.map_append
theorem nvs_get {l : List Nat} {i n : Nat} (h : l[i]? = some n) : (nvs l)[i]? = some (nv n) := by
  unfold nvs
  rw [List.getElem?_map, h]
  rfl
theorem nvs_at {l : List Nat} {i n : Nat} (h : l[i]? = some n) : atI (nvs l) (i : Int) = some (nv n) := atI_nat (nvs_get h)
theorem nv_inj {a b : Nat} (h : nv a = nv b) : a = b := Int.ofNat.inj (V.int.inj h)
theorem inV_int (x : Int) (xs : List Int) : inV (.int x) (xs.map V.int) = decide (x ∈ xs) := by
  unfold inV
  rw [List.any_map]
  rw [Bool.eq_iff_iff, List.any_eq_true, decide_eq_true_iff]
  constructor
  · rintro ⟨y, hy, e⟩
    have e2 : (y == x) = true := e
    rw [beq_iff_eq] at e2
    rw [← e2]
    exact hy
  · intro h
    exact ⟨x, h, show (x == x) = true from beq_self_eq_true x⟩
theorem inV_nv (x : Nat) (xs : List Nat) : inV (nv x) (nvs xs) = decide (x ∈ xs) := by
  rw [nvs_int, inV_int]
  rw [Bool.eq_iff_iff, decide_eq_true_iff, decide_eq_true_iff]
  constructor
  · intro h
    obtain ⟨y, hy, e⟩ := List.mem_map.mp h
    rw [← Int.ofNat.inj e]
    exact hy
  · exact fun h => List.mem_map.mpr ⟨x, h, rfl⟩
theorem flat_nvs (l : List Nat) : (nvs l).all flatV = true := by
  rw [List.all_eq_true]
  intro v hv
  obtain ⟨n, _, rfl⟩ := List.mem_map.mp hv
  rfl
theorem sum_nat (l : List Nat) : (l.map fun n : Nat => (n : Int)).sum = ((l.sum : Nat) : Int) := by
  induction l with
  | nil => rfl
  | cons a r ih =>
    rw [List.map_cons, List.sum_cons, List.sum_cons, ih]
    omega
/-! ### comprehensions -/
section
variable {K : PySem.W.Frag} {α : Type} {tt : TT} {te : TE} {σ : L2.St} {H : Hp} {j : Nat} {P : Addr → Hp → Prop}
theorem wipe1 (σ : L2.St) (j : Nat) (x : V) : wipe ((wipe σ [j]).set j (some x)) [j] = wipe σ [j] := by
  show ((σ.set j none).set j (some x)).set j none = σ.set j none
  rw [List.set_set, List.set_set]
theorem wipe1b (σ : L2.St) (j : Nat) (x : V) : (wipe σ [j]).set j (some x) = σ.set j (some x) := by
  show (σ.set j none).set j (some x) = σ.set j (some x)
  rw [List.set_set]
/-- [e for x in xs if t]: values, the source a list -/
theorem lcL {a : Addr} (ds : List α) (enc : α → V) (f : α → Bool) (v : α → V) (hs : SqL K H a (ds.map enc)) (hz : ds.length ≤ 40000)
    (step : ∀ d ∈ ds, ∀ (H1 : Hp) (Qy : VK) (Qf : Hp → Prop), Same H H1 → (f d = true → ∀ H2, Same H1 H2 → Qy (v d) H2) → (f d = false → ∀ H2, Same H1 H2 → Qf H2) →
      tt (σ.set j (some (enc d))) H1 fun b H2 => if b = true then te (σ.set j (some (enc d))) H2 Qy else Qf H2)
    (done : ∀ D H1, H D = none → Same H H1 → H1 D = some (.lst ((ds.filter f).map v)) → P D H1) :
    ∀ D, H D = none → ∃ W : Nat → Nat → Hp → Prop, (∃ m, W 0 m (upd H D (.lst []))) ∧ ∀ i m H, W i m H →
      ((Itl K a).stop i H ∧ P D H) ∨ ((Itl K a).go i H ∧ ∃ Nx : Hp → Prop, (∀ H', Nx H' → ∃ m', m' < m ∧ W (i + 1) m' H') ∧ ∀ x H', (Itl K a).yld i H x H' → gName j x (wipe σ [j]) H' fun σ2 H2 => wipe σ2 [j] = wipe σ [j] ∧ tt σ2 H2 fun b H3 =>
        if b = true then te σ2 H3 fun y H4 => ∃ acc, H4 D = some (.lst acc) ∧ acc.length < sizeLine ∧ Nx (upd H4 D (.lst (acc ++ [y]))) else Nx H3) := by
  intro D hD
  refine lc_list (xs := ds.map enc) (fun i H' => Same H H' ∧ H' D = some (.lst (((ds.take i).filter f).map v))) ⟨same_new hD, upd_same⟩ (fun i H' _ p => p.1.seq hs) (fun i x H' hi p => ?_) (fun H' p => ?_)
  · rw [List.getElem?_map] at hi
    cases hd : ds[i]? with
    | none => rw [hd] at hi; cases hi
    | some d =>
      rw [hd] at hi
      have ex : enc d = x := Option.some.inj hi
      subst ex
      show wipe ((wipe σ [j]).set j (some (enc d))) [j] = wipe σ [j] ∧ tt ((wipe σ [j]).set j (some (enc d))) H' _
      refine ⟨wipe1 _ _ _, ?_⟩
      rw [wipe1b]
      have et : ds.take (i + 1) = ds.take i ++ [d] := by
        rw [List.take_add_one, hd]
        rfl
      refine step d (List.mem_of_getElem? hd) H' _ _ p.1 (fun hf H2 s2 => ?_) (fun hf H2 s2 => ?_)
      · refine ⟨_, s2 D _ p.2, line_lt ?_, (p.1.trans s2).mut hD, ?_⟩
        · rw [List.length_map]
          have h1 := List.length_filter_le f (ds.take i)
          have h2 : (ds.take i).length ≤ ds.length := by rw [List.length_take]; omega
          omega
        · rw [upd_same, et, List.filter_append, List.map_append, List.filter_cons, if_pos hf]
          rfl
      · refine ⟨p.1.trans s2, ?_⟩
        rw [et, List.filter_append, List.filter_cons, if_neg (by rw [hf]; exact Bool.false_ne_true), List.filter_nil, List.append_nil]
        exact s2 D _ p.2
  · rw [List.length_map, List.take_length] at p
    exact done D H' hD p.1 p.2
/-- the same, the source a range from 0 -/
theorem lcR {n : Nat} (f : Nat → Bool) (v : Nat → V) (hz : n ≤ 40000)
    (step : ∀ i < n, ∀ (H1 : Hp) (Qy : VK) (Qf : Hp → Prop), Same H H1 → (f i = true → ∀ H2, Same H1 H2 → Qy (v i) H2) → (f i = false → ∀ H2, Same H1 H2 → Qf H2) →
      tt (σ.set j (some (nv i))) H1 fun b H2 => if b = true then te (σ.set j (some (nv i))) H2 Qy else Qf H2)
    (done : ∀ D H1, H D = none → Same H H1 → H1 D = some (.lst (((List.range n).filter f).map v)) → P D H1) :
    ∀ D, H D = none → ∃ W : Nat → Nat → Hp → Prop, (∃ m, W 0 m (upd H D (.lst []))) ∧ ∀ i m H, W i m H →
      ((Itr 0 n).stop i H ∧ P D H) ∨ ((Itr 0 n).go i H ∧ ∃ Nx : Hp → Prop, (∀ H', Nx H' → ∃ m', m' < m ∧ W (i + 1) m' H') ∧ ∀ x H', (Itr 0 n).yld i H x H' → gName j x (wipe σ [j]) H' fun σ2 H2 => wipe σ2 [j] = wipe σ [j] ∧ tt σ2 H2 fun b H3 =>
        if b = true then te σ2 H3 fun y H4 => ∃ acc, H4 D = some (.lst acc) ∧ acc.length < sizeLine ∧ Nx (upd H4 D (.lst (acc ++ [y]))) else Nx H3) := by
  intro D hD
  refine lc_range (fun i H' => Same H H' ∧ H' D = some (.lst (((List.range i).filter f).map v))) ⟨same_new hD, upd_same⟩ (fun i H' hi p => ?_) (fun H' p => done D H' hD p.1 p.2)
  show wipe ((wipe σ [j]).set j (some (.int ((0 : Int) + (i : Int))))) [j] = wipe σ [j] ∧ tt ((wipe σ [j]).set j (some (.int ((0 : Int) + (i : Int))))) H' _
  rw [Int.zero_add]
  refine ⟨wipe1 _ _ _, ?_⟩
  rw [wipe1b]
  refine step i hi H' _ _ p.1 (fun hf H2 s2 => ?_) (fun hf H2 s2 => ?_)
  · refine ⟨_, s2 D _ p.2, line_lt ?_, (p.1.trans s2).mut hD, ?_⟩
    · rw [List.length_map]
      have h1 := List.length_filter_le f (List.range i)
      rw [List.length_range] at h1
      omega
    · rw [upd_same, List.range_succ, List.filter_append, List.map_append, List.filter_cons, if_pos hf]
      rfl
  · refine ⟨p.1.trans s2, ?_⟩
    rw [List.range_succ, List.filter_append, List.filter_cons, if_neg (by rw [hf]; exact Bool.false_ne_true), List.filter_nil, List.append_nil]
    exact s2 D _ p.2
end
/-! ### lists of lists -/
/-- ps: lists of their own, of these contents -/
structure Rows (H : Hp) (ps : List Addr) (cs : List (List V)) : Prop where
  len : ps.length = cs.length
  at_ : ∀ (i : Nat) (p : Addr) (c : List V), ps[i]? = some p → cs[i]? = some c → H p = some (.lst c)
theorem Rows.same {H H1 : Hp} {ps : List Addr} {cs : List (List V)} (r : Rows H ps cs) (s : Same H H1) : Rows H1 ps cs := ⟨r.len, fun i p c h1 h2 => s p _ (r.at_ i p c h1 h2)⟩
theorem Rows.get {H : Hp} {ps : List Addr} {cs : List (List V)} (r : Rows H ps cs) {i : Nat} {c : List V} (h : cs[i]? = some c) : ∃ p, ps[i]? = some p ∧ H p = some (.lst c) := by
  have h1 : i < cs.length := (List.getElem?_eq_some_iff.mp h).1
  have h2 : i < ps.length := by rw [r.len]; exact h1
  exact ⟨ps[i], List.getElem?_eq_getElem h2, r.at_ i _ c (List.getElem?_eq_getElem h2) h⟩
/-- a web (a list of lists) of these rows: it stands at a -/
def Lol (H : Hp) (a : Addr) (cs : List (List V)) : Prop := ∃ ps : List Addr, H a = some (.lst (ps.map V.ref)) ∧ Rows H ps cs
theorem Lol.same {H H1 : Hp} {a : Addr} {cs : List (List V)} (r : Lol H a cs) (s : Same H H1) : Lol H1 a cs := let ⟨ps, h, q⟩ := r; ⟨ps, s _ _ h, q.same s⟩
/-- the same, every list of its own and new to H0 -/
def LolN (H0 H : Hp) (a : Addr) (cs : List (List V)) : Prop := ∃ ps : List Addr, H a = some (.lst (ps.map V.ref)) ∧ Rows H ps cs ∧ ps.Nodup ∧ a ∉ ps ∧ H0 a = none ∧ ∀ p ∈ ps, H0 p = none
theorem LolN.lol {H0 H : Hp} {a : Addr} {cs : List (List V)} (r : LolN H0 H a cs) : Lol H a cs := let ⟨ps, h, q, _⟩ := r; ⟨ps, h, q⟩
theorem LolN.same {H0 H H1 : Hp} {a : Addr} {cs : List (List V)} (r : LolN H0 H a cs) (s : Same H H1) : LolN H0 H1 a cs := let ⟨ps, h, q, x⟩ := r; ⟨ps, s _ _ h, q.same s, x⟩
theorem Lol.at_ {H : Hp} {a : Addr} {cs : List (List V)} (r : Lol H a cs) {i : Nat} {c : List V} (h : cs[i]? = some c) {ps : List Addr} (e : H a = some (.lst (ps.map V.ref))) : ∃ p, ps[i]? = some p ∧ H p = some (.lst c) := by
  obtain ⟨qs, e2, R⟩ := r
  rw [e] at e2
  have e3 : ps = qs := List.map_inj_right (fun _ _ z => V.ref.inj z) |>.mp (HO.lst.inj (Option.some.inj e2))
  subst e3
  exact R.get h
section
variable {K : PySem.W.Frag} {α : Type} {te : TE} {σ : L2.St} {H : Hp} {j : Nat} {P : Addr → Hp → Prop}
theorem rows_add {H H1 : Hp} {ps : List Addr} {cs : List (List V)} {p : Addr} {c : List V} (r : Rows H ps cs) (s : ∀ q ∈ ps, ∀ o, H q = some o → H1 q = some o) (hp : H1 p = some (.lst c)) : Rows H1 (ps ++ [p]) (cs ++ [c]) := by
  refine ⟨by rw [List.length_append, List.length_append, r.len]; rfl, fun i q d h1 h2 => ?_⟩
  by_cases hi : i < ps.length
  · rw [List.getElem?_append_left hi] at h1
    rw [List.getElem?_append_left (by rw [← r.len]; exact hi)] at h2
    exact s q (List.mem_of_getElem? h1) _ (r.at_ i q d h1 h2)
  · rw [List.getElem?_append_right (by omega)] at h1
    rw [List.getElem?_append_right (by rw [← r.len]; omega)] at h2
    rw [r.len] at h1
    cases e : i - cs.length with
    | zero =>
      rw [e] at h1 h2
      have e1 : p = q := Option.some.inj h1
      have e2 : c = d := Option.some.inj h2
      rw [← e1, ← e2]
      exact hp
    | succ k => rw [e] at h1; cases h1
/-- the turn of a comprehension that makes a new list each time -/
theorem lcN_turn {D : Addr} {H' H2 : Hp} {ps : List Addr} {cs : List (List V)} {p : Addr} {c : List V} (hD : H D = none) (s1 : Same H H') (hl : H' D = some (.lst (ps.map V.ref))) (R : Rows H' ps cs) (nd : ps.Nodup) (na : D ∉ ps) (hn : ∀ q ∈ ps, H q = none)
    (np : H' p = none) (s2 : Same H' H2) (hp : H2 p = some (.lst c)) :
    Same H (upd H2 D (.lst (ps.map V.ref ++ [V.ref p]))) ∧ upd H2 D (.lst (ps.map V.ref ++ [V.ref p])) D = some (.lst ((ps ++ [p]).map V.ref)) ∧ Rows (upd H2 D (.lst (ps.map V.ref ++ [V.ref p]))) (ps ++ [p]) (cs ++ [c]) ∧ (ps ++ [p]).Nodup ∧ D ∉ ps ++ [p] ∧ ∀ q ∈ ps ++ [p], H q = none := by
  have pD : p ≠ D := fun e => by rw [e, hl] at np; cases np
  have pps : p ∉ ps := fun h => by
    obtain ⟨i, hi⟩ := List.mem_iff_getElem?.mp h
    have h1 : i < cs.length := by rw [← R.len]; exact (List.getElem?_eq_some_iff.mp hi).1
    have := R.at_ i p _ hi (List.getElem?_eq_getElem h1)
    rw [np] at this
    cases this
  refine ⟨(s1.trans s2).mut hD, ?_, ?_, ?_, ?_, ?_⟩
  · rw [upd_same, List.map_append]
    rfl
  · refine rows_add R (fun q hq o e => ?_) ?_
    · have qD : q ≠ D := fun e => na (e ▸ hq)
      rw [upd_ne qD]
      exact s2 q o e
    · rw [upd_ne pD]
      exact hp
  · refine List.nodup_append.mpr ⟨nd, List.nodup_cons.mpr ⟨List.not_mem_nil, List.nodup_nil⟩, fun x hx y hy e => ?_⟩
    rw [List.mem_singleton.mp hy] at e
    exact pps (e ▸ hx)
  · intro h
    rcases List.mem_append.mp h with h | h
    · exact na h
    · exact pD (List.mem_singleton.mp h).symm
  · intro q hq
    rcases List.mem_append.mp hq with h | h
    · exact hn q h
    · rw [List.mem_singleton.mp h]
      exact s1.free np
/-- [<a new list> for x in xs] -/
theorem lcLN {a : Addr} (ds : List α) (enc : α → V) (c : α → List V) (hs : SqL K H a (ds.map enc)) (hz : ds.length ≤ 40000)
    (step : ∀ d ∈ ds, ∀ (H1 : Hp) (Qy : VK), Same H H1 → (∀ p H2, H1 p = none → Same H1 H2 → H2 p = some (.lst (c d)) → Qy (.ref p) H2) → te (σ.set j (some (enc d))) H1 Qy)
    (done : ∀ D H1, Same H H1 → LolN H H1 D (ds.map c) → P D H1) :
    ∀ D, H D = none → ∃ W : Nat → Nat → Hp → Prop, (∃ m, W 0 m (upd H D (.lst []))) ∧ ∀ i m H, W i m H →
      ((Itl K a).stop i H ∧ P D H) ∨ ((Itl K a).go i H ∧ ∃ Nx : Hp → Prop, (∀ H', Nx H' → ∃ m', m' < m ∧ W (i + 1) m' H') ∧ ∀ x H', (Itl K a).yld i H x H' → gName j x (wipe σ [j]) H' fun σ2 H2 => wipe σ2 [j] = wipe σ [j] ∧ tYes σ2 H2 fun b H3 =>
        if b = true then te σ2 H3 fun y H4 => ∃ acc, H4 D = some (.lst acc) ∧ acc.length < sizeLine ∧ Nx (upd H4 D (.lst (acc ++ [y]))) else Nx H3) := by
  intro D hD
  refine lc_list (xs := ds.map enc) (fun i H' => Same H H' ∧ ∃ ps : List Addr, H' D = some (.lst (ps.map V.ref)) ∧ Rows H' ps ((ds.take i).map c) ∧ ps.Nodup ∧ D ∉ ps ∧ ∀ q ∈ ps, H q = none)
    ⟨same_new hD, [], upd_same, ⟨rfl, fun i p c h => by cases h⟩, List.nodup_nil, List.not_mem_nil, fun q h => by cases h⟩ (fun i H' _ p => p.1.seq hs) (fun i x H' hi p => ?_) (fun H' p => ?_)
  · rw [List.getElem?_map] at hi
    cases hd : ds[i]? with
    | none => rw [hd] at hi; cases hi
    | some d =>
      rw [hd] at hi
      have ex : enc d = x := Option.some.inj hi
      subst ex
      refine ⟨wipe1 _ _ _, ?_⟩
      show te ((wipe σ [j]).set j (some (enc d))) H' _
      rw [wipe1b]
      obtain ⟨s1, ps, hl, R, nd, na, hn⟩ := p
      have et : (ds.take (i + 1)).map c = (ds.take i).map c ++ [c d] := by
        rw [List.take_add_one, hd, List.map_append]
        rfl
      refine step d (List.mem_of_getElem? hd) H' _ s1 (fun p H2 np s2 hp => ⟨_, s2 D _ hl, line_lt ?_, ?_⟩)
      · rw [List.length_map, R.len, List.length_map, List.length_take]
        omega
      · obtain ⟨z1, z2, z3, z4, z5, z6⟩ := lcN_turn hD s1 hl R nd na hn np s2 hp
        exact ⟨z1, ps ++ [p], z2, by rw [et]; exact z3, z4, z5, z6⟩
  · obtain ⟨s1, ps, hl, R, nd, na, hn⟩ := p
    rw [List.length_map, List.take_length] at R
    exact done D H' s1 ⟨ps, hl, R, nd, na, hD, hn⟩
/-- the same over a range from 0 -/
theorem lcRN {n : Nat} (c : Nat → List V) (hz : n ≤ 40000)
    (step : ∀ i < n, ∀ (H1 : Hp) (Qy : VK), Same H H1 → (∀ p H2, H1 p = none → Same H1 H2 → H2 p = some (.lst (c i)) → Qy (.ref p) H2) → te (σ.set j (some (nv i))) H1 Qy)
    (done : ∀ D H1, Same H H1 → LolN H H1 D ((List.range n).map c) → P D H1) :
    ∀ D, H D = none → ∃ W : Nat → Nat → Hp → Prop, (∃ m, W 0 m (upd H D (.lst []))) ∧ ∀ i m H, W i m H →
      ((Itr 0 n).stop i H ∧ P D H) ∨ ((Itr 0 n).go i H ∧ ∃ Nx : Hp → Prop, (∀ H', Nx H' → ∃ m', m' < m ∧ W (i + 1) m' H') ∧ ∀ x H', (Itr 0 n).yld i H x H' → gName j x (wipe σ [j]) H' fun σ2 H2 => wipe σ2 [j] = wipe σ [j] ∧ tYes σ2 H2 fun b H3 =>
        if b = true then te σ2 H3 fun y H4 => ∃ acc, H4 D = some (.lst acc) ∧ acc.length < sizeLine ∧ Nx (upd H4 D (.lst (acc ++ [y]))) else Nx H3) := by
  intro D hD
  refine lc_range (fun i H' => Same H H' ∧ ∃ ps : List Addr, H' D = some (.lst (ps.map V.ref)) ∧ Rows H' ps ((List.range i).map c) ∧ ps.Nodup ∧ D ∉ ps ∧ ∀ q ∈ ps, H q = none)
    ⟨same_new hD, [], upd_same, ⟨rfl, fun i p c h => by cases h⟩, List.nodup_nil, List.not_mem_nil, fun q h => by cases h⟩ (fun i H' hi p => ?_) (fun H' p => ?_)
  · refine ⟨wipe1 _ _ _, ?_⟩
    show te ((wipe σ [j]).set j (some (.int ((0 : Int) + (i : Int))))) H' _
    rw [Int.zero_add, wipe1b]
    obtain ⟨s1, ps, hl, R, nd, na, hn⟩ := p
    have et : (List.range (i + 1)).map c = (List.range i).map c ++ [c i] := by
      rw [List.range_succ, List.map_append]
      rfl
    refine step i hi H' _ s1 (fun p H2 np s2 hp => ⟨_, s2 D _ hl, line_lt ?_, ?_⟩)
    · rw [List.length_map, R.len, List.length_map, List.length_range]
      omega
    · obtain ⟨z1, z2, z3, z4, z5, z6⟩ := lcN_turn hD s1 hl R nd na hn np s2 hp
      exact ⟨z1, ps ++ [p], z2, by rw [et]; exact z3, z4, z5, z6⟩
  · obtain ⟨s1, ps, hl, R, nd, na, hn⟩ := p
    exact done D H' s1 ⟨ps, hl, R, nd, na, hD, hn⟩
end
end Sp

namespace Sp
/-! ### numbers laid over one another -/
def xo : List Nat → Nat
  | [] => 0
  | a :: r => a ^^^ xo r
theorem xo_append : ∀ l m : List Nat, xo (l ++ m) = xo l ^^^ xo m
  | [], m => (Nat.zero_xor _).symm
  | a :: r, m => by
    show a ^^^ xo (r ++ m) = (a ^^^ xo r) ^^^ xo m
    rw [xo_append r m, Nat.xor_assoc]
theorem xo_perm {l m : List Nat} (h : l.Perm m) : xo l = xo m := by
  induction h with
  | nil => rfl
  | cons a _ ih => show a ^^^ xo _ = a ^^^ xo _; rw [ih]
  | swap a b r =>
    show b ^^^ (a ^^^ xo r) = a ^^^ (b ^^^ xo r)
    rw [← Nat.xor_assoc, ← Nat.xor_assoc, Nat.xor_comm b a]
  | trans _ _ h1 h2 => exact h1.trans h2
theorem xo_reverse (l : List Nat) : xo l.reverse = xo l := xo_perm (List.reverse_perm l)
theorem xo_single (a : Nat) : xo [a] = a := Nat.xor_zero a
theorem xo_twice (l : List Nat) : xo (l ++ l.reverse) = 0 := by rw [xo_append, xo_reverse, Nat.xor_self]
theorem xo_with (l : List Nat) : xo (l ++ [xo l]) = 0 := by rw [xo_append, xo_single, Nat.xor_self]
theorem xor_mod_two (a b : Nat) : (a ^^^ b) % 2 = (a % 2 + b % 2) % 2 := by
  have h := @Nat.xor_mod_two_pow a b 1
  rw [Nat.pow_one] at h
  rw [h]
  have ha : a % 2 = 0 ∨ a % 2 = 1 := by omega
  have hb : b % 2 = 0 ∨ b % 2 = 1 := by omega
  rcases ha with e | e <;> rcases hb with f | f <;> rw [e, f] <;> rfl
theorem xo_mod_two : ∀ l : List Nat, xo l % 2 = (l.map (· % 2)).sum % 2
  | [] => rfl
  | a :: r => by
    show (a ^^^ xo r) % 2 = _
    rw [xor_mod_two, xo_mod_two r, List.map_cons, List.sum_cons]
    omega
theorem xo_half : ∀ l : List Nat, xo ((l.filter fun n => decide (1 < n)).map (· / 2)) = xo l / 2
  | [] => rfl
  | a :: r => by
    show _ = (a ^^^ xo r) / 2
    rw [Nat.xor_div_two, ← xo_half r, List.filter_cons]
    by_cases h : 1 < a
    · rw [if_pos (decide_eq_true h)]
      rfl
    · rw [if_neg (by simpa using h)]
      have e : a / 2 = 0 := by omega
      rw [e, Nat.zero_xor]
theorem xo_lt : ∀ {l : List Nat} {k : Nat}, (∀ x ∈ l, x < 2 ^ k) → xo l < 2 ^ k
  | [], k, _ => Nat.two_pow_pos k
  | a :: r, k, h => Nat.xor_lt_two_pow (h a (List.mem_cons_self ..)) (xo_lt fun x hx => h x (List.mem_cons_of_mem _ hx))
theorem bit_of (x k : Nat) : x / 2 ^ k % 2 = if x.testBit k then 1 else 0 := by
  rw [Nat.testBit_eq_decide_div_mod_eq]
  by_cases h : x / 2 ^ k % 2 = 1
  · rw [if_pos (decide_eq_true h), h]
  · rw [if_neg (by simpa using h)]
    omega
theorem xor_bit (a b k : Nat) : (a ^^^ b) / 2 ^ k % 2 = (a / 2 ^ k % 2 + b / 2 ^ k % 2) % 2 := by
  rw [bit_of, bit_of, bit_of, Nat.testBit_xor]
  cases a.testBit k <;> cases b.testBit k <;> rfl
theorem xo_bit : ∀ (l : List Nat) (k : Nat), xo l / 2 ^ k % 2 = (l.filter fun n => decide (n / 2 ^ k % 2 = 1)).length % 2
  | [], k => by
    show 0 / 2 ^ k % 2 = 0
    rw [Nat.zero_div]
  | a :: r, k => by
    show (a ^^^ xo r) / 2 ^ k % 2 = _
    rw [xor_bit, xo_bit r k, List.filter_cons]
    by_cases h : a / 2 ^ k % 2 = 1
    · rw [if_pos (decide_eq_true h), List.length_cons, h]
      omega
    · rw [if_neg (by simpa using h)]
      have e : a / 2 ^ k % 2 = 0 := by omega
      rw [e]
      omega
theorem mod_step (x k : Nat) : x % 2 ^ (k + 1) = x % 2 ^ k + 2 ^ k * (x / 2 ^ k % 2) := Nat.mod_pow_succ
end Sp

namespace Sp
open PySem PySem.Spec PyProof.Rows L2
/-! ### data: lists of numbers, webs, moves -/
def dNs (l : List Nat) : PyData := .list (l.map fun n : Nat => .int (n : Int))
def dWeb (W : List (List Nat)) : PyData := .list (W.map dNs)
/-- data of one depth below d that can be laid -/
theorem lay_all {α : Type} (f : α → PyData) : ∀ l : List α, (∀ x ∈ l, (f x).canLay0 = true) → PyData.canLayAll0 (l.map f) = true
  | [], _ => rfl
  | a :: r, h => by
    show ((f a).canLay0 && PyData.canLayAll0 (r.map f)) = true
    rw [h a (List.mem_cons_self ..), lay_all f r fun x hx => h x (List.mem_cons_of_mem _ hx)]
    rfl
theorem depth_all {α : Type} (f : α → PyData) (d : Nat) : ∀ l : List α, (∀ x ∈ l, (f x).depth ≤ d) → PyData.depthAll (l.map f) ≤ d
  | [], _ => Nat.zero_le _
  | a :: r, h => by
    show max (f a).depth (PyData.depthAll (r.map f)) ≤ d
    exact Nat.max_le.mpr ⟨h a (List.mem_cons_self ..), depth_all f d r fun x hx => h x (List.mem_cons_of_mem _ hx)⟩
/-- data that can be compared, d deep -/
def Flt (d : Nat) (x : PyData) : Prop := x.canLay0 = true ∧ x.depth ≤ d
theorem Flt.shaped {d : Nat} {x : PyData} (h : Flt d x) (hd : d ≤ 64) : SeqAt.shaped x = true := by
  unfold SeqAt.shaped
  rw [h.1, decide_eq_true (Nat.le_trans h.2 hd)]
  rfl
theorem Flt.refl {d : Nat} {x : PyData} (h : Flt d x) : PyData.eqv x x = true := SeqAt.eqv_refl x h.1
theorem flt_int (n : Int) : Flt 1 (.int n) := ⟨rfl, Nat.le_of_ble_eq_true rfl⟩
theorem flt_bool (n : Bool) : Flt 1 (.bool n) := ⟨rfl, Nat.le_of_ble_eq_true rfl⟩
theorem flt_list {α : Type} {d : Nat} (f : α → PyData) (l : List α) (h : ∀ x ∈ l, Flt d (f x)) : Flt (d + 1) (.list (l.map f)) := by
  refine ⟨lay_all f l fun x hx => (h x hx).1, ?_⟩
  have h1 := depth_all f d l fun x hx => (h x hx).2
  show PyData.depthAll (l.map f) + 1 ≤ d + 1
  omega
theorem flt_tup {α : Type} {d : Nat} (f : α → PyData) (l : List α) (h : ∀ x ∈ l, Flt d (f x)) : Flt (d + 1) (.tuple (l.map f)) := by
  refine ⟨lay_all f l fun x hx => (h x hx).1, ?_⟩
  have h1 := depth_all f d l fun x hx => (h x hx).2
  show PyData.depthAll (l.map f) + 1 ≤ d + 1
  omega
theorem flt_ns (l : List Nat) : Flt 2 (dNs l) := flt_list _ l fun n _ => flt_int n
theorem flt_web (W : List (List Nat)) : Flt 3 (dWeb W) := flt_list _ W fun r _ => flt_ns r
theorem eqv_all {α : Type} [DecidableEq α] (f : α → PyData) (hf : ∀ a b, PyData.eqv (f a) (f b) = decide (a = b)) : ∀ l m : List α, PyData.eqvAll (l.map f) (m.map f) = decide (l = m)
  | [], [] => rfl
  | [], b :: m => rfl
  | a :: l, [] => rfl
  | a :: l, b :: m => by
    show (PyData.eqv (f a) (f b) && PyData.eqvAll (l.map f) (m.map f)) = _
    rw [hf, eqv_all f hf l m, Bool.eq_iff_iff, Bool.and_eq_true, decide_eq_true_iff, decide_eq_true_iff, decide_eq_true_iff, List.cons.injEq]
theorem eqv_ns (l m : List Nat) : PyData.eqv (dNs l) (dNs m) = decide (l = m) :=
  eqv_all (fun n : Nat => PyData.int (n : Int)) (fun a b => by
    show ((a : Int) == (b : Int)) = decide (a = b)
    rw [Bool.eq_iff_iff, beq_iff_eq, decide_eq_true_iff]
    exact Int.ofNat_inj) l m
theorem eqv_web (l m : List (List Nat)) : PyData.eqv (dWeb l) (dWeb m) = decide (l = m) := eqv_all dNs eqv_ns l m
section
variable {K : PySem.W.Frag} {H : Hp} {a b : Addr} {Q : VK}
theorem dpAll_map {α : Type} (e : α → V) (f : α → PyData) : ∀ l : List α, (∀ x ∈ l, Dp K H (e x) (f x)) → DpAll K H (l.map e) (l.map f)
  | [], _ => .nil
  | x :: r, h => .cons (h x (List.mem_cons_self ..)) (dpAll_map e f r fun y hy => h y (List.mem_cons_of_mem _ hy))
theorem dp_ns {l : List Nat} (h : SqL K H a (nvs l)) : Dp K H (.ref a) (dNs l) := .lst h (dpAll_map nv _ l fun n _ => .int n)
theorem dpAll_rows : ∀ {ps : List Addr} {W : List (List Nat)}, Rows H ps (W.map nvs) → DpAll K H (ps.map V.ref) (W.map dNs)
  | [], [], _ => .nil
  | [], _ :: _, r => by have := r.len; simp at this
  | _ :: _, [], r => by have := r.len; simp at this
  | p :: ps, w :: W, r => by
    refine .cons (dp_ns (.of (r.at_ 0 p _ rfl rfl))) (dpAll_rows ⟨?_, fun i q c h1 h2 => r.at_ (i + 1) q c h1 h2⟩)
    have := r.len
    simpa using this
theorem dp_web {W : List (List Nat)} (h : Lol H a (W.map nvs)) : Dp K H (.ref a) (dWeb W) := let ⟨ps, e, r⟩ := h; .lst (.of e) (dpAll_rows r)
theorem eq_dp {d : Nat} {x y : V} {dx dy : PyData} (hx : Dp K H x dx) (hy : Dp K H y dy) (fx : Flt d dx) (fy : Flt d dy) (hd : d ≤ 64) (q : Q (.bl (PyData.eqv dx dy)) H) : rEqD K x y H Q := ⟨dx, dy, hx, hy, fx.shaped hd, fy.shaped hd, q⟩
theorem ne_dp {d : Nat} {x y : V} {dx dy : PyData} (hx : Dp K H x dx) (hy : Dp K H y dy) (fx : Flt d dx) (fy : Flt d dy) (hd : d ≤ 64) (q : Q (.bl (!PyData.eqv dx dy)) H) : rNeD K x y H Q := ⟨dx, dy, hx, hy, fx.shaped hd, fy.shaped hd, q⟩
theorem ne_ns {l m : List Nat} (ha : SqL K H a (nvs l)) (hb : SqL K H b (nvs m)) (q : Q (.bl (!decide (l = m))) H) : rNeD K (.ref a) (.ref b) H Q := ne_dp (dp_ns ha) (dp_ns hb) (flt_ns l) (flt_ns m) (by decide) (by rw [eqv_ns]; exact q)
theorem eq_ns {l m : List Nat} (ha : SqL K H a (nvs l)) (hb : SqL K H b (nvs m)) (q : Q (.bl (decide (l = m))) H) : rEqD K (.ref a) (.ref b) H Q := eq_dp (dp_ns ha) (dp_ns hb) (flt_ns l) (flt_ns m) (by decide) (by rw [eqv_ns]; exact q)
theorem ne_web {l m : List (List Nat)} (ha : Lol H a (l.map nvs)) (hb : Lol H b (m.map nvs)) (q : Q (.bl (!decide (l = m))) H) : rNeD K (.ref a) (.ref b) H Q := ne_dp (dp_web ha) (dp_web hb) (flt_web l) (flt_web m) (by decide) (by rw [eqv_web]; exact q)
theorem eq_web {l m : List (List Nat)} (ha : Lol H a (l.map nvs)) (hb : Lol H b (m.map nvs)) (q : Q (.bl (decide (l = m))) H) : rEqD K (.ref a) (.ref b) H Q := eq_dp (dp_web ha) (dp_web hb) (flt_web l) (flt_web m) (by decide) (by rw [eqv_web]; exact q)
/-! ### isinstance: the kinds -/
theorem kII : kitB "int" "int" = some true := by decide +kernel
theorem kIB : kitB "int" "bool" = some false := by decide +kernel
theorem kIL : kitB "int" "list" = some false := by decide +kernel
theorem kBB : kitB "bool" "bool" = some true := by decide +kernel
theorem kBI : kitB "bool" "int" = some true := by decide +kernel
theorem kLL : kitB "list" "list" = some true := by decide +kernel
theorem kTT : kitB "tuple" "tuple" = some true := by decide +kernel
theorem sh_ns (l : List Nat) : SeqAt.shaped (dNs l) = true := (flt_ns l).shaped (by decide)
theorem sh_web (l : List (List Nat)) : SeqAt.shaped (dWeb l) = true := (flt_web l).shaped (by decide)
theorem ns_refl (l : List Nat) : PyData.eqv (dNs l) (dNs l) = true := (flt_ns l).refl
theorem web_refl (l : List (List Nat)) : PyData.eqv (dWeb l) (dWeb l) = true := (flt_web l).refl
theorem notT {b : Bool} (h : b = true) : V.bl (!b) = V.bl false := by rw [h]; rfl
theorem blT {b : Bool} (h : b = true) : V.bl b = V.bl true := by rw [h]
end
/-! ### slices -/
theorem cut_map {α : Type} (f : α → V) (l : List α) (lo hi : Option Int) : cutV (l.map f) lo hi = ((l.drop (HT.sIx l.length 0 lo)).take (HT.sIx l.length l.length hi - HT.sIx l.length 0 lo)).map f := by
  unfold cutV
  rw [List.length_map, ← List.map_drop, ← List.map_take]
theorem cut_to {α : Type} (f : α → V) (l : List α) (k : Nat) : cutV (l.map f) none (some (k : Int)) = (l.take k).map f := by
  rw [cut_map, HT.sIx_none, HT.sIx_nat, List.drop_zero, Nat.sub_zero]
  congr 1
  by_cases h : k ≤ l.length
  · rw [Nat.min_eq_left h]
  · rw [Nat.min_eq_right (by omega), List.take_length, List.take_of_length_le (by omega)]
theorem cut_from {α : Type} (f : α → V) (l : List α) (k : Nat) : cutV (l.map f) (some (k : Int)) none = (l.drop k).map f := by
  rw [cut_map, HT.sIx_none, HT.sIx_nat]
  congr 1
  by_cases h : k ≤ l.length
  · rw [Nat.min_eq_left h]
    exact List.take_of_length_le (by rw [List.length_drop]; omega)
  · rw [Nat.min_eq_right (by omega), List.drop_length, List.drop_of_length_le (by omega), List.take_nil]
theorem cut_mid {α : Type} (f : α → V) (l : List α) (i k : Nat) (h : i ≤ k) : cutV (l.map f) (some (i : Int)) (some (k : Int)) = ((l.drop i).take (k - i)).map f := by
  rw [cut_map, HT.sIx_nat, HT.sIx_nat]
  congr 1
  by_cases h1 : k ≤ l.length
  · rw [Nat.min_eq_left h1, Nat.min_eq_left (by omega)]
  · by_cases h2 : i ≤ l.length
    · rw [Nat.min_eq_right (by omega), Nat.min_eq_left h2, List.take_of_length_le (by rw [List.length_drop]; omega), List.take_of_length_le (by rw [List.length_drop]; omega)]
    · rw [Nat.min_eq_right (by omega), Nat.min_eq_right (by omega), List.drop_of_length_le (Nat.le_refl _), List.drop_of_length_le (by omega), List.take_nil, List.take_nil]
end Sp

namespace Sp
/-! ### webs as lists of rows -/
def row (W : List (List Nat)) (s : Nat) : List Nat := W.getD s []
theorem row_of {W : List (List Nat)} {s : Nat} {r : List Nat} (h : W[s]? = some r) : row W s = r := by
  unfold row
  rw [List.getD_eq_getElem?_getD, h]
  rfl
theorem row_get {W : List (List Nat)} {s : Nat} (h : s < W.length) : W[s]? = some (row W s) := by
  unfold row
  rw [List.getD_eq_getElem?_getD, List.getElem?_eq_getElem h]
  rfl
theorem row_nil {W : List (List Nat)} {s : Nat} (h : W.length ≤ s) : row W s = [] := by
  unfold row
  rw [List.getD_eq_getElem?_getD, List.getElem?_eq_none h]
  rfl
theorem row_mem {W : List (List Nat)} {s : Nat} (h : s < W.length) : row W s ∈ W := List.mem_of_getElem? (row_get h)
structure Form (W : List (List Nat)) : Prop where
  pos : 1 ≤ W.length
  le : W.length ≤ 200
  nd : ∀ s, (row W s).Nodup
  lt : ∀ s, ∀ x ∈ row W s, x < W.length
def Ranked (W : List (List Nat)) (rk : Nat → Nat) : Prop := ∀ s, ∀ x ∈ row W s, rk x < rk s
def Good (W : List (List Nat)) : Prop := Form W ∧ ∃ rk, Ranked W rk
/-- none twice, all below n: at most n -/
theorem nodup_len : ∀ (n : Nat) (l : List Nat), l.Nodup → (∀ x ∈ l, x < n) → l.length ≤ n
  | 0, [], _, _ => Nat.le_refl _
  | 0, a :: r, _, h => absurd (h a (List.mem_cons_self ..)) (Nat.not_lt_zero a)
  | n + 1, l, nd, h => by
    have h1 : (l.erase n).length ≤ n := nodup_len n (l.erase n) (nd.erase n) fun x hx => by
      have h2 : x ∈ l := List.mem_of_mem_erase hx
      have h3 : x ≠ n := fun e => nd.not_mem_erase (e ▸ hx)
      have := h x h2
      omega
    by_cases hm : n ∈ l
    · have := List.length_erase_of_mem hm
      have : l.length ≠ 0 := fun e => by
        have := List.eq_nil_of_length_eq_zero e
        rw [this] at hm
        cases hm
      omega
    · rw [List.erase_of_not_mem hm] at h1
      omega
theorem nodup_full {n : Nat} {l : List Nat} (nd : l.Nodup) (h : ∀ x ∈ l, x < n) (all : ∀ x < n, x ∈ l) : l.length = n := by
  refine Nat.le_antisymm (nodup_len n l nd h) ?_
  have hp : ∀ (m : Nat) (k : List Nat), k.Nodup → (∀ x < m, x ∈ k) → m ≤ k.length := by
    intro m
    induction m with
    | zero => intro k _ _; exact Nat.zero_le _
    | succ m ih =>
      intro k nk hk
      have hm := hk m (Nat.lt_succ_self m)
      have h1 := ih (k.erase m) (nk.erase m) fun x hx => (List.mem_erase_of_ne (show x ≠ m by omega)).mpr (hk x (by omega))
      have h2 := List.length_erase_of_mem hm
      have h3 : 0 < k.length := List.length_pos_of_mem hm
      omega
  exact hp n l nd all
theorem Form.row_len {W : List (List Nat)} (F : Form W) (s : Nat) : (row W s).length ≤ 200 := Nat.le_trans (nodup_len _ _ (F.nd s) (F.lt s)) F.le
/-! ### the order of play -/
structure PO (W : List (List Nat)) (o : List Nat) : Prop where
  nd : o.Nodup
  lt : ∀ x ∈ o, x < W.length
  top : ∀ i s, o[i]? = some s → ∀ t ∈ row W s, t ∈ o.take i
  clo : ∀ s < W.length, (∀ t ∈ row W s, t ∈ o) → s ∈ o
theorem PO.len {W : List (List Nat)} {o : List Nat} (p : PO W o) : o.length ≤ W.length := nodup_len _ _ p.nd p.lt
theorem PO.full {W : List (List Nat)} {o : List Nat} (p : PO W o) (g : Good W) : ∀ s < W.length, s ∈ o := by
  obtain ⟨F, rk, hr⟩ := g
  have h : ∀ (n s : Nat), rk s < n → s < W.length → s ∈ o := by
    intro n
    induction n with
    | zero => intro s h; exact absurd h (Nat.not_lt_zero _)
    | succ n ih => exact fun s h hs => p.clo s hs fun t ht => ih t (Nat.lt_of_lt_of_le (hr s t ht) (Nat.le_of_lt_succ h)) (F.lt s t ht)
  exact fun s hs => h _ s (Nat.lt_succ_self _) hs
theorem PO.length {W : List (List Nat)} {o : List Nat} (p : PO W o) (g : Good W) : o.length = W.length := nodup_full p.nd p.lt (p.full g)
/-- how many moves lead to spots that are not in o -/
def cnt (W : List (List Nat)) (o : List Nat) (s : Nat) : Nat := ((row W s).filter fun t => decide (t ∉ o)).length
theorem cnt_nil (W : List (List Nat)) (s : Nat) : cnt W [] s = (row W s).length := by
  unfold cnt
  rw [List.filter_eq_self.mpr]
  intro a _
  simp
theorem cnt_zero {W : List (List Nat)} {o : List Nat} {s : Nat} : cnt W o s = 0 ↔ ∀ t ∈ row W s, t ∈ o := by
  unfold cnt
  rw [List.length_eq_zero_iff, List.filter_eq_nil_iff]
  constructor
  · intro h t ht
    have := h t ht
    simpa using this
  · intro h t ht
    simpa using h t ht
theorem filter_snoc : ∀ (l o : List Nat) (s : Nat), l.Nodup → s ∉ o → (l.filter fun t => decide (t ∉ o ++ [s])).length + (if s ∈ l then 1 else 0) = (l.filter fun t => decide (t ∉ o)).length
  | [], o, s, _, _ => rfl
  | a :: r, o, s, nd, ho => by
    have ih := filter_snoc r o s (List.nodup_cons.mp nd).2 ho
    have ha := (List.nodup_cons.mp nd).1
    rw [List.filter_cons, List.filter_cons]
    by_cases e : a = s
    · subst e
      have h1 : ¬ (decide (a ∉ o ++ [a]) = true) := by simp
      have h2 : decide (a ∉ o) = true := by simpa using ho
      rw [if_neg h1, if_pos h2, List.length_cons, if_pos (List.mem_cons_self ..)]
      rw [if_neg ha] at ih
      omega
    · have h3 : (s ∈ a :: r) ↔ s ∈ r := by
        rw [List.mem_cons]
        constructor
        · rintro (h | h)
          · exact absurd h.symm e
          · exact h
        · exact .inr
      have h4 : (if s ∈ a :: r then 1 else 0) = (if s ∈ r then 1 else 0) := by simp only [h3]
      rw [h4]
      by_cases ho2 : a ∈ o
      · have h1 : ¬ (decide (a ∉ o ++ [s]) = true) := by simp [ho2]
        have h2 : ¬ (decide (a ∉ o) = true) := by simp [ho2]
        rw [if_neg h1, if_neg h2]
        exact ih
      · have h1 : decide (a ∉ o ++ [s]) = true := by simp [ho2, e]
        have h2 : decide (a ∉ o) = true := by simp [ho2]
        rw [if_pos h1, if_pos h2, List.length_cons, List.length_cons]
        omega
theorem cnt_snoc {W : List (List Nat)} (F : Form W) {o : List Nat} {s : Nat} (h : s ∉ o) (t : Nat) : cnt W (o ++ [s]) t + (if s ∈ row W t then 1 else 0) = cnt W o t := filter_snoc _ _ _ (F.nd t) h
/-- the spots from which a move leads to s -/
def comeL (W : List (List Nat)) (s : Nat) : List Nat := (List.range W.length).filter fun t => decide (s ∈ row W t)
theorem mem_comeL {W : List (List Nat)} {s t : Nat} : t ∈ comeL W s ↔ t < W.length ∧ s ∈ row W t := by
  unfold comeL
  rw [List.mem_filter, List.mem_range, decide_eq_true_iff]
theorem nodup_comeL (W : List (List Nat)) (s : Nat) : (comeL W s).Nodup := List.nodup_range.filter _
structure PInv (W : List (List Nat)) (o w : List Nat) : Prop where
  nd : (o ++ w).Nodup
  lt : ∀ x ∈ o ++ w, x < W.length
  zero : ∀ s < W.length, s ∈ o ++ w ↔ cnt W o s = 0
  top : ∀ i s, o[i]? = some s → ∀ t ∈ row W s, t ∈ o.take i
theorem PInv.start (W : List (List Nat)) : PInv W [] ((List.range W.length).filter fun s => decide ((row W s).length = 0)) where
  nd := by
    rw [List.nil_append]
    exact List.nodup_range.filter _
  lt := fun x hx => List.mem_range.mp (List.mem_filter.mp hx).1
  zero := fun s hs => by
    rw [List.nil_append, List.mem_filter, List.mem_range, decide_eq_true_iff, cnt_nil]
    exact ⟨fun h => h.2, fun h => ⟨hs, h⟩⟩
  top := fun i s h => by cases h
theorem PInv.stop {W : List (List Nat)} {o : List Nat} (p : PInv W o []) : PO W o where
  nd := by have := p.nd; rwa [List.append_nil] at this
  lt := fun x hx => p.lt x (List.mem_append_left _ hx)
  top := p.top
  clo := fun s hs h => by
    have := (p.zero s hs).mpr (cnt_zero.mpr h)
    rwa [List.append_nil] at this
theorem PInv.turn {W : List (List Nat)} (F : Form W) {o w : List Nat} {s : Nat} (p : PInv W o (w ++ [s])) : PInv W (o ++ [s]) (w ++ (comeL W s).filter fun t => decide (cnt W (o ++ [s]) t = 0)) := by
  have nd0 := p.nd
  have hso : s ∉ o := fun h => by
    have := (List.nodup_append.mp nd0).2.2 s h s (List.mem_append_right _ (List.mem_cons_self ..))
    exact this rfl
  have ndw : (w ++ [s]).Nodup := (List.nodup_append.mp nd0).2.1
  have hsw : s ∉ w := fun h => (List.nodup_append.mp ndw).2.2 s h s (List.mem_cons_self ..) rfl
  have hs : s < W.length := p.lt s (List.mem_append_right _ (List.mem_append_right _ (List.mem_cons_self ..)))
  have old : ∀ t, t ∈ o ++ [s] ++ w ↔ t ∈ o ++ (w ++ [s]) := fun t => by
    simp only [List.mem_append, List.mem_singleton]
    constructor
    · rintro ((h | h) | h)
      · exact .inl h
      · exact .inr (.inr h)
      · exact .inr (.inl h)
    · rintro (h | h | h)
      · exact .inl (.inl h)
      · exact .inr h
      · exact .inl (.inr h)
  have newpos : ∀ t ∈ comeL W s, cnt W o t ≠ 0 := fun t ht e => by
    have := cnt_snoc F hso t
    rw [if_pos (mem_comeL.mp ht).2] at this
    omega
  refine ⟨?_, ?_, ?_, ?_⟩
  · rw [← List.append_assoc]
    refine List.nodup_append.mpr ⟨?_, (nodup_comeL W s).filter _, fun a ha b hb e => ?_⟩
    · refine List.nodup_append.mpr ⟨List.nodup_append.mpr ⟨(List.nodup_append.mp nd0).1, List.nodup_cons.mpr ⟨List.not_mem_nil, List.nodup_nil⟩, fun a ha b hb e => ?_⟩, (List.nodup_append.mp ndw).1, fun a ha b hb e => ?_⟩
      · rw [List.mem_singleton.mp hb] at e
        exact hso (e ▸ ha)
      · subst e
        rcases List.mem_append.mp ha with h | h
        · exact (List.nodup_append.mp nd0).2.2 a h a (List.mem_append_left _ hb) rfl
        · rw [List.mem_singleton.mp h] at hb
          exact hsw hb
    · subst e
      have hb1 := (List.mem_filter.mp hb).1
      have h1 := (p.zero a (mem_comeL.mp hb1).1).mp ((old a).mp ha)
      exact newpos a hb1 h1
  · intro x hx
    rw [← List.append_assoc] at hx
    rcases List.mem_append.mp hx with h | h
    · exact p.lt x ((old x).mp h)
    · exact (mem_comeL.mp (List.mem_filter.mp h).1).1
  · intro t ht
    rw [← List.append_assoc, List.mem_append, old, p.zero t ht, List.mem_filter, mem_comeL, decide_eq_true_iff]
    have h1 := cnt_snoc F hso t
    by_cases hm : s ∈ row W t
    · rw [if_pos hm] at h1
      constructor
      · rintro (h | h)
        · omega
        · exact h.2
      · exact fun h => .inr ⟨⟨ht, hm⟩, h⟩
    · rw [if_neg hm] at h1
      constructor
      · rintro (h | h)
        · omega
        · exact h.2
      · exact fun h => .inl (by omega)
  · intro i t hi u hu
    by_cases hlt : i < o.length
    · rw [List.getElem?_append_left hlt] at hi
      rw [List.take_append_of_le_length (Nat.le_of_lt hlt)]
      exact p.top i t hi u hu
    · rw [List.getElem?_append_right (by omega)] at hi
      have hi0 : i - o.length = 0 := by
        cases e : i - o.length with
        | zero => rfl
        | succ k => rw [e] at hi; cases hi
      rw [hi0] at hi
      have e : s = t := Option.some.inj hi
      subst e
      have h0 : cnt W o s = 0 := (p.zero s hs).mp (List.mem_append_right _ (List.mem_append_right _ (List.mem_cons_self ..)))
      have h1 := cnt_zero.mp h0 u hu
      have h2 : i = o.length := by omega
      rw [h2, List.take_left]
      exact h1
/-! ### a value for each spot, from those of its moves -/
def vals (l r : List Nat) : List Nat := r.map fun t => l.getD t 0
structure IsF (F : List Nat → Nat) (W : List (List Nat)) (l : List Nat) : Prop where
  len : l.length = W.length
  at_ : ∀ s < W.length, l.getD s 0 = F (vals l (row W s))
theorem ext_getD {l m : List Nat} (h : l.length = m.length) (e : ∀ s < l.length, l.getD s 0 = m.getD s 0) : l = m := by
  apply List.ext_getElem h
  intro i h1 h2
  have := e i h1
  rw [List.getD_eq_getElem?_getD, List.getD_eq_getElem?_getD, List.getElem?_eq_getElem h1, List.getElem?_eq_getElem h2] at this
  exact this
theorem vals_congr {l m r : List Nat} (h : ∀ t ∈ r, l.getD t 0 = m.getD t 0) : vals l r = vals m r := List.map_congr_left h
theorem IsF.uniq {F : List Nat → Nat} {W : List (List Nat)} {l m : List Nat} (g : Good W) (a : IsF F W l) (b : IsF F W m) : l = m := by
  obtain ⟨fo, rk, hr⟩ := g
  have h : ∀ (n s : Nat), rk s < n → s < W.length → l.getD s 0 = m.getD s 0 := by
    intro n
    induction n with
    | zero => intro s h; exact absurd h (Nat.not_lt_zero _)
    | succ n ih =>
      intro s h hs
      rw [a.at_ s hs, b.at_ s hs]
      exact congrArg F (vals_congr fun t ht => ih t (Nat.lt_of_lt_of_le (hr s t ht) (Nat.le_of_lt_succ h)) (fo.lt s t ht))
  exact ext_getD (a.len.trans b.len.symm) fun s hs => h _ s (Nat.lt_succ_self _) (by rw [← a.len]; exact hs)
structure PartF (F : List Nat → Nat) (W : List (List Nat)) (o : List Nat) (i : Nat) (l : List Nat) : Prop where
  len : l.length = W.length
  at_ : ∀ s ∈ o.take i, l.getD s 0 = F (vals l (row W s))
  no : ∀ s, s ∉ o.take i → l.getD s 0 = 0
theorem PartF.start (F : List Nat → Nat) (W : List (List Nat)) (o : List Nat) : PartF F W o 0 (List.replicate W.length 0) where
  len := List.length_replicate
  at_ := fun s h => by cases h
  no := fun s _ => by
    rw [List.getD_eq_getElem?_getD, List.getElem?_replicate]
    split <;> rfl
theorem getD_set {l : List Nat} {s t v : Nat} (h : s < l.length) : (l.set s v).getD t 0 = if s = t then v else l.getD t 0 := by
  rw [List.getD_eq_getElem?_getD, List.getElem?_set, List.getD_eq_getElem?_getD]
  by_cases e : s = t
  · rw [if_pos e, if_pos h, if_pos e]
    rfl
  · rw [if_neg e, if_neg e]
theorem take_succ_mem {o : List Nat} {i s t : Nat} (h : o[i]? = some s) : t ∈ o.take (i + 1) ↔ t ∈ o.take i ∨ t = s := by
  rw [List.take_add_one, h, List.mem_append]
  simp
theorem not_take {o : List Nat} (nd : o.Nodup) {i s : Nat} (h : o[i]? = some s) : s ∉ o.take i := fun hm => by
  obtain ⟨j, hj, e⟩ := List.mem_take_iff_getElem.mp hm
  obtain ⟨hi, e2⟩ := List.getElem?_eq_some_iff.mp h
  have := (List.getElem_inj nd (h₀ := by omega) (h₁ := hi)).mp (e.trans e2.symm)
  omega
theorem PartF.turn {F : List Nat → Nat} {W : List (List Nat)} {o : List Nat} {i s : Nat} {l : List Nat} (p : PO W o) (h : PartF F W o i l) (hs : o[i]? = some s) : PartF F W o (i + 1) (l.set s (F (vals l (row W s)))) := by
  have hlt : s < l.length := by rw [h.len]; exact p.lt s (List.mem_of_getElem? hs)
  have hno := not_take p.nd hs
  have keep : ∀ r : List Nat, (∀ t ∈ r, t ∈ o.take i) → ∀ v, vals (l.set s v) r = vals l r := fun r hr v => vals_congr fun t ht => by
    rw [getD_set hlt, if_neg]
    intro e
    exact hno (e ▸ hr t ht)
  refine ⟨by rw [List.length_set]; exact h.len, fun t ht => ?_, fun t ht => ?_⟩
  · rw [getD_set hlt]
    by_cases e : s = t
    · subst e
      rw [if_pos rfl, keep _ (p.top i s hs)]
    · rw [if_neg e]
      have ht2 := ((take_succ_mem hs).mp ht).resolve_right (fun z => e z.symm)
      rw [h.at_ t ht2]
      obtain ⟨j, hj, ej⟩ := List.mem_take_iff_getElem.mp ht2
      rw [keep (row W t) fun u hu => ?_]
      have h1 := p.top j t (by rw [List.getElem?_eq_getElem (by omega), ej]) u hu
      obtain ⟨k, hk, ek⟩ := List.mem_take_iff_getElem.mp h1
      exact List.mem_take_iff_getElem.mpr ⟨k, by omega, ek⟩
  · have h1 : ¬ (t ∈ o.take i ∨ t = s) := fun z => ht ((take_succ_mem hs).mpr z)
    rw [getD_set hlt, if_neg (fun e => h1 (.inr e.symm))]
    exact h.no t fun z => h1 (.inl z)
theorem PartF.stop {F : List Nat → Nat} {W : List (List Nat)} {o l : List Nat} (g : Good W) (p : PO W o) (h : PartF F W o o.length l) : IsF F W l :=
  ⟨h.len, fun s hs => h.at_ s (by rw [List.take_length]; exact p.full g s hs)⟩
end Sp

namespace Sp
/-! ### the least missing number; the longest play -/
theorem range_le : ∀ (m : Nat) (l : List Nat), (∀ x < m, x ∈ l) → m ≤ l.length
  | 0, _, _ => Nat.zero_le _
  | m + 1, l, h => by
    have hm := h m (Nat.lt_succ_self m)
    have h1 := range_le m (l.erase m) fun x hx => (List.mem_erase_of_ne (show x ≠ m by omega)).mpr (h x (by omega))
    have h2 := List.length_erase_of_mem hm
    have h3 : 0 < l.length := List.length_pos_of_mem hm
    omega
structure IsMex (xs : List Nat) (m : Nat) : Prop where
  no : m ∉ xs
  all : ∀ k < m, k ∈ xs
theorem IsMex.uniq {xs : List Nat} {m k : Nat} (a : IsMex xs m) (b : IsMex xs k) : m = k := by
  rcases Nat.lt_trichotomy m k with h | h | h
  · exact absurd (b.all m h) a.no
  · exact h
  · exact absurd (a.all k h) b.no
def mexAux (xs : List Nat) : Nat → Nat → Nat
  | 0, k => k
  | f + 1, k => if k ∈ xs then mexAux xs f (k + 1) else k
def mex (xs : List Nat) : Nat := mexAux xs (xs.length + 1) 0
theorem mexAux_is (xs : List Nat) : ∀ (f k : Nat), f + k = xs.length + 1 → (∀ j < k, j ∈ xs) → IsMex xs (mexAux xs f k)
  | 0, k, e, h => by
    have := range_le k xs h
    omega
  | f + 1, k, e, h => by
    unfold mexAux
    by_cases hk : k ∈ xs
    · rw [if_pos hk]
      exact mexAux_is xs f (k + 1) (by omega) fun j hj => by
        by_cases e : j = k
        · exact e ▸ hk
        · exact h j (by omega)
    · rw [if_neg hk]
      exact ⟨hk, h⟩
theorem mex_is (xs : List Nat) : IsMex xs (mex xs) := mexAux_is xs _ 0 rfl fun j hj => absurd hj (Nat.not_lt_zero j)
theorem mex_le (xs : List Nat) : mex xs ≤ xs.length := range_le _ _ (mex_is xs).all
/-- 0 of none, else one more than the greatest -/
def lenF : List Nat → Nat
  | [] => 0
  | a :: r => max (1 + a) (lenF r)
theorem lenF_le {m : Nat} : ∀ {xs : List Nat}, (∀ x ∈ xs, x ≤ m) → lenF xs ≤ 1 + m
  | [], _ => Nat.zero_le _
  | a :: r, h => Nat.max_le.mpr ⟨Nat.add_le_add_left (h a (List.mem_cons_self ..)) 1, lenF_le fun x hx => h x (List.mem_cons_of_mem _ hx)⟩
theorem lenF_ge {m : Nat} : ∀ {xs : List Nat}, m ∈ xs → 1 + m ≤ lenF xs
  | a :: r, h => by
    rcases List.mem_cons.mp h with e | h
    · subst e
      exact Nat.le_max_left ..
    · exact Nat.le_trans (lenF_ge h) (Nat.le_max_right ..)
theorem lenF_max {m : Nat} {xs : List Nat} (h : m ∈ xs) (g : ∀ x ∈ xs, x ≤ m) : lenF xs = 1 + m := Nat.le_antisymm (lenF_le g) (lenF_ge h)
theorem lenF_mem : ∀ {xs : List Nat}, lenF xs = 0 ∨ ∃ x ∈ xs, lenF xs = 1 + x
  | [] => .inl rfl
  | a :: r => by
    refine .inr ?_
    show ∃ x ∈ a :: r, max (1 + a) (lenF r) = 1 + x
    rcases @lenF_mem r with h | ⟨x, hx, h⟩
    · exact ⟨a, List.mem_cons_self .., by rw [h]; exact Nat.max_eq_left (Nat.zero_le _)⟩
    · by_cases hl : 1 + x ≤ 1 + a
      · exact ⟨a, List.mem_cons_self .., by rw [h]; exact Nat.max_eq_left hl⟩
      · exact ⟨x, List.mem_cons_of_mem _ hx, by rw [h]; exact Nat.max_eq_right (by omega)⟩
theorem vals_length (l r : List Nat) : (vals l r).length = r.length := List.length_map ..
end Sp

namespace Sp
/-! ### numbers laid over one another, and moves -/
theorem lt_of_bit {n m k : Nat} (h0 : n.testBit k = false) (h1 : m.testBit k = true) (h : ∀ j, k < j → n.testBit j = m.testBit j) : n < m := by
  have up : n / 2 ^ (k + 1) = m / 2 ^ (k + 1) := Nat.eq_of_testBit_eq fun i => by
    rw [Nat.testBit_div_two_pow, Nat.testBit_div_two_pow]
    exact h _ (by omega)
  have b0 := bit_of n k
  have b1 := bit_of m k
  rw [h0] at b0
  rw [h1] at b1
  rw [Nat.pow_succ, ← Nat.div_div_eq_div_mul, ← Nat.div_div_eq_div_mul] at up
  refine Nat.lt_of_not_le fun hle => ?_
  have := Nat.div_le_div_right (c := 2 ^ k) hle
  have e0 : n / 2 ^ k % 2 = 0 := b0
  have e1 : m / 2 ^ k % 2 = 1 := b1
  omega
theorem top_bit : ∀ (d : Nat), d ≠ 0 → ∃ k, d.testBit k = true ∧ ∀ j, k < j → d.testBit j = false := by
  intro d
  induction d using Nat.strongRecOn with
  | ind d ih =>
    intro hd
    by_cases h : d / 2 = 0
    · have e : d = 1 := by omega
      subst e
      refine ⟨0, rfl, fun j hj => ?_⟩
      obtain ⟨i, rfl⟩ : ∃ i, j = i + 1 := ⟨j - 1, by omega⟩
      rw [← Nat.testBit_div_two]
      exact Nat.zero_testBit i
    · obtain ⟨k, h1, h2⟩ := ih (d / 2) (by omega) h
      refine ⟨k + 1, by rw [← Nat.testBit_div_two]; exact h1, fun j hj => ?_⟩
      obtain ⟨i, rfl⟩ : ∃ i, j = i + 1 := ⟨j - 1, by omega⟩
      rw [← Nat.testBit_div_two]
      exact h2 i (by omega)
theorem xor_cancel (a b : Nat) : a ^^^ b ^^^ b = a := by rw [Nat.xor_assoc, Nat.xor_self, Nat.xor_zero]
theorem xor_inj {a b c : Nat} (h : a ^^^ c = b ^^^ c) : a = b := by rw [← xor_cancel a c, h, xor_cancel]
theorem xor_zero_iff {a b : Nat} : a ^^^ b = 0 ↔ a = b := by
  constructor
  · intro h
    have := xor_cancel a b
    rw [h, Nat.zero_xor] at this
    exact this.symm
  · intro h
    rw [h, Nat.xor_self]
theorem xor_less {a d k : Nat} (h1 : d.testBit k = true) (h2 : ∀ j, k < j → d.testBit j = false) (ha : a.testBit k = true) : a ^^^ d < a :=
  lt_of_bit (k := k) (by rw [Nat.testBit_xor, h1, ha]; rfl) ha fun j hj => by rw [Nat.testBit_xor, h2 j hj, Bool.xor_false]
/-- the number of two games at once is that of both laid over -/
theorem mex_xor {xs ys : List Nat} {a b : Nat} (ha : IsMex xs a) (hb : IsMex ys b) : IsMex (xs.map (fun x => x ^^^ b) ++ ys.map fun y => a ^^^ y) (a ^^^ b) := by
  refine ⟨fun h => ?_, fun c hc => ?_⟩
  · rcases List.mem_append.mp h with h | h
    · obtain ⟨x, hx, e⟩ := List.mem_map.mp h
      exact ha.no (xor_inj e ▸ hx)
    · obtain ⟨y, hy, e⟩ := List.mem_map.mp h
      have e2 : y ^^^ a = b ^^^ a := by rw [Nat.xor_comm y a, Nat.xor_comm b a]; exact e
      exact hb.no (xor_inj e2 ▸ hy)
  · have hd : c ^^^ (a ^^^ b) ≠ 0 := fun z => by
      have := xor_zero_iff.mp z
      omega
    obtain ⟨k, h1, h2⟩ := top_bit _ hd
    have agree : ∀ j, k < j → c.testBit j = (a ^^^ b).testBit j := fun j hj => by
      have := h2 j hj
      rw [Nat.testBit_xor] at this
      cases e1 : c.testBit j <;> cases e2 : (a ^^^ b).testBit j <;> rw [e1, e2] at this <;> first | rfl | cases this
    have hs : (a ^^^ b).testBit k = true := by
      cases e : (a ^^^ b).testBit k with
      | true => rfl
      | false =>
        have hck : c.testBit k = true := by
          rw [Nat.testBit_xor, e, Bool.xor_false] at h1
          exact h1
        have := lt_of_bit e hck fun j hj => (agree j hj).symm
        omega
    generalize hg : c ^^^ (a ^^^ b) = d at *
    have back : d ^^^ (a ^^^ b) = c := by rw [← hg, xor_cancel]
    rw [Nat.testBit_xor] at hs
    cases e : a.testBit k with
    | true =>
      have hlt := xor_less h1 h2 e
      refine List.mem_append_left _ (List.mem_map.mpr ⟨a ^^^ d, ha.all _ hlt, ?_⟩)
      show a ^^^ d ^^^ b = c
      rw [← back, Nat.xor_comm a d, Nat.xor_assoc]
    | false =>
      rw [e, Bool.false_xor] at hs
      have hlt := xor_less h1 h2 hs
      refine List.mem_append_right _ (List.mem_map.mpr ⟨b ^^^ d, hb.all _ hlt, ?_⟩)
      show a ^^^ (b ^^^ d) = c
      rw [← back, Nat.xor_comm b d, ← Nat.xor_assoc, Nat.xor_comm a d, Nat.xor_assoc]
/-! ### rows of numbers -/
theorem xo_set : ∀ {l : List Nat} {i x : Nat} (y : Nat), l[i]? = some x → xo (l.set i y) = xo l ^^^ x ^^^ y
  | a :: r, 0, x, y, h => by
    have e : a = x := Option.some.inj h
    subst e
    show y ^^^ xo r = a ^^^ xo r ^^^ a ^^^ y
    rw [Nat.xor_comm a (xo r), xor_cancel, Nat.xor_comm]
  | a :: r, i + 1, x, y, h => by
    show a ^^^ xo (r.set i y) = a ^^^ xo r ^^^ x ^^^ y
    rw [xo_set (l := r) (i := i) y h, Nat.xor_assoc, Nat.xor_assoc, Nat.xor_assoc]
theorem xo_testBit : ∀ {l : List Nat} {k : Nat}, (xo l).testBit k = true → ∃ (i x : Nat), l[i]? = some x ∧ x.testBit k = true
  | [], k, h => by
    rw [show xo [] = 0 from rfl, Nat.zero_testBit] at h
    cases h
  | a :: r, k, h => by
    cases e : a.testBit k with
    | true => exact ⟨0, a, rfl, e⟩
    | false =>
      have h2 : (xo r).testBit k = true := by
        rw [show xo (a :: r) = a ^^^ xo r from rfl, Nat.testBit_xor, e, Bool.false_xor] at h
        exact h
      obtain ⟨i, x, h3, h4⟩ := xo_testBit h2
      exact ⟨i + 1, x, h3, h4⟩
/-- where the number is not 0, one game may be brought to less so that it is -/
theorem xo_move {l : List Nat} (h : xo l ≠ 0) : ∃ (i x : Nat), l[i]? = some x ∧ x ^^^ xo l < x := by
  obtain ⟨k, h1, h2⟩ := top_bit _ h
  obtain ⟨i, x, h3, h4⟩ := xo_testBit h1
  exact ⟨i, x, h3, xor_less h1 h2 h4⟩
theorem xo_set_zero {l : List Nat} {i x y : Nat} (h : l[i]? = some x) : xo (l.set i y) = 0 ↔ y = x ^^^ xo l := by
  rw [xo_set y h, xor_zero_iff, Nat.xor_comm (xo l) x]
  exact eq_comm
/-- in a web: a row is lost just where each move leads to one that is not -/
theorem lost_iff {W : List (List Nat)} {g R : List Nat} (hg : IsF mex W g) (hR : ∀ x ∈ R, x < W.length) : xo (vals g R) = 0 ↔ ∀ (p s : Nat), R[p]? = some s → ∀ t ∈ row W s, xo (vals g (R.set p t)) ≠ 0 := by
  have vset : ∀ p t, vals g (R.set p t) = (vals g R).set p (g.getD t 0) := fun p t => by unfold vals; rw [List.map_set]
  have vget : ∀ {p s : Nat}, R[p]? = some s → (vals g R)[p]? = some (g.getD s 0) := fun {p s} h => by unfold vals; rw [List.getElem?_map, h]; rfl
  constructor
  · intro h0 p s hp t ht z
    rw [vset, xo_set_zero (vget hp), h0, Nat.xor_zero] at z
    have hs := hg.at_ s (hR s (List.mem_of_getElem? hp))
    have := (mex_is (vals g (row W s))).no
    rw [← hs, ← z] at this
    exact this (List.mem_map.mpr ⟨t, ht, rfl⟩)
  · intro h
    refine Classical.byContradiction fun hne => ?_
    obtain ⟨p, x, hp, hlt⟩ := xo_move hne
    have hp2 := hp
    unfold vals at hp
    rw [List.getElem?_map] at hp
    cases e : R[p]? with
    | none => rw [e] at hp; cases hp
    | some s =>
      rw [e] at hp
      have ex : g.getD s 0 = x := Option.some.inj hp
      have hs := hg.at_ s (hR s (List.mem_of_getElem? e))
      rw [← ex, hs] at hlt
      obtain ⟨t, ht, et⟩ := List.mem_map.mp ((mex_is _).all _ hlt)
      refine h p s e t ht ?_
      rw [vset, xo_set_zero hp2, et, ← hs, ex]
/-! ### a web cut to its first spots -/
def cutW (c : Nat) (W : List (List Nat)) : List (List Nat) := (W.take c).map fun r => r.filter fun x => decide (x < c)
theorem cutW_len (c : Nat) (W : List (List Nat)) : (cutW c W).length = min c W.length := by rw [cutW, List.length_map, List.length_take]
theorem cutW_row (c : Nat) (W : List (List Nat)) (s : Nat) : row (cutW c W) s = if s < c then (row W s).filter (fun x => decide (x < c)) else [] := by
  by_cases h : s < c
  · rw [if_pos h]
    by_cases h2 : s < W.length
    · refine row_of ?_
      rw [cutW, List.getElem?_map, List.getElem?_take, if_pos h, row_get h2]
      rfl
    · rw [row_nil (W := W) (by omega), row_nil (by rw [cutW_len]; omega)]
      rfl
  · rw [if_neg h]
    exact row_nil (by rw [cutW_len]; omega)
theorem cutW_good {c : Nat} {W : List (List Nat)} (G : Good W) (hc : 1 ≤ c) : Good (cutW c W) := by
  obtain ⟨F, rk, hr⟩ := G
  have h1 := F.pos
  have h2 := F.le
  refine ⟨⟨by rw [cutW_len]; omega, by rw [cutW_len]; omega, fun s => ?_, fun s x hx => ?_⟩, rk, fun s x hx => ?_⟩
  · rw [cutW_row]
    split
    · exact (F.nd s).filter _
    · exact List.nodup_nil
  · rw [cutW_row] at hx
    split at hx
    · have h3 := F.lt s x (List.mem_filter.mp hx).1
      have h4 := of_decide_eq_true (List.mem_filter.mp hx).2
      rw [cutW_len]
      omega
    · cases hx
  · rw [cutW_row] at hx
    split at hx
    · exact hr s x (List.mem_filter.mp hx).1
    · cases hx
end Sp

namespace Sp
open PySem PySem.Spec PyProof.Rows L2
/-! ### len(set(xs)) of ints -/
def ddN (ns : List Int) : Nat := (PyProof.Rows.firstMet (fun i => ns.getD i 0) ns.length).length
theorem ddN_nodup {ns : List Int} (h : ns.Nodup) : ddN ns = ns.length := by
  unfold ddN
  rw [RZ.firstMet_nodup h ns.length (Nat.le_refl _), List.take_length]
theorem first_le (f : Nat → Int) : ∀ i, (PyProof.Rows.firstMet f i).length ≤ i
  | 0 => Nat.le_refl _
  | i + 1 => by
    have ih := first_le f i
    rw [PyProof.Rows.firstMet_succ]
    unfold PyProof.Rows.step_dedup
    split
    · omega
    · rw [List.length_append]
      show _ + 1 ≤ i + 1
      omega
def tLenSetN (K : PySem.W.Frag) (ta : TE) : TE := fun σ H Q => ta σ H fun x H1 => ∃ (l : Addr) (ns : List Int), x = .ref l ∧ SqL K H1 l (ns.map V.int) ∧ ns.length ≤ 4000 ∧ Q (.int (ddN ns : Nat)) H1
theorem pe_lenSetN {X : Cx} {a : Expr} {ta : TE} {p p2 q pos : Pos} (hg : Gl X "len") (hm : X.mg "len" = none) (hg2 : Gl X "set") (hm2 : X.mg "set" = none) (ha : PE X a ta) (hc : X.calm = true := by rfl)
    (na : starEach [a] X.env = (false, eval a X.env) :: starEach [] X.env := by rfl) : PE X (.Call (.Name "len" p) [.Call (.Name "set" p2) [a] [] q] [] pos) (tLenSetN X.K ta) := by
  refine ⟨fun pins s σ H Q I h => ?_⟩
  refine Call_ (ld_blt I hg hm boot_len ?_)
  refine PyProof.Rows.callWith_builtin1 (PyProof.Rows.args_cons ?_ rfl) rfl rfl
  refine Call_ (ld_blt I hg2 hm2 boot_set ?_)
  have run := ha.run pins s σ H _ I h
  refine PyProof.Rows.callWith_type1 (PyProof.Rows.args_cons (thn run fun v s1 z => PyProof.Rows.args_nil ?_) na) na rfl
  obtain ⟨x, H1, I1, r1, l, ns, rfl, hq, hl, q1⟩ := z
  cases r1
  obtain ⟨its, r, pl, _⟩ := I1.list hq
  have hlen : its.toArray.size = ns.length := by rw [List.size_toArray, ← r.length, List.length_map]
  refine call_set_list (I1.ok.hd hc) pl.isList (by simpa using RZ.intsAre_vals r) (by rw [hlen]; unfold scanBound; omega) fun h' tk hS hk => ?_
  refine PyProof.Rows.args_nil ?_
  rw [hlen] at hS
  obtain ⟨o, es, ep, t, ho, hex, hd, _, _, _, hf, hn⟩ := hS
  have I2 : Inv X pins σ H1 { s1 with heap := h', toks := tk } := I1.kept fun b o e => hk b o (Heap.lt_size e) e
  have hle := first_le (fun i => ns.getD i 0) ns.length
  exact call_len_set ho hex hd hf (by rw [hn] <;> omega) ⟨.int (ddN ns : Nat), H1, I2.tok _, ⟨_, by rw [hn]; rfl⟩, q1⟩
end Sp

namespace Sp
open PySem PySem.Spec PyProof.Rows L2
/-! ### lists of lists by place -/
abbrev refs (n : Nat) (q : Nat → Addr) : List V := (List.range n).map fun i => V.ref (q i)
theorem refs_len (n : Nat) (q : Nat → Addr) : (refs n q).length = n := by rw [List.length_map, List.length_range]
theorem refs_get {n : Nat} {q : Nat → Addr} {i : Nat} (h : i < n) : (refs n q)[i]? = some (.ref (q i)) := by
  rw [List.getElem?_map, List.getElem?_range h]
  rfl
theorem refs_at {n : Nat} {q : Nat → Addr} {i : Nat} (h : i < n) : atI (refs n q) (i : Int) = some (.ref (q i)) := atI_nat (refs_get h)
/-- a list of n lists, to be read -/
structure LL (H : Hp) (a : Addr) (n : Nat) (q : Nat → Addr) (c : Nat → List V) : Prop where
  top : H a = some (.lst (refs n q))
  at_ : ∀ i < n, H (q i) = some (.lst (c i))
theorem LL.same {H H1 : Hp} {a : Addr} {n : Nat} {q : Nat → Addr} {c : Nat → List V} (l : LL H a n q c) (s : Same H H1) : LL H1 a n q c := ⟨s _ _ l.top, fun i h => s _ _ (l.at_ i h)⟩
theorem LL.congr {H : Hp} {a : Addr} {n : Nat} {q : Nat → Addr} {c d : Nat → List V} (l : LL H a n q c) (e : ∀ i < n, c i = d i) : LL H a n q d := ⟨l.top, fun i h => by rw [← e i h]; exact l.at_ i h⟩
/-- the same, each list of its own, new to H0 -/
structure Own (H0 H : Hp) (a : Addr) (n : Nat) (q : Nat → Addr) (c : Nat → List V) : Prop where
  ll : LL H a n q c
  inj : ∀ i j, i < n → j < n → q i = q j → i = j
  ne : ∀ i < n, q i ≠ a
  na : H0 a = none
  nq : ∀ i < n, H0 (q i) = none
section
variable {H0 H H1 : Hp} {a b : Addr} {n : Nat} {q : Nat → Addr} {c d : Nat → List V}
theorem Own.same (l : Own H0 H a n q c) (s : Same H H1) : Own H0 H1 a n q c := ⟨l.ll.same s, l.inj, l.ne, l.na, l.nq⟩
theorem Own.congr (l : Own H0 H a n q c) (e : ∀ i < n, c i = d i) : Own H0 H a n q d := ⟨l.ll.congr e, l.inj, l.ne, l.na, l.nq⟩
theorem Own.back {H00 : Hp} (l : Own H0 H a n q c) (s : Same H00 H0) : Own H00 H a n q c := ⟨l.ll, l.inj, l.ne, s.free l.na, fun i h => s.free (l.nq i h)⟩
/-- one of the lists changes -/
theorem Own.set (l : Own H0 H a n q c) {k : Nat} (hk : k < n) (x : List V) : Own H0 (upd H (q k) (.lst x)) a n q (fun i => if i = k then x else c i) := by
  refine ⟨⟨?_, fun i h => ?_⟩, l.inj, l.ne, l.na, l.nq⟩
  · rw [upd_ne (l.ne k hk).symm]
    exact l.ll.top
  · by_cases e : i = k
    · rw [e, upd_same, if_pos rfl]
    · rw [upd_ne (fun z => e (l.inj i k h hk z)), if_neg e]
      exact l.ll.at_ i h
/-- another object changes -/
theorem Own.other (l : Own H0 H a n q c) {o : HO} (h1 : b ≠ a) (h2 : ∀ i < n, b ≠ q i) : Own H0 (upd H b o) a n q c :=
  ⟨⟨by rw [upd_ne h1.symm]; exact l.ll.top, fun i h => by rw [upd_ne (h2 i h).symm]; exact l.ll.at_ i h⟩, l.inj, l.ne, l.na, l.nq⟩
theorem LL.other (l : LL H a n q c) {o : HO} (h1 : b ≠ a) (h2 : ∀ i < n, b ≠ q i) : LL (upd H b o) a n q c :=
  ⟨by rw [upd_ne h1.symm]; exact l.top, fun i h => by rw [upd_ne (h2 i h).symm]; exact l.at_ i h⟩
/-- from lists by addresses -/
theorem LolN.own {c : Nat → List V} (h : LolN H0 H a ((List.range n).map c)) : ∃ q, Own H0 H a n q c := by
  obtain ⟨ps, top, R, nd, na, h0, hn⟩ := h
  have hl : ps.length = n := by rw [R.len, List.length_map, List.length_range]
  have get : ∀ i (h : i < n), ps[i]? = some (ps.getD i 0) := fun i h => by rw [List.getD_eq_getElem?_getD, List.getElem?_eq_getElem (by omega)]; rfl
  have mem : ∀ i (h : i < n), ps.getD i 0 ∈ ps := fun i h => List.mem_of_getElem? (get i h)
  refine ⟨fun i => ps.getD i 0, ⟨?_, fun i h => ?_⟩, fun i j hi hj e => ?_, fun i h e => ?_, h0, fun i h => hn _ (mem i h)⟩
  · rw [top]
    congr 2
    apply List.ext_getElem?
    intro i
    by_cases hi : i < n
    · rw [refs_get hi, List.getElem?_map, get i hi]
      rfl
    · rw [List.getElem?_eq_none (by rw [List.length_map]; omega), List.getElem?_eq_none (by rw [refs_len]; omega)]
  · exact R.at_ i _ _ (get i h) (by rw [List.getElem?_map, List.getElem?_range h]; rfl)
  · have e1 := get i hi
    have e2 := get j hj
    rw [show ps.getD i 0 = ps.getD j 0 from e, ← e2] at e1
    obtain ⟨k1, _⟩ := List.getElem?_eq_some_iff.mp e2
    have h3 : ps[i]'(by omega) = ps[j]'k1 := by
      rw [List.getElem?_eq_getElem (by omega), List.getElem?_eq_getElem k1] at e1
      exact Option.some.inj e1
    exact (List.getElem_inj nd).mp h3
  · exact na (e ▸ mem i h)
end
/-! ### webs -/
abbrev wrow (W : List (List Nat)) : Nat → List V := fun i => nvs (row W i)
abbrev WebAt (H : Hp) (a : Addr) (W : List (List Nat)) (q : Nat → Addr) : Prop := LL H a W.length q (wrow W)
/-- a web stands at a -/
def Web (H : Hp) (a : Addr) (W : List (List Nat)) : Prop := ∃ q, WebAt H a W q
theorem Web.same {H H1 : Hp} {a : Addr} {W : List (List Nat)} (h : Web H a W) (s : Same H H1) : Web H1 a W := let ⟨q, l⟩ := h; ⟨q, l.same s⟩
/-- a web of its own, new to H0 -/
def WebN (H0 H : Hp) (a : Addr) (W : List (List Nat)) : Prop := ∃ q, Own H0 H a W.length q (wrow W)
theorem WebN.web {H0 H : Hp} {a : Addr} {W : List (List Nat)} (h : WebN H0 H a W) : Web H a W := let ⟨q, l⟩ := h; ⟨q, l.ll⟩
theorem WebN.same {H0 H H1 : Hp} {a : Addr} {W : List (List Nat)} (h : WebN H0 H a W) (s : Same H H1) : WebN H0 H1 a W := let ⟨q, l⟩ := h; ⟨q, l.same s⟩
theorem WebN.back {H00 H0 H : Hp} {a : Addr} {W : List (List Nat)} (h : WebN H0 H a W) (s : Same H00 H0) : WebN H00 H a W := let ⟨q, l⟩ := h; ⟨q, l.back s⟩
theorem rows_range (W : List (List Nat)) : (List.range W.length).map (row W) = W := by
  apply List.ext_getElem?
  intro i
  by_cases hi : i < W.length
  · rw [List.getElem?_map, List.getElem?_range hi, row_get hi]
    rfl
  · rw [List.getElem?_eq_none (by rw [List.length_map, List.length_range]; omega), List.getElem?_eq_none (by omega)]
theorem row_map {n : Nat} {f : Nat → List Nat} {i : Nat} (h : i < n) : row ((List.range n).map f) i = f i := row_of (by rw [List.getElem?_map, List.getElem?_range h]; rfl)
theorem LL.lol {H : Hp} {a : Addr} {n : Nat} {q : Nat → Addr} {c : Nat → List V} (l : LL H a n q c) : Lol H a ((List.range n).map c) := by
  refine ⟨(List.range n).map q, by rw [l.top, List.map_map]; rfl, by rw [List.length_map, List.length_map], fun i p d h1 h2 => ?_⟩
  by_cases hi : i < n
  · rw [List.getElem?_map, List.getElem?_range hi] at h1 h2
    have e1 : q i = p := Option.some.inj h1
    have e2 : c i = d := Option.some.inj h2
    rw [← e1, ← e2]
    exact l.at_ i hi
  · rw [List.getElem?_eq_none (by rw [List.length_map, List.length_range]; omega)] at h1
    cases h1
theorem Web.dp {K : PySem.W.Frag} {H : Hp} {a : Addr} {W : List (List Nat)} (h : Web H a W) : Dp K H (.ref a) (dWeb W) := by
  obtain ⟨q, l⟩ := h
  refine dp_web (W := W) ?_
  have := l.lol
  have e : (List.range W.length).map (wrow W) = W.map nvs := by
    have e2 : (List.range W.length).map (wrow W) = ((List.range W.length).map (row W)).map nvs := by
      rw [List.map_map]
      rfl
    rw [e2, rows_range]
  rw [e] at this
  exact this
/-- a list of numbers that a function gives, one of them set -/
theorem map_range_set {α : Type} (n k : Nat) (f : Nat → α) (v : α) : ((List.range n).map f).set k v = (List.range n).map fun i => if i = k then v else f i := by
  apply List.ext_getElem?
  intro i
  rw [List.getElem?_set, List.length_map, List.length_range, List.getElem?_map, List.getElem?_map]
  by_cases hi : i < n
  · rw [List.getElem?_range hi]
    by_cases e : k = i
    · subst e
      rw [if_pos rfl, if_pos hi]
      simp
    · rw [if_neg e]
      have e2 : ¬ i = k := fun z => e z.symm
      simp [e2]
  · have hn : (List.range n)[i]? = none := List.getElem?_eq_none (by rw [List.length_range]; omega)
    rw [hn]
    by_cases e : k = i
    · rw [if_pos e, if_neg (by omega)]
      rfl
    · rw [if_neg e]
      rfl
end Sp

namespace Sp
open PySem PySem.Spec PyProof.Rows L2
/-! ### a list of lists grows -/
section
variable {H0 H H1 : Hp} {a p : Addr} {n : Nat} {q : Nat → Addr} {c : Nat → List V} {x : List V}
theorem Own.push (l : Own H0 H a n q c) (s : Same H H1) (s0 : Same H0 H) (np : H p = none) (hp : H1 p = some (.lst x)) :
    Own H0 (upd H1 a (.lst (refs n q ++ [.ref p]))) a (n + 1) (fun i => if i < n then q i else p) (fun i => if i < n then c i else x) := by
  have pa : p ≠ a := (ne_of_none l.ll.top np).symm
  have pq : ∀ i < n, q i ≠ p := fun i h => ne_of_none (l.ll.at_ i h) np
  refine ⟨⟨?_, fun i h => ?_⟩, fun i j hi hj e => ?_, fun i h => ?_, l.na, fun i h => ?_⟩
  · rw [upd_same]
    congr 2
    show refs n q ++ [V.ref p] = (List.range (n + 1)).map fun i => V.ref (if i < n then q i else p)
    rw [List.range_succ, List.map_append]
    congr 1
    · exact List.map_congr_left fun i hi => by rw [if_pos (List.mem_range.mp hi)]
    · show [V.ref p] = [V.ref (if n < n then q n else p)]
      rw [if_neg (Nat.lt_irrefl n)]
  · show upd H1 a _ (if i < n then q i else p) = some (.lst (if i < n then c i else x))
    by_cases hi : i < n
    · rw [if_pos hi, if_pos hi, upd_ne (l.ne i hi)]
      exact s _ _ (l.ll.at_ i hi)
    · rw [if_neg hi, if_neg hi, upd_ne pa]
      exact hp
  · have e2 : (if i < n then q i else p) = if j < n then q j else p := e
    by_cases h1 : i < n <;> by_cases h2 : j < n
    · rw [if_pos h1, if_pos h2] at e2
      exact l.inj i j h1 h2 e2
    · rw [if_pos h1, if_neg h2] at e2
      exact absurd e2 (pq i h1)
    · rw [if_neg h1, if_pos h2] at e2
      exact absurd e2.symm (pq j h2)
    · omega
  · show (if i < n then q i else p) ≠ a
    by_cases hi : i < n
    · rw [if_pos hi]
      exact l.ne i hi
    · rw [if_neg hi]
      exact pa
  · show H0 (if i < n then q i else p) = none
    by_cases hi : i < n
    · rw [if_pos hi]
      exact l.nq i hi
    · rw [if_neg hi]
      exact s0.free np
end
theorem row_snoc (RS : List (List Nat)) (R : List Nat) (i : Nat) : row (RS ++ [R]) i = if i < RS.length then row RS i else if i = RS.length then R else [] := by
  by_cases h : i < RS.length
  · rw [if_pos h]
    exact row_of (by rw [List.getElem?_append_left h]; exact row_get h)
  · rw [if_neg h]
    by_cases e : i = RS.length
    · rw [if_pos e]
      refine row_of ?_
      rw [List.getElem?_append_right (by omega), e, Nat.sub_self]
      rfl
    · rw [if_neg e]
      exact row_nil (by rw [List.length_append]; show RS.length + 1 ≤ i; omega)
/-- what is appended to a web of its own -/
theorem WebN.grow {H0 H : Hp} {a : Addr} {RS : List (List Nat)} (w : WebN H0 H a RS) (s0 : Same H0 H) : ∃ xs, H a = some (.lst xs) ∧ xs.length = RS.length ∧
    ∀ (H1 : Hp) (p : Addr) (R : List Nat), Same H H1 → H p = none → H1 p = some (.lst (nvs R)) → WebN H0 (upd H1 a (.lst (xs ++ [.ref p]))) a (RS ++ [R]) := by
  obtain ⟨q, O⟩ := w
  refine ⟨_, O.ll.top, refs_len _ _, fun H1 p R s np hp => ⟨fun i => if i < RS.length then q i else p, ?_⟩⟩
  have := O.push s s0 np hp
  rw [show (RS ++ [R]).length = RS.length + 1 by rw [List.length_append]; rfl]
  refine this.congr fun i hi => ?_
  show (if i < RS.length then nvs (row RS i) else nvs R) = nvs (row (RS ++ [R]) i)
  rw [row_snoc]
  by_cases h : i < RS.length
  · rw [if_pos h, if_pos h]
  · rw [if_neg h, if_neg h, if_pos (by omega)]
theorem webN_nil {H0 H : Hp} {a : Addr} (h : H a = some (.lst [])) (na : H0 a = none) : WebN H0 H a [] :=
  ⟨fun _ => 0, ⟨h, fun i hi => absurd hi (Nat.not_lt_zero i)⟩, fun i j hi => absurd hi (Nat.not_lt_zero i), fun i hi => absurd hi (Nat.not_lt_zero i), na, fun i hi => absurd hi (Nat.not_lt_zero i)⟩
/-! ### the first spots of a web -/
theorem refs_cut (n c : Nat) (q : Nat → Addr) : cutV (refs n q) none (some (c : Int)) = refs (min c n) q := by
  rw [cut_to, List.take_range]
theorem webN_cut {H0 H : Hp} {p : Addr} {W : List (List Nat)} {c : Nat} (h : LolN H0 H p ((List.range (min c W.length)).map fun i => nvs ((row W i).filter fun x => decide (x < c)))) : WebN H0 H p (cutW c W) := by
  obtain ⟨q, O⟩ := h.own
  refine ⟨q, ?_⟩
  rw [cutW_len]
  exact O.congr fun i hi => by rw [wrow, cutW_row, if_pos (by omega)]
/-! ### a place of a row changes -/
theorem set_cut {l : List Nat} {i t : Nat} (h : i < l.length) : l.take i ++ [t] ++ l.drop (i + 1) = l.set i t := by
  rw [List.set_eq_take_append_cons_drop, if_pos h, List.append_assoc]
  rfl
theorem inV_bl (bs : List Bool) : inV (.bl true) (bs.map V.bl) = bs.any id := by
  unfold inV
  rw [List.any_map]
  congr 1
  funext b
  cases b <;> rfl
theorem flat_bls (bs : List Bool) : (bs.map V.bl).all flatV = true := by
  rw [List.all_eq_true]
  intro v hv
  obtain ⟨b, _, rfl⟩ := List.mem_map.mp hv
  rfl
/-- a sorted arrangement of ints that are no less than 0 -/
theorem sorted_nat {l : List Nat} {ns : List Int} (h : ns.Perm (l.map fun n : Nat => (n : Int))) (hp : ns.Pairwise (· ≤ ·)) : ∃ S : List Nat, S.Perm l ∧ ns.map V.int = nvs S ∧ S.Pairwise (· ≤ ·) := by
  have hn : ∀ x ∈ ns, ∃ n : Nat, x = (n : Int) := fun x hx => by
    obtain ⟨n, _, e⟩ := List.mem_map.mp (h.mem_iff.mp hx)
    exact ⟨n, e.symm⟩
  have e1 : ns = (ns.map Int.toNat).map fun n : Nat => (n : Int) := by
    rw [List.map_map]
    refine (List.map_id ns).symm.trans (List.map_congr_left fun x hx => ?_)
    obtain ⟨n, rfl⟩ := hn x hx
    rfl
  refine ⟨ns.map Int.toNat, ?_, ?_, ?_⟩
  · have := h.map Int.toNat
    rw [List.map_map] at this
    have e2 : l.map (Int.toNat ∘ fun n : Nat => (n : Int)) = l := (List.map_congr_left fun n _ => rfl).trans (List.map_id l)
    rwa [e2] at this
  · rw [nvs_int, ← e1]
  · refine List.pairwise_map.mpr (hp.imp_of_mem fun {x y} hx hy hle => ?_)
    omega
end Sp

namespace Sp
open PySem PySem.Spec PyProof.Rows L2
/-! ### the error classes: what the top has written of them -/
def excB (K : PySem.W.Frag) (D : Addr) : Bool :=
  decide (PySem.W.findIn K (.ref D) "__getattribute__" = some (some (.builtin "BaseException.__getattribute__"))) &&
  (decide (PySem.W.findIn K (.ref D) "__getattr__" = some none) &&
  (decide (PySem.W.subIn K (.ref D) (.type "BaseException") = some true) &&
  (PySem.W.hasDictIn K D &&
  (decide (PySem.W.findIn K (.ref D) "__class__" = some (some (.builtin "object.__class__"))) &&
  (decide (PySem.W.specialIn K (.builtin "object.__class__") "__get__" = some (some (.builtin "getset_descriptor.__get__"))) &&
  (decide (PySem.W.takesIn K (.builtin "object.__class__") = some true) &&
  decide (PySem.W.mroIn K D (.type "object") = some true)))))))
theorem excB_ok {K : PySem.W.Frag} {D : Addr} (h : excB K D = true) : ExcC K D := by
  unfold excB at h
  obtain ⟨h1, h⟩ := He.ba h
  obtain ⟨h2, h⟩ := He.ba h
  obtain ⟨h3, h⟩ := He.ba h
  obtain ⟨h4, h⟩ := He.ba h
  obtain ⟨h5, h⟩ := He.ba h
  obtain ⟨h6, h⟩ := He.ba h
  obtain ⟨h7, h8⟩ := He.ba h
  exact ⟨of_decide_eq_true h1, of_decide_eq_true h2, of_decide_eq_true h3, h4, of_decide_eq_true h5, of_decide_eq_true h6, of_decide_eq_true h7, of_decide_eq_true h8⟩
/-- one class -/
structure XC (ns : List Str) (K : PySem.W.Frag) (x : Str) : Prop where
  ex : PySem.W.excIn K (He.ga K x) He.veBase "ValueError.__new__" = true
  kp : PySem.W.keepIn K (.ref (He.ga K x)) = true
  sb : PySem.W.subIn K (.ref (He.ga K x)) (.type "BaseException") = some true
  ty : PySem.W.typeIn K (.ref (He.ga K x)) = some (.type "type")
  cc : ExcC K (He.ga K x)
  game : PySem.W.exmOne K (.ref (He.ga K x)) (.ref (He.ga K "GameError")) = some true
  val : PySem.W.kitOne K (.ref (He.ga K x)) (.type "ValueError") = some true
  is : ∀ y ∈ ns, PySem.W.kitOne K (.ref (He.ga K x)) (.ref (He.ga K y)) = some (decide (x = y))
def xcB (ns : List Str) (K : PySem.W.Frag) (x : Str) : Bool :=
  PySem.W.excIn K (He.ga K x) He.veBase "ValueError.__new__" && (PySem.W.keepIn K (.ref (He.ga K x)) &&
  (decide (PySem.W.subIn K (.ref (He.ga K x)) (.type "BaseException") = some true) && (decide (PySem.W.typeIn K (.ref (He.ga K x)) = some (.type "type")) &&
  (excB K (He.ga K x) && (decide (PySem.W.exmOne K (.ref (He.ga K x)) (.ref (He.ga K "GameError")) = some true) &&
  (decide (PySem.W.kitOne K (.ref (He.ga K x)) (.type "ValueError") = some true) &&
  ns.all fun y => decide (PySem.W.kitOne K (.ref (He.ga K x)) (.ref (He.ga K y)) = some (decide (x = y)))))))))
theorem xcB_ok {ns : List Str} {K : PySem.W.Frag} {x : Str} (h : xcB ns K x = true) : XC ns K x := by
  unfold xcB at h
  obtain ⟨h1, h⟩ := He.ba h
  obtain ⟨h2, h⟩ := He.ba h
  obtain ⟨h3, h⟩ := He.ba h
  obtain ⟨h4, h⟩ := He.ba h
  obtain ⟨h5, h⟩ := He.ba h
  obtain ⟨h6, h⟩ := He.ba h
  obtain ⟨h7, h8⟩ := He.ba h
  exact ⟨h1, h2, of_decide_eq_true h3, of_decide_eq_true h4, excB_ok h5, of_decide_eq_true h6, of_decide_eq_true h7, fun y hy => of_decide_eq_true (List.all_eq_true.mp h8 y hy)⟩
/-- all of them -/
def XF (ns : List Str) (K : PySem.W.Frag) : Prop := ∀ x ∈ ns, XC ns K x
def xfB (ns : List Str) (K : PySem.W.Frag) : Bool := ns.all (xcB ns K)
theorem xfB_ok {ns : List Str} {K : PySem.W.Frag} (h : xfB ns K = true) : XF ns K := fun x hx => xcB_ok (List.all_eq_true.mp h x hx)
structure XT (ns : List Str) (K : PySem.W.Frag) (mg : Str → Option Value) : Prop where
  xf : XF ns K
  gl : ∀ x ∈ ns, mg x = some (.ref (He.ga K x))
  gE : mg "GameError" = some (.ref (He.ga K "GameError"))
  vE : mg "ValueError" = none
/-! ### the head's facts by one more Bool -/
abbrev AlX : Type := He.AlD × Bool
def obsX (fa : List He.Fa) (fn : List He.DefD) (ex : PySem.W.Frag → Bool) (K : PySem.W.Frag) : AlX := (He.obsD fa fn K, ex K)
def valX (fn : List He.DefD) : AlX := (He.valD fn, true)
def obsXG (n : Nat) (fa : List He.Fa) (fn : List He.DefD) (ex : PySem.W.Frag → Bool) (g : Addr → Option Obj) : AlX := obsX fa fn ex (He.frG g (He.asD g n))
def SaysX (fa : List He.Fa) (fn : List He.DefD) (ex : PySem.W.Frag → Bool) (K : PySem.W.Frag) : Prop := obsX fa fn ex K = valX fn
def hookX (n : Nat) (fa : List He.Fa) (fn : List He.DefD) (ex : PySem.W.Frag → Bool) : PySem.W.Hook where
  α := AlX
  obs := fun s => obsXG n fa fn ex s.heap.get?
  val := fun _ => valX fn
  says := fun _ h => ∃ K : PySem.W.Frag, K.In h ∧ SaysX fa fn ex K
  of := fun _ _ e => ⟨_, He.frG_in, e⟩
  keeps := fun _ _ _ ⟨K, hK, c⟩ k => ⟨K, PySem.W.Frag.In.keeps hK k, c⟩
theorem obsXG_eq {n : Nat} {fa : List He.Fa} {fn : List He.DefD} {ex : PySem.W.Frag → Bool} {g : Addr → Option Obj} {s : Shared} (h : ∀ a, g a = s.heap.get? a) : obsXG n fa fn ex g = (hookX n fa fn ex).obs s := by
  have e : g = s.heap.get? := funext h
  rw [e] <;> rfl
theorem SaysX.d {fa : List He.Fa} {fn : List He.DefD} {ex : PySem.W.Frag → Bool} {K : PySem.W.Frag} (c : SaysX fa fn ex K) : He.SaysD fa fn K := congrArg (fun z : AlX => z.1) c
theorem SaysX.ex {fa : List He.Fa} {fn : List He.DefD} {ex : PySem.W.Frag → Bool} {K : PySem.W.Frag} (c : SaysX fa fn ex K) : ex K = true := congrArg (fun z : AlX => z.2) c
/-! ### a def that may raise, as a caller takes it -/
structure DfX (P : Program) (w : World) (K : PySem.W.Frag) (mg : Str → Option Value) (base : Heap) (k : Nat) (x : Str) (ps : List Str) (sp : Sp) : Prop where
  ex : ∃ (f : Addr) (fd : FuncData), FnOk P w K mg base (L2.CX P w) k f fd ps sp ∧ mg x = some (.ref f) ∧ PySem.W.keepIn K (.ref f) = true ∧ Binds K fd ps []
section
variable {X : Cx} {k : Nat} {x : Str} {ps : List Str} {sp : Sp} {e : Expr} {es : List Expr} {t : TA} {p pos : Pos}
/-- nothing is raised here -/
theorem pe_cdX (D : DfX X.prog X.w X.K X.mg X.base k x ps sp) (hr : Room k X.A) (hg : Gl X x) (ha : PA X (e :: es) t)
    (hdb : (x == ("__debug__" : Str)) = false := by decide) (he : starEach (e :: es) X.env = (false, eval e X.env) :: starEach es X.env := by rfl) (hpl : (backTo pos (starEach es X.env)).any (·.1) = false := by rfl) :
    PE X (.Call (.Name x p) (e :: es) [] pos) (tCall sp [] E0 t) := by
  obtain ⟨f, fd, F, g, kp, b⟩ := D.ex
  exact pe_call F hr hg g kp b .nil passL ha hdb he hpl
/-- what is raised goes on -/
theorem pe_cdE {E : XK} (D : DfX X.prog X.w X.K X.mg X.base k x ps sp) (tk : Takes X fun cls d _ H => E cls d H) (hr : Room k X.A) (hg : Gl X x) (ha : PA X (e :: es) t)
    (hdb : (x == ("__debug__" : Str)) = false := by decide) (he : starEach (e :: es) X.env = (false, eval e X.env) :: starEach es X.env := by rfl) (hpl : (backTo pos (starEach es X.env)).any (·.1) = false := by rfl) :
    PE X (.Call (.Name x p) (e :: es) [] pos) (tCall sp [] E t) := by
  obtain ⟨f, fd, F, g, kp, b⟩ := D.ex
  exact pe_call F hr hg g kp b .nil (passes_call tk fun _ _ _ _ h => h) ha hdb he hpl
/-- in a try's body -/
theorem pe_cdS {W : WX} (D : DfX X.prog X.w X.K X.mg X.base k x ps sp) (tk : Takes X W) (hr : Room k X.A) (hg : Gl X x) (ha : PA X (e :: es) t)
    (hdb : (x == ("__debug__" : Str)) = false := by decide) (he : starEach (e :: es) X.env = (false, eval e X.env) :: starEach es X.env := by rfl) (hpl : (backTo pos (starEach es X.env)).any (·.1) = false := by rfl) :
    PE X (.Call (.Name x p) (e :: es) [] pos) (tCallS sp (WE W) t) := by
  obtain ⟨f, fd, F, g, kp, b⟩ := D.ex
  exact pe_callS F hr hg g kp b (fun σ => passAt tk σ) ha hdb he hpl
end
/-- raise X('..') -/
def tRaiseC (E : XK) (cls : Value) : TS := fun _ _ H => E cls none H
theorem ps_raiseC {X : Cx} {E : XK} {ns : List Str} {x m : Str} {j : Nat} {p p2 pos pos' : Pos} (T : XT ns X.K X.mg) (hx : x ∈ ns) (hc : X.calm = true) (tk : Takes X fun cls d _ H => E cls d H) (hg : Gl X x) (hdb : (x == ("__debug__" : Str)) = false := by decide) :
    PS X (.Raise (some (.Call (.Name x p) [.Constant (.str m) j p2] [] pos)) none pos') (tRaiseC E (.ref (He.ga X.K x))) :=
  ps_raise hc tk (pmk_own PySem.F.excBase_ValueError (T.xf x hx).ex (T.gl x hx) (T.xf x hx).kp (raises_own (T.xf x hx).sb (T.xf x hx).ty) hg hdb)
/-- try: .. except GameError as n: .. -/
def tTryAs (K : PySem.W.Frag) (c : Value) (i : Nat) (tb : WX → TS) (ts : Addr → Value → Option Addr → TS) : TS := fun D σ H => tb (wAs K c i ts (fun _ _ _ _ => False) D) D σ H
/-- isinstance(error, C) in the suite -/
def rIsX (K : PySem.W.Frag) (a : Addr) (cls : Value) (d : Option Addr) : List V → Hp → VK → Prop := fun xs H Q => ∃ D, cls = .ref D ∧ d = none ∧ ExcC K D ∧ rIsE K D a xs H Q
theorem call_isX {X : Cx} {a : Addr} {oe : Obj} {cls : Value} {d : Option Addr} {pn : List (Addr × Obj)} (hz : Zc cls d oe) (hf : ∃ vs, oe.data = .fields vs) : CallR (X.suite a ((a, oe) :: pn)) (.builtin "isinstance") (rIsX X.K a cls d) := by
  intro pins s σ H xs us Q I r h
  obtain ⟨D, rfl, rfl, C, h⟩ := h
  exact call_isE C hz hf pins s σ H xs us Q I r h
/-- isinstance's answers -/
theorem isX_own {ns : List Str} {K : PySem.W.Frag} {x y : Str} {a : Addr} {H : Hp} {Q : VK} (T : XF ns K) (hx : x ∈ ns) (hy : y ∈ ns) (q : Q (.bl (decide (x = y))) H) : rIsX K a (.ref (He.ga K x)) none [.ref a, .ref (He.ga K y)] H Q :=
  ⟨He.ga K x, rfl, rfl, (T x hx).cc, .ref (He.ga K y), .ref (He.ga K y), decide (x = y), rfl, fun u h => h, (T x hx).is y hy, q⟩
theorem isX_val {ns : List Str} {K : PySem.W.Frag} {x : Str} {a : Addr} {H : Hp} {Q : VK} (T : XF ns K) (hx : x ∈ ns) (q : Q (.bl true) H) : rIsX K a (.ref (He.ga K x)) none [.ref a, .ty "ValueError"] H Q :=
  ⟨He.ga K x, rfl, rfl, (T x hx).cc, .ty "ValueError", .type "ValueError", true, rfl, fun u h => h, (T x hx).val, q⟩
end Sp

namespace Sp
open PySem PySem.Spec PyProof.Rows L2
/-! ### laid_over -/
def sp_laid_over (K : PySem.W.Frag) : Sp := fun vs H Q _ => ∃ (a : Addr) (l : List Nat), vs = [.ref a] ∧ SqL K H a (nvs l) ∧ l.length ≤ 10000 ∧ (∀ x ∈ l, x < 2 ^ 400) ∧ ∀ H', Same H H' → Q (nv (xo l)) H'
/-- slots: 0 numbers, 1 found, 2 power, 3 left, 4 number -/
def N_laid_over : List Str := ["numbers", "found", "power", "left", "number"]
def t_laid_over (K : PySem.W.Frag) : TS :=
    tSeq (tAsg (tC (.int 0)) (gName 1))
    (tSeq (tAsg (tC (.int 1)) (gName 2))
    (tSeq (tAsg (tCB (rList K) (tCons (tVar 0) (tNil))) (gName 3))
    (tSeq (tWhile (tTest (tOp rGt (tCB (rLen K) (tCons (tVar 3) (tNil))) (tC (.int 0)))) (tSeq (tAsg (tOp rAdd (tVar 1) (tOp rMul (tOp rMod (tCB (rSum K) (tCons (tLc (iList K (tVar 3)) (gName 4) (tYes) (tOp rMod (tVar 4) (tC (.int 2))) [4]) (tNil))) (tC (.int 2))) (tVar 2))) (gName 1))
    (tSeq (tAsg (tOp rMul (tVar 2) (tC (.int 2))) (gName 2))
    (tAsg (tLc (iList K (tVar 3)) (gName 4) (tTest (tOp rGt (tVar 4) (tC (.int 1)))) (tOp rDiv (tVar 4) (tC (.int 2))) [4]) (gName 3)))))
    (tRet (tVar 1)))))
theorem r_laid_over {K : PySem.W.Frag} (vs : List V) (H : Hp) (Q : VK) (E : XK) (h : sp_laid_over K vs H Q E) : t_laid_over K { nx := fun _ H' => Q .non H', rt := Q } (start N_laid_over vs) H := by
  obtain ⟨a, l, rfl, hl, hz, hx, q⟩ := h
  -- left = list(numbers)
  refine ⟨.ref a, rfl, a, _, rfl, .inl hl, fun p np => ?_⟩
  -- while len(left) > 0
  refine ⟨fun m σ H1 => ∃ (r : Addr) (l' : List Nat) (f k : Nat) (y : Option V), σ = [some (.ref a), some (nv f), some (nv (2 ^ k)), some (.ref r), y] ∧ Same H H1 ∧ SqL K H1 r (nvs l') ∧ l'.length ≤ 10000 ∧ (∀ x ∈ l', x < 2 ^ m) ∧ (l' = [] ∨ 1 ≤ m) ∧ f + 2 ^ k * xo l' = xo l,
    ⟨400, p, l, 0, 0, none, rfl, same_new np, .of upd_same, hz, hx, .inr (by decide), by simp⟩, fun m σ H1 hW => ?_⟩
  obtain ⟨r, l', f, k, y, rfl, s1, hr, hz', hx', hm, e⟩ := hW
  refine ⟨.ref r, rfl, r, _, rfl, .inl hr, _, _, rfl, rfl, _, rfl, ite2 (fun c => ?_) (fun c => ?_)⟩
  · have hne : l' ≠ [] := by
      intro z
      subst z
      exact absurd c (by decide)
    have hm1 : 1 ≤ m := hm.resolve_left hne
    refine ⟨fun σ' H' => ∃ (r : Addr) (l' : List Nat) (f k : Nat) (y : Option V), σ' = [some (.ref a), some (nv f), some (nv (2 ^ k)), some (.ref r), y] ∧ Same H H' ∧ SqL K H' r (nvs l') ∧ l'.length ≤ 10000 ∧ (∀ x ∈ l', x < 2 ^ (m - 1)) ∧ (l' = [] ∨ 1 ≤ m - 1) ∧ f + 2 ^ k * xo l' = xo l,
      fun σ' H' hN => ⟨m - 1, by omega, hN⟩, ?_⟩
    -- found = found + sum([number % 2 for number in left]) % 2 * power
    refine ⟨nv f, rfl, .ref r, rfl, r, rfl, ⟨_, hr⟩, lcL l' nv (fun _ => true) (fun n => nv (n % 2)) hr (by omega) (fun d hd H2 Qy Qf s2 hy _ => ?_) (fun D H2 _ s2 hD => ?_)⟩
    · refine ⟨nv d, rfl, (d : Int), 2, rfl, rfl, (show (0 : Int) < 2 by decide), ?_⟩
      exact hy rfl H2 (Same.refl _)
    · have hD2 : SqL K H2 D ((l'.map fun n => ((n % 2 : Nat) : Int)).map V.int) := by
        have e1 : (l'.filter fun _ => true).map (fun n => nv (n % 2)) = (l'.map fun n => ((n % 2 : Nat) : Int)).map V.int := by
          rw [List.filter_eq_self.mpr (fun _ _ => rfl), List.map_map]
          rfl
        exact .of (by rw [← e1]; exact hD)
      have hsum : (l'.map fun n => ((n % 2 : Nat) : Int)).sum = (((l'.map (· % 2)).sum : Nat) : Int) := by
        rw [← sum_nat, List.map_map]
        rfl
      have hbit : (l'.map fun n => ((n % 2 : Nat) : Int)).sum % 2 = ((xo l' % 2 : Nat) : Int) := by
        rw [hsum, xo_mod_two]
        omega
      refine ⟨D, _, rfl, hD2, _, 2, rfl, rfl, (show (0 : Int) < 2 by decide), nv (2 ^ k), rfl, _, ((2 ^ k : Nat) : Int), rfl, rfl, .inl (by rw [hbit]; omega), (f : Int), _, rfl, rfl, ?_⟩
      -- power = power * 2
      refine ⟨nv (2 ^ k), rfl, ((2 ^ k : Nat) : Int), 2, rfl, rfl, .inr (by decide), ?_⟩
      -- left = [..]
      have hr2 : SqL K H2 r (nvs l') := s2.seq hr
      refine ⟨.ref r, rfl, r, rfl, ⟨_, hr2⟩, lcL l' nv (fun n => decide (1 < n)) (fun n => nv (n / 2)) hr2 (by omega) (fun d hd H3 Qy Qf s3 hy hf => ?_) (fun D3 H3 _ s3 hD3 => ?_)⟩
      · refine ⟨nv d, rfl, (d : Int), 1, rfl, rfl, _, rfl, ite2 (fun c2 => ?_) (fun c2 => ?_)⟩
        · refine ⟨nv d, rfl, (d : Int), 2, rfl, rfl, ⟨by decide, by decide⟩, ?_⟩
          have c3 : 1 < d := by
            have := of_decide_eq_true c2
            omega
          exact hy (decide_eq_true c3) H3 (Same.refl _)
        · have c3 : ¬ 1 < d := fun z => c2 (decide_eq_true (by omega))
          exact hf (decide_eq_false c3) H3 (Same.refl _)
      · refine ⟨D3, (l'.filter fun n => decide (1 < n)).map (· / 2), f + xo l' % 2 * 2 ^ k, k + 1, y, ?_, s1.trans (s2.trans s3), .of ?_, ?_, ?_, ?_, ?_⟩
        · rw [hbit]
          show [some (V.ref a), some (V.int ((f : Int) + ((xo l' % 2 : Nat) : Int) * ((2 ^ k : Nat) : Int))), some (V.int (((2 ^ k : Nat) : Int) * 2)), some (V.ref D3), y] = _
          have e5 : (f : Int) + ((xo l' % 2 : Nat) : Int) * ((2 ^ k : Nat) : Int) = ((f + xo l' % 2 * 2 ^ k : Nat) : Int) := by
            rw [Int.natCast_add, Int.natCast_mul]
          have e6 : ((2 ^ k : Nat) : Int) * 2 = ((2 ^ (k + 1) : Nat) : Int) := by
            rw [Nat.pow_succ, Int.natCast_mul]
            rfl
          rw [e5, e6]
        · rw [hD3]
          unfold nvs
          rw [List.map_map]
          rfl
        · rw [List.length_map]
          exact Nat.le_trans (List.length_filter_le _ _) hz'
        · intro x hx2
          obtain ⟨n, hn, rfl⟩ := List.mem_map.mp hx2
          have h1 := hx' n (List.mem_filter.mp hn).1
          have e2 : 2 ^ m = 2 ^ (m - 1) * 2 := by rw [← Nat.pow_succ]; congr 1; omega
          rw [e2] at h1
          show n / 2 < 2 ^ (m - 1)
          omega
        · by_cases h1 : 1 ≤ m - 1
          · exact .inr h1
          · refine .inl ?_
            have e2 : m = 1 := by omega
            subst e2
            rw [List.map_eq_nil_iff, List.filter_eq_nil_iff]
            intro n hn
            have := hx' n hn
            simp
            omega
        · rw [xo_half]
          have e3 : xo l' = 2 * (xo l' / 2) + xo l' % 2 := by omega
          rw [← e, Nat.pow_succ]
          generalize xo l' / 2 = u at *
          generalize xo l' % 2 = v at *
          rw [e3, Nat.mul_add, ← Nat.mul_assoc, Nat.mul_comm v]
          omega
  · -- return found
    have h0 : l' = [] := by
      cases l' with
      | nil => rfl
      | cons x t => exact absurd (decide_eq_true (by rw [nvs_length, List.length_cons]; omega)) c
    subst h0
    refine ⟨nv f, rfl, ?_⟩
    have e2 : f = xo l := by
      rw [← e]
      simp [xo]
    rw [e2]
    exact q H1 s1
end Sp

namespace Sp
open PySem PySem.Spec PyProof.Rows L2
/-! ### _law_cell_at: some number -/
def sp__law_cell_at (K : PySem.W.Frag) : Sp := fun vs H Q _ => ∃ (a : Addr) (ns : List Int) (k : Int), vs = [.ref a, .int k] ∧ SqL K H a (ns.map V.int) ∧ 0 ≤ k ∧ ∀ c : Int, Q (.int c) H
/-- slots: 0 _law_script, 1 _law_k -/
def N__law_cell_at : List Str := ["_law_script", "_law_k"]
def t__law_cell_at (K : PySem.W.Frag) : TS :=
    tSeq (tIfS (tTest (tOp rLt (tVar 1) (tCB (rLen K) (tCons (tVar 0) (tNil))))) (tRet (tOp (rIxL K) (tVar 0) (tVar 1))) (tNext))
    (tRet (tC (.int 0)))
theorem r__law_cell_at {K : PySem.W.Frag} (vs : List V) (H : Hp) (Q : VK) (E : XK) (h : sp__law_cell_at K vs H Q E) : t__law_cell_at K { nx := fun _ H' => Q .non H', rt := Q } (start N__law_cell_at vs) H := by
  obtain ⟨a, ns, k, rfl, hs, h0, q⟩ := h
  refine ⟨.int k, rfl, .ref a, rfl, a, _, rfl, .inl hs, k, _, rfl, rfl, _, rfl, ite2 (fun c => ?_) (fun _ => q 0)⟩
  have c1 : k < ((ns.map V.int).length : Int) := of_decide_eq_true c
  rw [List.length_map] at c1
  have h1 : k.toNat < ns.length := by omega
  have h2 : (ns.map V.int)[k.toNat]? = some (.int ns[k.toNat]) := by
    rw [List.getElem?_map, List.getElem?_eq_getElem h1]
    rfl
  exact ⟨.ref a, rfl, .int k, rfl, a, _, k, _, rfl, rfl, hs, at_of (j := k.toNat) (by omega) h2, q _⟩
end Sp

namespace Sp
open PySem PySem.Spec PyProof.Rows L2
/-! ### the drawn web: _law_mixed, _law_order_by, _law_web_by, _law_copied -/
def sp__law_mixed (K : PySem.W.Frag) : Sp := fun vs H Q _ => ∃ (c k : Int), vs = [.int c, .int k] ∧ 0 ≤ k ∧ k ≤ 100000 ∧ ∀ m : Nat, Q (nv m) H
/-- slots: 0 _law_cell, 1 _law_k, 2 _law_number -/
def N__law_mixed : List Str := ["_law_cell", "_law_k", "_law_number"]
def t__law_mixed (K : PySem.W.Frag) : TS :=
    tSeq (tAsg (tOp rMod (tOp rMul (tOp rAdd (tOp rMod (tVar 0) (tC (.int 1000000007))) (tC (.int 17))) (tC (.int 48271))) (tC (.int 2147483647))) (gName 2))
    (tSeq (tAsg (tOp rMod (tOp rMul (tOp rAdd (tVar 2) (tVar 1)) (tOp rAdd (tOp rMul (tVar 1) (tVar 1)) (tC (.int 16807)))) (tC (.int 2147483629))) (gName 2))
    (tRet (tOp rDiv (tOp rMod (tOp rMul (tVar 2) (tC (.int 69621))) (tC (.int 2147483647))) (tC (.int 7)))))
theorem r__law_mixed {K : PySem.W.Frag} (vs : List V) (H : Hp) (Q : VK) (E : XK) (h : sp__law_mixed K vs H Q E) : t__law_mixed K { nx := fun _ H' => Q .non H', rt := Q } (start N__law_mixed vs) H := by
  obtain ⟨c, k, rfl, h0, h1, q⟩ := h
  have hkk : 0 ≤ k * k ∧ k * k ≤ 10000000000 := by
    refine ⟨Int.mul_nonneg h0 h0, ?_⟩
    have := Int.mul_le_mul h1 h1 h0 (by omega : (0 : Int) ≤ 100000)
    omega
  refine ⟨.int c, rfl, c, 1000000007, rfl, rfl, (show (0 : Int) < 1000000007 by decide), _, 17, rfl, rfl, _, 48271, rfl, rfl, .inr ⟨by decide, by decide⟩, _, 2147483647, rfl, rfl, (show (0 : Int) < 2147483647 by decide), ?_⟩
  refine ⟨_, rfl, .int k, rfl, _, k, rfl, rfl, .int k, rfl, .int k, rfl, k, k, rfl, rfl, .inl ⟨by omega, by omega⟩, k * k, 16807, rfl, rfl, _, k * k + 16807, rfl, rfl, .inr ⟨by omega, by omega⟩, _, 2147483629, rfl, rfl, (show (0 : Int) < 2147483629 by decide), ?_⟩
  refine ⟨_, rfl, _, 69621, rfl, rfl, .inr ⟨by decide, by decide⟩, _, 2147483647, rfl, rfl, (show (0 : Int) < 2147483647 by decide), _, 7, rfl, rfl, ⟨by decide, by decide⟩, ?_⟩
  try dsimp only
  generalize ((c % 1000000007 + 17) * 48271 % 2147483647 + k) * (k * k + 16807) % 2147483629 * 69621 = z
  obtain ⟨m, hm⟩ := Int.eq_ofNat_of_zero_le (show 0 ≤ z % 2147483647 / 7 by omega)
  rw [hm]
  exact q m
def sp__law_order_by (K : PySem.W.Frag) : Sp := fun vs H Q _ => ∃ (c : Int) (n : Nat), vs = [.int c, nv n] ∧ n ≤ 100 ∧ ∀ (o : List Nat) (p : Addr) (H' : Hp), o.Perm (List.range n) → H p = none → Same H H' → H' p = some (.lst (nvs o)) → Q (.ref p) H'
/-- slots: 0 _law_cell, 1 _law_many, 2 _law_left, 3 _law_order, 4 _law_k -/
def N__law_order_by : List Str := ["_law_cell", "_law_many", "_law_left", "_law_order", "_law_k"]
def t__law_order_by (K : PySem.W.Frag) : TS :=
    tSeq (tAsg (tLstRg (tRg1 (tVar 1))) (gName 2))
    (tSeq (tAsg (tLst (tNil)) (gName 3))
    (tSeq (tFor (iRng1 (tCons (tVar 1) (tNil))) (gName 4) (tDrop (tBM K "list" rAppend (tVar 3) (tCons (tBM K "list" rPopAt (tVar 2) (tCons (tOp rMod (tCall (sp__law_mixed K) [] E0 (tCons (tVar 0) (tCons (tVar 4) (tNil)))) (tCB (rLen K) (tCons (tVar 2) (tNil)))) (tNil))) (tNil)))))
    (tRet (tVar 3))))
theorem rgV_nat (n : Nat) : rgV 0 (n : Int) = nvs (List.range n) := by
  unfold rgV nvs
  rw [show ((n : Int) - 0).toNat = n by omega]
  exact List.map_congr_left fun i _ => by rw [Int.zero_add]
theorem map_erase {α β : Type} (f : α → β) : ∀ (l : List α) (k : Nat), (l.map f).eraseIdx k = (l.eraseIdx k).map f
  | [], _ => rfl
  | a :: r, 0 => rfl
  | a :: r, k + 1 => congrArg (f a :: ·) (map_erase f r k)
theorem erase_perm : ∀ {l : List Nat} {k x : Nat}, l[k]? = some x → (x :: l.eraseIdx k).Perm l
  | [], _, _, h => by cases h
  | a :: r, 0, x, h => by
    have e : a = x := Option.some.inj h
    subst e
    exact .refl _
  | a :: r, k + 1, x, h => by
    have ih := erase_perm (l := r) (k := k) (x := x) h
    exact (List.Perm.swap a x _).trans (ih.cons a)
theorem r__law_order_by {K : PySem.W.Frag} (vs : List V) (H : Hp) (Q : VK) (E : XK) (h : sp__law_order_by K vs H Q E) : t__law_order_by K { nx := fun _ H' => Q .non H', rt := Q } (start N__law_order_by vs) H := by
  obtain ⟨c, n, rfl, hn, q⟩ := h
  refine ⟨nv n, rfl, (n : Int), rfl, .of_le (Int.le_refl _) (by omega) (by decide) (by omega), fun lA nl => ?_⟩
  rw [rgV_nat]
  refine ⟨Nat.zero_le _, fun oA no => ?_⟩
  have lo : lA ≠ oA := ne_of_none upd_same no
  have s1 : Same H (upd (upd H lA (.lst (nvs (List.range n)))) oA (.lst [])) := (same_new nl).new no
  have noH := (same_new (o := .lst (nvs (List.range n))) nl).free no
  refine ⟨nv n, rfl, (n : Int), rfl, by omega, by omega, ?_⟩
  rw [Int.toNat_natCast]
  refine for_range (fun i σ H1 => ∃ (o l : List Nat) (y : Option V), σ = [some (.int c), some (nv n), some (.ref lA), some (.ref oA), y] ∧ Same H H1 ∧ H1 lA = some (.lst (nvs l)) ∧ H1 oA = some (.lst (nvs o)) ∧ (o ++ l).Perm (List.range n) ∧ o.length = i)
    ⟨[], List.range n, none, rfl, s1, by rw [upd_ne lo, upd_same], upd_same, .refl _, rfl⟩ (fun i σ H1 hi hP => ?_) (fun σ H1 hP => ?_)
  · obtain ⟨o, l, y, rfl, s2, hl, ho, hp, hlen⟩ := hP
    have hll : o.length + l.length = n := by
      have := hp.length_eq
      rwa [List.length_append, List.length_range] at this
    refine ⟨.ref oA, rfl, .inl ⟨rfl, _, .of ho⟩, .ref lA, rfl, .inl ⟨rfl, _, .of hl⟩, .int c, rfl, .int (0 + i), rfl, c, (0 + (i : Int)), rfl, by omega, by omega, fun m => ?_⟩
    have hpos : (0 : Int) < (l.length : Int) := by omega
    refine ⟨.ref lA, rfl, lA, _, rfl, .inl (.of hl), (m : Int), _, rfl, rfl, (show (0 : Int) < ((nvs l).length : Int) by rw [nvs_length]; exact hpos), ?_⟩
    rw [nvs_length]
    have hk : ((m : Int) % (l.length : Int)) = ((m % l.length : Nat) : Int) := rfl
    have hlt : m % l.length < l.length := Nat.mod_lt _ (by omega)
    obtain ⟨x, hx⟩ : ∃ x, l[m % l.length]? = some x := ⟨_, List.getElem?_eq_getElem hlt⟩
    refine ⟨lA, _, ((m % l.length : Nat) : Int), m % l.length, nv x, rfl, rfl, hl, by omega, by omega, ?_, nvs_get hx, ?_⟩
    · refine PySem.StrLaws.seqIndex_nonneg (by omega) ?_
      rw [nvs_length]
      omega
    · have ee : (nvs l).eraseIdx (m % l.length) = nvs (l.eraseIdx (m % l.length)) := by
        exact map_erase nv l _
      rw [ee]
      have ho2 : (upd H1 lA (.lst (nvs (l.eraseIdx (m % l.length))))) oA = some (.lst (nvs o)) := by rw [upd_ne lo.symm]; exact ho
      refine ⟨oA, _, nv x, rfl, rfl, ho2, by rw [nvs_length]; exact line_lt (by omega), o ++ [x], l.eraseIdx (m % l.length), some (.int (0 + i)), rfl, (s2.mut nl).mut noH, by rw [upd_ne lo, upd_same], by rw [upd_same, nvs_append]; rfl, ?_, by rw [List.length_append, hlen]; rfl⟩
      rw [List.append_assoc]
      exact ((List.Perm.refl o).append (erase_perm hx)).trans hp
  · obtain ⟨o, l, y, rfl, s2, hl, ho, hp, hlen⟩ := hP
    have hll : o.length + l.length = n := by
      have := hp.length_eq
      rwa [List.length_append, List.length_range] at this
    have l0 : l = [] := List.eq_nil_of_length_eq_zero (by omega)
    subst l0
    rw [List.append_nil] at hp
    exact ⟨.ref oA, rfl, q o oA H1 hp noH s2 ho⟩
/-! a web behind k rows and j moves of the next one -/
structure DInv (n : Nat) (o : List Nat) (f : Nat → List Nat) (k j : Nat) : Prop where
  nd : ∀ i < n, (f i).Nodup
  lo : ∀ (i x : Nat), o[i]? = some x → ∀ y ∈ f x, ∃ i' : Nat, i' < i ∧ o[i']? = some y
  mid : ∀ x : Nat, o[k]? = some x → ∀ y ∈ f x, ∃ i' : Nat, i' < j ∧ o[i']? = some y
  hi : ∀ (i x : Nat), k < i → o[i]? = some x → f x = []
theorem DInv.start (n : Nat) (o : List Nat) : DInv n o (fun _ => []) 0 0 where
  nd := fun _ _ => List.nodup_nil
  lo := fun _ _ _ _ h => by cases h
  mid := fun _ _ _ h => by cases h
  hi := fun _ _ _ _ => rfl
theorem DInv.weak {n : Nat} {o : List Nat} {f : Nat → List Nat} {k j : Nat} (d : DInv n o f k j) : DInv n o f k (j + 1) :=
  ⟨d.nd, d.lo, fun x hx y hy => let ⟨i, h, e⟩ := d.mid x hx y hy; ⟨i, by omega, e⟩, d.hi⟩
theorem DInv.add {n : Nat} {o : List Nat} {f : Nat → List Nat} {k j x y : Nat} (d : DInv n o f k j) (nd : o.Nodup) (hx : o[k]? = some x) (hy : o[j]? = some y) (hj : j < k) : DInv n o (fun i => if i = x then f x ++ [y] else f i) k (j + 1) := by
  have hk : ∀ i z, o[i]? = some z → (z = x ↔ i = k) := fun i z hz => by
    constructor
    · intro e
      rw [e] at hz
      exact nd_ix nd hz hx
    · intro e
      rw [e, hx] at hz
      exact (Option.some.inj hz).symm
  have hno : y ∉ f x := fun h => by
    obtain ⟨i', h1, e⟩ := d.mid x hx y h
    have := nd_ix nd e hy
    omega
  refine ⟨fun i hi => ?_, fun i z hz w hw => ?_, fun z hz w hw => ?_, fun i z hi hz => ?_⟩
  · by_cases e : i = x
    · try dsimp only
      rw [if_pos e]
      rw [e] at hi
      exact List.nodup_append.mpr ⟨d.nd x hi, List.nodup_cons.mpr ⟨List.not_mem_nil, List.nodup_nil⟩, fun a ha b hb e2 => by
        rw [List.mem_singleton.mp hb] at e2
        exact hno (e2 ▸ ha)⟩
    · try dsimp only
      rw [if_neg e]
      exact d.nd i hi
  · try dsimp only at hw
    by_cases e : z = x
    · rw [if_pos e] at hw
      have ek := (hk i z hz).mp e
      rcases List.mem_append.mp hw with h | h
      · exact d.lo i x (by rw [ek]; exact hx) w h
      · rw [List.mem_singleton.mp h]
        exact ⟨j, by omega, hy⟩
    · rw [if_neg e] at hw
      exact d.lo i z hz w hw
  · try dsimp only at hw
    have e : z = x := (hk k z hz).mpr rfl
    rw [if_pos e] at hw
    rcases List.mem_append.mp hw with h | h
    · obtain ⟨i', h1, e1⟩ := d.mid x hx w h
      exact ⟨i', by omega, e1⟩
    · rw [List.mem_singleton.mp h]
      exact ⟨j, by omega, hy⟩
  · try dsimp only
    have e : ¬ z = x := fun e => by have := (hk i z hz).mp e; omega
    rw [if_neg e]
    exact d.hi i z hi hz
theorem DInv.next {n : Nat} {o : List Nat} {f : Nat → List Nat} {k : Nat} (d : DInv n o f k k) : DInv n o f (k + 1) 0 where
  nd := d.nd
  lo := d.lo
  mid := fun x hx y hy => by
    rw [d.hi (k + 1) x (by omega) hx] at hy
    cases hy
  hi := fun i x h hx => d.hi i x (by omega) hx
theorem DInv.rev {n : Nat} {o : List Nat} {f : Nat → List Nat} {k j x : Nat} (d : DInv n o f k j) : DInv n o (fun i => if i = x then (f x).reverse else f i) k j := by
  have hm : ∀ z y, y ∈ (if z = x then (f x).reverse else f z) → y ∈ f z := fun z y h => by
    by_cases e : z = x
    · rw [if_pos e] at h
      rw [e]
      exact List.mem_reverse.mp h
    · rw [if_neg e] at h
      exact h
  refine ⟨fun i hi => ?_, fun i z hz w hw => d.lo i z hz w (hm z w hw), fun z hz w hw => d.mid z hz w (hm z w hw), fun i z hi hz => ?_⟩
  · try dsimp only
    by_cases e : i = x
    · rw [if_pos e]
      rw [e] at hi
      exact (List.reverse_perm _).nodup_iff.mpr (d.nd x hi)
    · rw [if_neg e]
      exact d.nd i hi
  · try dsimp only
    by_cases e : z = x
    · rw [if_pos e, ← e, d.hi i z hi hz]
      rfl
    · rw [if_neg e]
      exact d.hi i z hi hz
theorem DInv.good {n : Nat} {o : List Nat} {f : Nat → List Nat} {k : Nat} (d : DInv n o f k 0) (hp : o.Perm (List.range n)) (h1 : 1 ≤ n) (h2 : n ≤ 200) : Good ((List.range n).map f) := by
  have hlen : ((List.range n).map f).length = n := by rw [List.length_map, List.length_range]
  have nd : o.Nodup := hp.nodup_iff.mpr List.nodup_range
  have rw1 : ∀ s < n, row ((List.range n).map f) s = f s := fun s hs => row_of (by rw [List.getElem?_map, List.getElem?_range hs]; rfl)
  have rw2 : ∀ s, n ≤ s → row ((List.range n).map f) s = [] := fun s hs => row_nil (by rw [hlen]; exact hs)
  have at_ : ∀ s < n, ∃ i, o[i]? = some s := fun s hs => List.mem_iff_getElem?.mp (hp.mem_iff.mpr (List.mem_range.mpr hs))
  have below : ∀ {i s : Nat}, o[i]? = some s → s < n := fun h => List.mem_range.mp (hp.mem_iff.mp (List.mem_of_getElem? h))
  refine ⟨⟨by rw [hlen]; exact h1, by rw [hlen]; exact h2, fun s => ?_, fun s x hx => ?_⟩, fun s => o.idxOf s, fun s x hx => ?_⟩
  · by_cases hs : s < n
    · rw [rw1 s hs]
      exact d.nd s hs
    · rw [rw2 s (by omega)]
      exact List.nodup_nil
  · by_cases hs : s < n
    · rw [rw1 s hs] at hx
      obtain ⟨i, hi⟩ := at_ s hs
      obtain ⟨i', _, e⟩ := d.lo i s hi x hx
      rw [hlen]
      exact below e
    · rw [rw2 s (by omega)] at hx
      cases hx
  · by_cases hs : s < n
    · rw [rw1 s hs] at hx
      obtain ⟨i, hi⟩ := at_ s hs
      obtain ⟨i', h, e⟩ := d.lo i s hi x hx
      have g : ∀ {i z : Nat}, o[i]? = some z → o.idxOf z = i := fun {i z} hz => by
        obtain ⟨hl, e⟩ := List.getElem?_eq_some_iff.mp hz
        rw [← e]
        exact nd.idxOf_getElem i hl
      show o.idxOf x < o.idxOf s
      rw [g hi, g e]
      exact h
    · rw [rw2 s (by omega)] at hx
      cases hx
def sp__law_web_by (K : PySem.W.Frag) : Sp := fun vs H Q _ => ∃ (a : Addr) (ns : List Int) (k : Int), vs = [.ref a, .int k] ∧ SqL K H a (ns.map V.int) ∧ 0 ≤ k ∧ ∀ (W : List (List Nat)) (p : Addr) (H' : Hp), Good W → W.length ≤ 40 → Same H H' → WebN H H' p W → Q (.ref p) H'
/-- slots: 0 _law_script, 1 _law_at, 2 _law_many, 3 _law_order, 4 _law_thin, 5 _law_web, 6 _law_k, 7 _law_j, 8 _law_spot -/
def N__law_web_by : List Str := ["_law_script", "_law_at", "_law_many", "_law_order", "_law_thin", "_law_web", "_law_k", "_law_j", "_law_spot"]
def t__law_web_by (K : PySem.W.Frag) : TS :=
    tSeq (tAsg (tOp rAdd (tC (.int 1)) (tOp rMod (tCall (sp__law_cell_at K) [] E0 (tCons (tVar 0) (tCons (tVar 1) (tNil)))) (tC (.int 9)))) (gName 2))
    (tMid (tIfS (tTest (tOp rEq (tOp rMod (tCall (sp__law_cell_at K) [] E0 (tCons (tVar 0) (tCons (tOp rAdd (tVar 1) (tC (.int 1))) (tNil)))) (tC (.int 8))) (tC (.int 1)))) (tAsg (tOp rAdd (tC (.int 10)) (tOp rMod (tCall (sp__law_cell_at K) [] E0 (tCons (tVar 0) (tCons (tVar 1) (tNil)))) (tC (.int 31)))) (gName 2)) (tNext))
    (tSeq (tAsg (tCall (sp__law_order_by K) [] E0 (tCons (tCall (sp__law_cell_at K) [] E0 (tCons (tVar 0) (tCons (tOp rAdd (tVar 1) (tC (.int 2))) (tNil)))) (tCons (tVar 2) (tNil)))) (gName 3))
    (tSeq (tAsg (tOp rAdd (tC (.int 1)) (tOp rMod (tOp rDiv (tCall (sp__law_cell_at K) [] E0 (tCons (tVar 0) (tCons (tOp rAdd (tVar 1) (tC (.int 1))) (tNil)))) (tC (.int 8))) (tC (.int 4)))) (gName 4))
    (tSeq (tAsg (tLc (iList K (tVar 3)) (gName 8) (tYes) (tLst (tNil)) [8]) (gName 5))
    (tSeq (tFor (iRng1 (tCons (tVar 2) (tNil))) (gName 6) (tSeq (tFor (iRng1 (tCons (tVar 6) (tNil))) (gName 7) (tIfS (tTest (tOp rEq (tOp rMod (tCall (sp__law_mixed K) [] E0 (tCons (tCall (sp__law_cell_at K) [] E0 (tCons (tVar 0) (tCons (tOp rAdd (tVar 1) (tC (.int 3))) (tNil)))) (tCons (tOp rAdd (tOp rMul (tC (.int 64)) (tVar 6)) (tVar 7)) (tNil)))) (tVar 4)) (tC (.int 0)))) (tDrop (tBM K "list" rAppend (tOp (rIxL K) (tVar 5) (tOp (rIxL K) (tVar 3) (tVar 6))) (tCons (tOp (rIxL K) (tVar 3) (tVar 7)) (tNil)))) (tNext)))
    (tIfS (tTest (tOp rEq (tOp rMod (tCall (sp__law_mixed K) [] E0 (tCons (tCall (sp__law_cell_at K) [] E0 (tCons (tVar 0) (tCons (tOp rAdd (tVar 1) (tC (.int 3))) (tNil)))) (tCons (tOp rAdd (tOp rMul (tC (.int 7)) (tVar 6)) (tC (.int 5))) (tNil)))) (tC (.int 3))) (tC (.int 0)))) (tDrop (tBM0 K "list" rReverse (tOp (rIxL K) (tVar 5) (tOp (rIxL K) (tVar 3) (tVar 6))))) (tNext))))
    (tRet (tVar 5)))))))
theorem r__law_web_by {K : PySem.W.Frag} (vs : List V) (H : Hp) (Q : VK) (E : XK) (h : sp__law_web_by K vs H Q E) : t__law_web_by K { nx := fun _ H' => Q .non H', rt := Q } (start N__law_web_by vs) H := by
  obtain ⟨a, ns, k, rfl, hs, hk, q⟩ := h
  -- many
  refine ⟨.ref a, rfl, .int k, rfl, a, ns, k, rfl, hs, hk, fun c1 => ⟨c1, 9, rfl, rfl, (show (0 : Int) < 9 by decide), 1, _, rfl, rfl, ?_⟩⟩
  refine ⟨fun σ' H' => ∃ n : Nat, σ' = [some (.ref a), some (.int k), some (nv n), none, none, none, none, none, none] ∧ H' = H ∧ 1 ≤ n ∧ n ≤ 40, ?_, ?_⟩
  · refine ⟨.ref a, rfl, .int k, rfl, k, 1, rfl, rfl, a, ns, k + 1, rfl, hs, by omega, fun c2 => ⟨c2, 8, rfl, rfl, (show (0 : Int) < 8 by decide), rfl, _, rfl, ite2 (fun _ => ?_) (fun _ => ?_)⟩⟩
    · refine ⟨.ref a, rfl, .int k, rfl, a, ns, k, rfl, hs, hk, fun c3 => ⟨c3, 31, rfl, rfl, (show (0 : Int) < 31 by decide), 10, _, rfl, rfl, (10 + c3 % 31).toNat, ?_, rfl, by omega, by omega⟩⟩
      have e : (10 + c3 % 31) = (((10 + c3 % 31).toNat : Nat) : Int) := by omega
      try dsimp only
      rw [e]
      rfl
    · refine ⟨(1 + c1 % 9).toNat, ?_, rfl, by omega, by omega⟩
      have e : (1 + c1 % 9) = (((1 + c1 % 9).toNat : Nat) : Int) := by omega
      try dsimp only
      rw [e]
      rfl
  · rintro σ' H' ⟨n, rfl, rfl, hn1, hn2⟩
    -- order
    refine ⟨.ref a, rfl, .int k, rfl, k, 2, rfl, rfl, a, ns, k + 2, rfl, hs, by omega, fun c4 => ⟨nv n, rfl, c4, n, rfl, by omega, fun o oA H1 hp no s1 ho => ?_⟩⟩
    have nd : o.Nodup := hp.nodup_iff.mpr List.nodup_range
    have hol : o.length = n := by rw [hp.length_eq, List.length_range]
    have below : ∀ {i s : Nat}, o[i]? = some s → s < n := fun h => List.mem_range.mp (hp.mem_iff.mp (List.mem_of_getElem? h))
    -- thin
    refine ⟨.ref a, rfl, .int k, rfl, k, 1, rfl, rfl, a, ns, k + 1, rfl, s1.seq hs, by omega, fun c5 => ⟨c5, 8, rfl, rfl, ⟨by decide, by decide⟩, _, 4, rfl, rfl, (show (0 : Int) < 4 by decide), 1, _, rfl, rfl, ?_⟩⟩
    have hth : 0 < 1 + c5 / 8 % 4 := by omega
    try dsimp only
    generalize 1 + c5 / 8 % 4 = th at hth
    -- web = [[] for spot in order]
    refine ⟨.ref oA, rfl, oA, rfl, ⟨_, .of ho⟩, lcLN o nv (fun _ => []) (.of ho) (by omega) (fun i hi H2 Qy s2 hy => ⟨Nat.zero_le _, fun p np => hy p _ np (same_new np) upd_same⟩) (fun wA H2 s2 hc => ?_)⟩
    have hc2 : LolN H1 H2 wA ((List.range n).map fun _ => ([] : List V)) := by
      have e : (o.map fun _ => ([] : List V)) = (List.range n).map fun _ => [] := by
        rw [List.map_const', List.map_const', hol, List.length_range]
      rw [← e]
      exact hc
    obtain ⟨wq, C⟩ := hc2.own
    have C0 : Own H' H2 wA n wq (fun i => nvs []) := C.back s1
    have ow : oA ≠ wA := ne_of_none ho C.na
    have owq : ∀ i < n, oA ≠ wq i := fun i hi => ne_of_none ho (C.nq i hi)
    have ho2 := s2 _ _ ho
    have s02 := s1.trans s2
    -- for k in range(many)
    refine ⟨nv n, rfl, (n : Int), rfl, by omega, by omega, ?_⟩
    rw [Int.toNat_natCast]
    refine for_range (fun i σ H3 => ∃ (f : Nat → List Nat) (y6 y7 : Option V), σ = [some (.ref a), some (.int k), some (nv n), some (.ref oA), some (.int th), some (.ref wA), y6, y7, none] ∧ Same H' H3 ∧ H3 oA = some (.lst (nvs o)) ∧ Own H' H3 wA n wq (fun i => nvs (f i)) ∧ DInv n o f i 0)
      ⟨fun _ => [], none, none, rfl, s02, ho2, C0, DInv.start n o⟩ (fun i σ H3 hi hP => ?_) (fun σ H3 hP => ?_)
    · obtain ⟨f, y6, y7, rfl, s3, ho3, C3, D3⟩ := hP
      obtain ⟨x, hx⟩ : ∃ x, o[i]? = some x := ⟨_, List.getElem?_eq_getElem (by omega)⟩
      have hxn := below hx
      -- for j in range(k)
      refine ⟨_, rfl, (0 + (i : Int)), rfl, by omega, by omega, ?_⟩
      rw [show (0 + (i : Int)).toNat = i by omega]
      refine for_range (fun j σ H4 => ∃ (f : Nat → List Nat) (y7 : Option V), σ = [some (.ref a), some (.int k), some (nv n), some (.ref oA), some (.int th), some (.ref wA), some (nv i), y7, none] ∧ Same H' H4 ∧ H4 oA = some (.lst (nvs o)) ∧ Own H' H4 wA n wq (fun i => nvs (f i)) ∧ DInv n o f i j)
        ⟨f, y7, by rw [Int.zero_add]; rfl, s3, ho3, C3, D3⟩ (fun j σ H4 hj hP => ?_) (fun σ H4 hP => ?_)
      · obtain ⟨f, y7, rfl, s4, ho4, C4, D4⟩ := hP
        obtain ⟨y, hy⟩ : ∃ y, o[j]? = some y := ⟨_, List.getElem?_eq_getElem (by omega)⟩
        refine ⟨.ref a, rfl, .int k, rfl, k, 3, rfl, rfl, a, ns, k + 3, rfl, s4.seq hs, by omega, fun c6 => ⟨nv i, rfl, 64, (i : Int), rfl, rfl, .inl ⟨by decide, by decide⟩, _, rfl, _, (0 + (j : Int)), rfl, rfl, c6, _, rfl, by omega, by omega, fun m => ⟨.int th, rfl, (m : Int), th, rfl, rfl, hth, rfl, _, rfl, ite2 (fun _ => ?_) (fun _ => ?_)⟩⟩⟩
        · refine ⟨.ref wA, rfl, .ref oA, rfl, nv i, rfl, oA, _, (i : Int), nv x, rfl, rfl, .of ho4, nvs_at hx, wA, _, (x : Int), _, rfl, rfl, .of C4.ll.top, refs_at hxn, .inl ⟨rfl, _, .of (C4.ll.at_ x hxn)⟩, .ref oA, rfl, _, rfl, oA, _, (0 + (j : Int)), nv y, rfl, rfl, .of ho4, by rw [Int.zero_add]; exact nvs_at hy, wq x, _, nv y, rfl, rfl, C4.ll.at_ x hxn, ?_, _, _, by rw [Int.zero_add]; rfl, s4.mut (C4.nq x hxn), ?_, (C4.set hxn _).congr ?_, D4.add nd hx hy hj⟩
          · rw [nvs_length]
            have h1 : (f x).length ≤ 200 := by
              have := nodup_len n (f x) (D4.nd x hxn) fun z hz => by
                obtain ⟨i', _, e⟩ := D4.mid x hx z hz
                exact below e
              omega
            exact line_lt (by omega)
          · rw [upd_ne (owq x hxn)]
            exact ho4
          · intro i' _
            by_cases e : i' = x
            · rw [if_pos e, if_pos e, nvs_append]
              rfl
            · rw [if_neg e, if_neg e]
        · exact ⟨f, _, by rw [Int.zero_add]; rfl, s4, ho4, C4, D4.weak⟩
      · obtain ⟨f, y7, rfl, s4, ho4, C4, D4⟩ := hP
        refine ⟨.ref a, rfl, .int k, rfl, k, 3, rfl, rfl, a, ns, k + 3, rfl, s4.seq hs, by omega, fun c6 => ⟨nv i, rfl, 7, (i : Int), rfl, rfl, .inl ⟨by decide, by decide⟩, _, 5, rfl, rfl, c6, _, rfl, by omega, by omega, fun m => ⟨(m : Int), 3, rfl, rfl, (show (0 : Int) < 3 by decide), rfl, _, rfl, ite2 (fun _ => ?_) (fun _ => ?_)⟩⟩⟩
        · refine ⟨.ref wA, rfl, .ref oA, rfl, nv i, rfl, oA, _, (i : Int), nv x, rfl, rfl, .of ho4, nvs_at hx, wA, _, (x : Int), _, rfl, rfl, .of C4.ll.top, refs_at hxn, .inl ⟨rfl, _, .of (C4.ll.at_ x hxn)⟩, wq x, _, rfl, rfl, C4.ll.at_ x hxn, _, some (nv i), y7, rfl, s4.mut (C4.nq x hxn), ?_, (C4.set hxn _).congr ?_, (D4.rev (x := x)).next⟩
          · rw [upd_ne (owq x hxn)]
            exact ho4
          · intro i' _
            by_cases e : i' = x
            · rw [if_pos e, if_pos e]
              unfold nvs
              rw [List.map_reverse]
            · rw [if_neg e, if_neg e]
        · exact ⟨f, some (nv i), y7, rfl, s4, ho4, C4, D4.next⟩
    · obtain ⟨f, y6, y7, rfl, s3, ho3, C3, D3⟩ := hP
      refine ⟨.ref wA, rfl, q ((List.range n).map f) wA H3 (D3.good hp hn1 (by omega)) (by rw [List.length_map, List.length_range]; exact hn2) s3 ⟨wq, ?_⟩⟩
      rw [List.length_map, List.length_range]
      exact C3.congr fun i hi => by rw [wrow, row_map hi]
def sp__law_copied (K : PySem.W.Frag) : Sp := fun vs H Q _ => ∃ (a : Addr) (W : List (List Nat)), vs = [.ref a] ∧ Web H a W ∧ W.length ≤ 1000 ∧ ∀ (p : Addr) (H' : Hp), Same H H' → WebN H H' p W → Q (.ref p) H'
/-- slots: 0 _law_web, 1 _law_spot -/
def N__law_copied : List Str := ["_law_web", "_law_spot"]
def t__law_copied (K : PySem.W.Frag) : TS :=
    tRet (tLc (iList K (tVar 0)) (gName 1) (tYes) (tCB (rList K) (tCons (tVar 1) (tNil))) [1])
theorem r__law_copied {K : PySem.W.Frag} (vs : List V) (H : Hp) (Q : VK) (E : XK) (h : sp__law_copied K vs H Q E) : t__law_copied K { nx := fun _ H' => Q .non H', rt := Q } (start N__law_copied vs) H := by
  obtain ⟨a, W, rfl, ⟨q, l⟩, hz, k⟩ := h
  refine ⟨.ref a, rfl, a, rfl, ⟨_, .of l.top⟩, lcLN (List.range W.length) (fun i => V.ref (q i)) (wrow W) (.of l.top) (by rw [List.length_range]; omega) (fun i hi H1 Qy s1 hy => ?_) (fun wA H1 s1 hc => ?_)⟩
  · exact ⟨.ref (q i), rfl, q i, _, rfl, .inl (.of (s1 _ _ (l.at_ i (List.mem_range.mp hi)))), fun p np => hy p _ np (same_new np) upd_same⟩
  · exact k wA H1 s1 hc.own
end Sp

namespace Sp
open PySem PySem.Spec PyProof.Rows L2
/-! ### is_number, is_spot, is_web, need_form: of webs in form -/
def sp_is_number (K : PySem.W.Frag) : Sp := fun vs H Q _ => ∃ (x m : Int), vs = [.int x, .int m] ∧ Q (.bl (decide (0 ≤ x) && decide (x ≤ m))) H
/-- slots: 0 thing, 1 most -/
def N_is_number : List Str := ["thing", "most"]
def t_is_number (K : PySem.W.Frag) : TS :=
    tRet (tAndV (tCB (rIsi K) (tCons (tVar 0) (tCons (tC (.ty "int")) (tNil)))) (tAndV (tNotV (tCB (rIsi K) (tCons (tVar 0) (tCons (tC (.ty "bool")) (tNil))))) (tChain rLe rLe (tC (.int 0)) (tVar 0) (tVar 1))))
theorem r_is_number {K : PySem.W.Frag} (vs : List V) (H : Hp) (Q : VK) (E : XK) (h : sp_is_number K vs H Q E) : t_is_number K { nx := fun _ H' => Q .non H', rt := Q } (start N_is_number vs) H := by
  obtain ⟨x, m, rfl, q⟩ := h
  refine ⟨.int x, rfl, _, _, _, _, _, rfl, .ty _, .base (.int _), kit_ty kII, true, rfl, iteT ⟨.int x, rfl, _, _, _, _, _, rfl, .ty _, .base (.int _), kit_ty kIB, false, rfl, true, rfl, iteT ?_⟩⟩
  refine ⟨.int x, rfl, 0, x, rfl, rfl, _, rfl, ite2 (fun c => ?_) (fun c => ?_)⟩
  · refine ⟨.int m, rfl, x, m, rfl, rfl, ?_⟩
    rw [c, Bool.true_and] at q
    exact q
  · have e : decide ((0 : Int) ≤ x) = false := by simpa using c
    rw [e, Bool.false_and] at q
    exact q
def sp_is_spot (K : PySem.W.Frag) : Sp := fun vs H Q _ => ∃ (p : Addr) (r : List Nat) (n : Nat), vs = [.ref p, nv n] ∧ H p = some (.lst (nvs r)) ∧ r.Nodup ∧ (∀ x ∈ r, x < n) ∧ r.length ≤ 200 ∧ ∀ H', Same H H' → Q (.bl true) H'
/-- slots: 0 thing, 1 many, 2 one -/
def N_is_spot : List Str := ["thing", "many", "one"]
def t_is_spot (K : PySem.W.Frag) : TS :=
    tSeq (tIfS (tOr (tNot (tB (tCB (rIsi K) (tCons (tVar 0) (tCons (tC (.ty "list")) (tNil)))))) (tNot (tB (tCB (rAll K) (tCons (tLc (iList K (tVar 0)) (gName 2) (tYes) (tCall (sp_is_number K) [] E0 (tCons (tVar 2) (tCons (tOp rSub (tVar 1) (tC (.int 1))) (tNil)))) [2]) (tNil)))))) (tRet (tC (.bl false))) (tNext))
    (tRet (tOp rEq (tLenSetN K (tVar 0)) (tCB (rLen K) (tCons (tVar 0) (tNil)))))
theorem all_id {α : Type} (l : List α) : (l.map fun _ => true).all id = true := by
  rw [List.all_map, List.all_eq_true]
  exact fun _ _ => rfl
theorem r_is_spot {K : PySem.W.Frag} (vs : List V) (H : Hp) (Q : VK) (E : XK) (h : sp_is_spot K vs H Q E) : t_is_spot K { nx := fun _ H' => Q .non H', rt := Q } (start N_is_spot vs) H := by
  obtain ⟨p, r, n, rfl, hp, nd, lt, hl, q⟩ := h
  refine ⟨.ref p, rfl, _, _, _, _, _, rfl, .ty _, .base (.lst hp), kit_ty kLL, true, rfl, iteF ?_⟩
  refine ⟨.ref p, rfl, p, rfl, ⟨_, .of hp⟩, lcL r nv (fun _ => true) (fun _ => .bl true) (.of hp) (by omega) (fun d hd H1 Qy Qf s1 hy _ => ?_) (fun D H1 _ s1 hD => ?_)⟩
  · have h1 := lt d hd
    refine ⟨nv d, rfl, nv n, rfl, (n : Int), 1, rfl, rfl, (d : Int), (n : Int) - 1, rfl, ?_⟩
    have e : (decide ((0 : Int) ≤ (d : Int)) && decide ((d : Int) ≤ (n : Int) - 1)) = true := by
      rw [Bool.and_eq_true, decide_eq_true_iff, decide_eq_true_iff]
      omega
    rw [e]
    exact hy rfl H1 (Same.refl _)
  · rw [List.filter_eq_self.mpr (fun _ _ => rfl)] at hD
    have hD2 : H1 D = some (.lst ((r.map fun _ => true).map V.bl)) := by rw [hD, List.map_map]; rfl
    refine ⟨D, _, rfl, .of hD2, true, blT (all_id r), iteF ?_⟩
    have hp1 : SqL K H1 p (nvs r) := .of (s1 _ _ hp)
    refine ⟨.ref p, rfl, p, r.map fun n : Nat => (n : Int), rfl, by rw [← nvs_int]; exact hp1, by rw [List.length_map]; omega, .ref p, rfl, p, _, rfl, .inl hp1, rfl, ?_⟩
    have nd2 : (r.map fun n : Nat => (n : Int)).Nodup := List.pairwise_map.mpr (nd.imp fun hne e => hne (Int.ofNat_inj.mp e))
    rw [ddN_nodup nd2, List.length_map, nvs_length, decide_eq_true rfl]
    exact q H1 s1
def sp_is_web (K : PySem.W.Frag) : Sp := fun vs H Q _ => ∃ (a : Addr) (W : List (List Nat)), vs = [.ref a] ∧ Web H a W ∧ Form W ∧ ∀ H', Same H H' → Q (.bl true) H'
/-- slots: 0 thing, 1 spot -/
def N_is_web : List Str := ["thing", "spot"]
def t_is_web (K : PySem.W.Frag) : TS :=
    tSeq (tIfS (tOr (tNot (tB (tCB (rIsi K) (tCons (tVar 0) (tCons (tC (.ty "list")) (tNil)))))) (tNot (tTest (tChain rLe rLe (tC (.int 1)) (tCB (rLen K) (tCons (tVar 0) (tNil))) (tC (.int 200)))))) (tRet (tC (.bl false))) (tNext))
    (tRet (tCB (rAll K) (tCons (tLc (iList K (tVar 0)) (gName 1) (tYes) (tCall (sp_is_spot K) [] E0 (tCons (tVar 1) (tCons (tCB (rLen K) (tCons (tVar 0) (tNil))) (tNil)))) [1]) (tNil))))
theorem r_is_web {K : PySem.W.Frag} (vs : List V) (H : Hp) (Q : VK) (E : XK) (h : sp_is_web K vs H Q E) : t_is_web K { nx := fun _ H' => Q .non H', rt := Q } (start N_is_web vs) H := by
  obtain ⟨a, W, rfl, ⟨q, l⟩, F, k⟩ := h
  have hpos := F.pos
  have hle := F.le
  refine ⟨.ref a, rfl, _, _, _, _, _, rfl, .ty _, .base (.lst l.top), kit_ty kLL, true, rfl, iteF ?_⟩
  refine ⟨.ref a, rfl, a, _, rfl, .inl (.of l.top), 1, _, rfl, rfl, true, blT (by rw [refs_len, decide_eq_true_iff]; omega), iteT ⟨_, 200, rfl, rfl, true, blT (by rw [refs_len, decide_eq_true_iff]; omega), iteF ?_⟩⟩
  refine ⟨.ref a, rfl, a, rfl, ⟨_, .of l.top⟩, lcL (List.range W.length) (fun i => V.ref (q i)) (fun _ => true) (fun _ => .bl true) (.of l.top) (by rw [List.length_range]; omega) (fun i hi H1 Qy Qf s1 hy _ => ?_) (fun D H1 _ s1 hD => ?_)⟩
  · have hi2 := List.mem_range.mp hi
    refine ⟨.ref (q i), rfl, .ref a, rfl, a, _, rfl, .inl (.of (s1 _ _ l.top)), q i, row W i, W.length, ?_, s1 _ _ (l.at_ i hi2), F.nd i, F.lt i, F.row_len i, fun H2 s2 => hy rfl H2 s2⟩
    rw [refs_len] <;> rfl
  · rw [List.filter_eq_self.mpr (fun _ _ => rfl)] at hD
    have hD2 : H1 D = some (.lst (((List.range W.length).map fun _ => true).map V.bl)) := by rw [hD, List.map_map]; rfl
    refine ⟨D, _, rfl, .of hD2, ?_⟩
    rw [all_id]
    exact k H1 s1
def sp_need_form (K : PySem.W.Frag) : Sp := fun vs H Q _ => ∃ (a : Addr) (W : List (List Nat)), vs = [.ref a] ∧ Web H a W ∧ Form W ∧ ∀ H', Same H H' → Q .non H'
/-- slots: 0 web -/
def N_need_form : List Str := ["web"]
def t_need_form (K : PySem.W.Frag) : TS :=
    tIfS (tNot (tB (tCall (sp_is_web K) [] E0 (tCons (tVar 0) (tNil))))) (tNever) (tNext)
theorem r_need_form {K : PySem.W.Frag} (vs : List V) (H : Hp) (Q : VK) (E : XK) (h : sp_need_form K vs H Q E) : t_need_form K { nx := fun _ H' => Q .non H', rt := Q } (start N_need_form vs) H := by
  obtain ⟨a, W, rfl, w, F, k⟩ := h
  exact ⟨.ref a, rfl, a, W, rfl, w, F, fun H1 s1 => ⟨true, rfl, iteF (k H1 s1)⟩⟩
end Sp

namespace Sp
open PySem PySem.Spec PyProof.Rows L2
/-! ### play_order -/
/-- what stands in coming at o, behind i rows and j moves of the next one -/
def cm (W : List (List Nat)) (i j o : Nat) : List Nat := ((List.range i).filter fun t => decide (o ∈ row W t)) ++ if o ∈ (row W i).take j then [i] else []
theorem cm_zero (W : List (List Nat)) (i o : Nat) : cm W i 0 o = (List.range i).filter fun t => decide (o ∈ row W t) := by
  unfold cm
  rw [List.take_zero, if_neg List.not_mem_nil, List.append_nil]
theorem cm_next (W : List (List Nat)) (i o : Nat) : cm W (i + 1) 0 o = cm W i (row W i).length o := by
  rw [cm_zero]
  unfold cm
  rw [List.take_length, List.range_succ, List.filter_append]
  congr 1
  rw [List.filter_cons]
  by_cases h : o ∈ row W i
  · rw [if_pos (decide_eq_true h), if_pos h]
    rfl
  · rw [if_neg (by simpa using h), if_neg h]
    rfl
theorem cm_turn {W : List (List Nat)} {i j x : Nat} (nd : (row W i).Nodup) (h : (row W i)[j]? = some x) (o : Nat) : cm W i (j + 1) o = if o = x then cm W i j x ++ [i] else cm W i j o := by
  have hno : x ∉ (row W i).take j := not_take nd h
  by_cases e : o = x
  · subst e
    rw [if_pos rfl]
    unfold cm
    rw [if_pos ((take_succ_mem h).mpr (.inr rfl)), if_neg hno, List.append_nil]
  · rw [if_neg e]
    unfold cm
    congr 1
    by_cases hm : o ∈ (row W i).take j
    · rw [if_pos hm, if_pos ((take_succ_mem h).mpr (.inl hm))]
    · rw [if_neg hm, if_neg fun z => ((take_succ_mem h).mp z).elim hm e]
theorem cm_len {W : List (List Nat)} {i j o : Nat} : (cm W i j o).length ≤ i + 1 := by
  unfold cm
  rw [List.length_append]
  have h1 := List.length_filter_le (fun t => decide (o ∈ row W t)) (List.range i)
  rw [List.length_range] at h1
  split
  · show _ + 1 ≤ _
    omega
  · show _ + 0 ≤ _
    omega
/-- the counts behind j spots that lead to s -/
def lf (W : List (List Nat)) (o : List Nat) (s j t : Nat) : Nat := if t ∈ (comeL W s).take j then cnt W (o ++ [s]) t else cnt W o t
theorem lf_zero (W : List (List Nat)) (o : List Nat) (s t : Nat) : lf W o s 0 t = cnt W o t := by
  unfold lf
  rw [List.take_zero, if_neg List.not_mem_nil]
theorem lf_turn {W : List (List Nat)} {o : List Nat} {s j x : Nat} (h : (comeL W s)[j]? = some x) (t : Nat) : lf W o s (j + 1) t = if t = x then cnt W (o ++ [s]) x else lf W o s j t := by
  by_cases e : t = x
  · subst e
    rw [if_pos rfl]
    unfold lf
    rw [if_pos ((take_succ_mem h).mpr (.inr rfl))]
  · rw [if_neg e]
    unfold lf
    by_cases hm : t ∈ (comeL W s).take j
    · rw [if_pos hm, if_pos ((take_succ_mem h).mpr (.inl hm))]
    · rw [if_neg hm, if_neg fun z => ((take_succ_mem h).mp z).elim hm e]
theorem lf_at {W : List (List Nat)} {o : List Nat} {s j x : Nat} (h : (comeL W s)[j]? = some x) : lf W o s j x = cnt W o x := by
  unfold lf
  rw [if_neg (not_take (nodup_comeL W s) h)]
theorem lf_all {W : List (List Nat)} (F : Form W) {o : List Nat} {s : Nat} (hs : s ∉ o) (t : Nat) (ht : t < W.length) : lf W o s (comeL W s).length t = cnt W (o ++ [s]) t := by
  unfold lf
  rw [List.take_length]
  split
  · rfl
  · rename_i hm
    have := cnt_snoc F hs t
    rw [if_neg (fun z => hm (mem_comeL.mpr ⟨ht, z⟩))] at this
    omega
theorem take_filter {l : List Nat} {j x : Nat} (h : l[j]? = some x) (f : Nat → Bool) : (l.take (j + 1)).filter f = (l.take j).filter f ++ if f x = true then [x] else [] := by
  rw [List.take_add_one, h, List.filter_append]
  show _ ++ [x].filter f = _
  rw [List.filter_cons]
  split <;> rfl
def sp_play_order (K : PySem.W.Frag) : Sp := fun vs H Q _ => ∃ (a : Addr) (W : List (List Nat)), vs = [.ref a] ∧ Web H a W ∧ Form W ∧ ∀ (o : List Nat) (p : Addr) (H' : Hp), PO W o → H p = none → Same H H' → H' p = some (.lst (nvs o)) → Q (.ref p) H'
/-- slots: 0 web, 1 left, 2 coming, 3 at, 4 spot, 5 other, 6 order, 7 waiting -/
def N_play_order : List Str := ["web", "left", "coming", "at", "spot", "other", "order", "waiting"]
def t_play_order (K : PySem.W.Frag) : TS :=
    tSeq (tAsg (tLc (iList K (tVar 0)) (gName 4) (tYes) (tCB (rLen K) (tCons (tVar 4) (tNil))) [4]) (gName 1))
    (tSeq (tAsg (tLc (iList K (tVar 0)) (gName 4) (tYes) (tLst (tNil)) [4]) (gName 2))
    (tSeq (tFor (iEnum K (tCons (tVar 0) (tNil))) (gTup K 2 (gCons (gName 3) (gCons (gName 4) (gNil)))) (tFor (iList K (tVar 4)) (gName 5) (tDrop (tBM K "list" rAppend (tOp (rIxL K) (tVar 2) (tVar 5)) (tCons (tVar 3) (tNil))))))
    (tSeq (tAsg (tLst (tNil)) (gName 6))
    (tSeq (tAsg (tLc (iRng1 (tCons (tCB (rLen K) (tCons (tVar 0) (tNil))) (tNil))) (gName 3) (tTest (tOp rEq (tOp (rIxL K) (tVar 1) (tVar 3)) (tC (.int 0)))) (tVar 3) [3]) (gName 7))
    (tSeq (tWhile (tTest (tOp rGt (tCB (rLen K) (tCons (tVar 7) (tNil))) (tC (.int 0)))) (tSeq (tAsg (tBM0 K "list" rPop (tVar 7)) (gName 4))
    (tSeq (tDrop (tBM K "list" rAppend (tVar 6) (tCons (tVar 4) (tNil))))
    (tFor (iList K (tOp (rIxL K) (tVar 2) (tVar 4))) (gName 3) (tSeq (tAsg (tOp rSub (tOp (rIxL K) (tVar 1) (tVar 3)) (tC (.int 1))) (gSub (tVar 1) (tVar 3) rSetL))
    (tIfS (tTest (tOp rEq (tOp (rIxL K) (tVar 1) (tVar 3)) (tC (.int 0)))) (tDrop (tBM K "list" rAppend (tVar 7) (tCons (tVar 3) (tNil)))) (tNext)))))))
    (tRet (tVar 6)))))))
theorem r_play_order {K : PySem.W.Frag} (vs : List V) (H : Hp) (Q : VK) (E : XK) (h : sp_play_order K vs H Q E) : t_play_order K { nx := fun _ H' => Q .non H', rt := Q } (start N_play_order vs) H := by
  obtain ⟨a, W, rfl, ⟨q, l⟩, F, k⟩ := h
  have hpos := F.pos
  have hle := F.le
  have hrl : (List.range W.length).length ≤ 40000 := by rw [List.length_range]; omega
  -- left
  refine ⟨.ref a, rfl, a, rfl, ⟨_, .of l.top⟩, lcL (List.range W.length) (fun i => V.ref (q i)) (fun _ => true) (fun i => nv (cnt W [] i)) (.of l.top) hrl (fun i hi H1 Qy Qf s1 hy _ => ?_) (fun lA H1 nl s1 hl => ?_)⟩
  · have hi2 := List.mem_range.mp hi
    refine ⟨.ref (q i), rfl, q i, _, rfl, .inl (.of (s1 _ _ (l.at_ i hi2))), ?_⟩
    rw [nvs_length, ← cnt_nil]
    exact hy rfl H1 (Same.refl _)
  rw [List.filter_eq_self.mpr (fun _ _ => rfl)] at hl
  -- coming
  refine ⟨.ref a, rfl, a, rfl, ⟨_, .of (s1 _ _ l.top)⟩, lcLN (List.range W.length) (fun i => V.ref (q i)) (fun _ => []) (.of (s1 _ _ l.top)) hrl (fun i hi H2 Qy s2 hy => ⟨Nat.zero_le _, fun p np => hy p _ np (same_new np) upd_same⟩) (fun cA H2 s2 hc => ?_)⟩
  obtain ⟨cq, C⟩ := hc.own
  have s02 := s1.trans s2
  have hl2 := s2 _ _ hl
  have lc : lA ≠ cA := ne_of_none hl C.na
  have lcq : ∀ i < W.length, lA ≠ cq i := fun i hi => ne_of_none hl (C.nq i hi)
  -- for at, spot in enumerate(web): for other in spot
  refine ⟨.ref a, rfl, a, _, rfl, .of (s02 _ _ l.top), for_it (walk_enum (xs := refs W.length q)) (fun i σ H3 => ∃ (y3 y4 y5 : Option V), σ = [some (.ref a), some (.ref lA), some (.ref cA), y3, y4, y5, none, none] ∧ Same H H3 ∧ H3 lA = some (.lst ((List.range W.length).map fun i => nv (cnt W [] i))) ∧ Own H1 H3 cA W.length cq (fun o => nvs (cm W i 0 o)))
    ⟨none, none, none, rfl, s02, hl2, C.congr fun i _ => by rw [cm_zero]; rfl⟩ (fun i σ H3 hi hP => ?_) (fun i x σ H3 H3' hi hP hY => ?_) (fun σ H3 hP => ?_)⟩
  · obtain ⟨_, _, _, _, s3, _⟩ := hP
    exact .of (s3 _ _ l.top)
  · obtain ⟨y3, y4, y5, rfl, s3, hl3, C3⟩ := hP
    obtain ⟨T, x1, x2, rfl, nT, rfl, e1, e2⟩ := hY
    rw [refs_len] at hi
    have e1' : V.int (i : Nat) = x1 := Option.some.inj e1
    have e2' : V.ref (q i) = x2 := Option.some.inj ((refs_get hi).symm.trans e2)
    subst e1' e2'
    refine ⟨T, _, rfl, .of upd_same, rfl, _, _, rfl, _, _, rfl, rfl, ?_⟩
    have sT : Same H (upd H3 T (.tup [V.int (i : Nat), V.ref (q i)])) := s3.new nT
    have hlT := (same_new (o := .tup [V.int (i : Nat), V.ref (q i)]) nT) _ _ hl3
    have CT := C3.same (same_new (o := .tup [V.int (i : Nat), V.ref (q i)]) nT)
    generalize upd H3 T (.tup [V.int (i : Nat), V.ref (q i)]) = H4 at sT hlT CT
    have hq4 : H4 (q i) = some (.lst (wrow W i)) := sT _ _ (l.at_ i hi)
    refine ⟨.ref (q i), rfl, q i, rfl, ⟨_, .of hq4⟩, for_list (xs := wrow W i) (fun j σ H5 => ∃ y5 : Option V, σ = [some (.ref a), some (.ref lA), some (.ref cA), some (nv i), some (.ref (q i)), y5, none, none] ∧ Same H H5 ∧ H5 lA = some (.lst ((List.range W.length).map fun i => nv (cnt W [] i))) ∧ Own H1 H5 cA W.length cq (fun o => nvs (cm W i j o)))
      ⟨y5, rfl, sT, hlT, CT⟩ (fun j σ H5 _ hP => ?_) (fun j x σ H5 hx hP => ?_) (fun σ H5 hP => ?_)⟩
    · obtain ⟨_, _, s5, _⟩ := hP
      exact .of (s5 _ _ (l.at_ i hi))
    · obtain ⟨y5, rfl, s5, hl5, C5⟩ := hP
      obtain ⟨x0, hx0, rfl⟩ : ∃ x0, (row W i)[j]? = some x0 ∧ nv x0 = x := by
        unfold wrow nvs at hx
        rw [List.getElem?_map] at hx
        cases e : (row W i)[j]? with
        | none => rw [e] at hx; cases hx
        | some x0 => rw [e] at hx; exact ⟨x0, rfl, Option.some.inj hx⟩
      have hlt := F.lt i x0 (List.mem_of_getElem? hx0)
      have hcx := C5.ll.at_ x0 hlt
      refine ⟨.ref cA, rfl, nv x0, rfl, cA, _, (x0 : Int), _, rfl, rfl, .of C5.ll.top, refs_at hlt, .inl ⟨rfl, _, .of hcx⟩, nv i, rfl, cq x0, _, _, rfl, rfl, hcx, ?_, ?_⟩
      · rw [nvs_length]
        have := cm_len (W := W) (i := i) (j := j) (o := x0)
        exact line_lt (by omega)
      · refine ⟨some (nv x0), rfl, fun b o e => ?_, ?_, ?_⟩
        · rw [upd_ne (ne_of_none e (s1.free (C5.nq x0 hlt)))]
          exact s5 b o e
        · rw [upd_ne (lcq x0 hlt)]
          exact hl5
        · refine (C5.set hlt _).congr fun o _ => ?_
          rw [cm_turn (F.nd i) hx0]
          by_cases e : o = x0
          · rw [if_pos e, if_pos e, nvs_append]
            rfl
          · rw [if_neg e, if_neg e]
    · obtain ⟨y5, rfl, s5, hl5, C5⟩ := hP
      rw [nvs_length] at C5
      exact ⟨_, _, y5, rfl, s5, hl5, C5.congr fun o _ => by rw [cm_next]⟩
  · obtain ⟨y3, y4, y5, rfl, s3, hl3, C3⟩ := hP
    rw [refs_len] at C3
    have C3' : Own H1 H3 cA W.length cq (fun o => nvs (comeL W o)) := C3.congr fun o _ => by rw [cm_zero]; rfl
    -- order = []
    refine ⟨Nat.zero_le _, fun oA no => ?_⟩
    have lo : lA ≠ oA := ne_of_none hl3 no
    have co : cA ≠ oA := ne_of_none C3'.ll.top no
    have cqo : ∀ i < W.length, oA ≠ cq i := fun i hi => (ne_of_none (C3'.ll.at_ i hi) no).symm
    have noH := s3.free no
    have s4 : Same H3 (upd H3 oA (.lst [])) := same_new no
    have ho4 : (upd H3 oA (.lst [])) oA = some (.lst []) := upd_same
    generalize upd H3 oA (.lst []) = H4 at s4 ho4
    have hl4 := s4 _ _ hl3
    have C4 := C3'.same s4
    have sH4 := s3.trans s4
    -- waiting
    refine ⟨.ref a, rfl, a, _, rfl, .inl (.of (sH4 _ _ l.top)), _, rfl, by omega, by rw [refs_len]; omega, ?_⟩
    rw [refs_len]
    refine lcR (n := W.length) (fun i => decide ((row W i).length = 0)) nv (by omega) (fun i hi H5 Qy Qf s5 hy hf => ?_) (fun wA H5 nw s5 hw => ?_)
    · have hgl : atI ((List.range W.length).map fun i => nv (cnt W [] i)) (i : Int) = some (nv (cnt W [] i)) := atI_nat (by rw [List.getElem?_map, List.getElem?_range hi]; rfl)
      refine ⟨.ref lA, rfl, nv i, rfl, lA, _, _, _, rfl, rfl, .of (s5 _ _ hl4), hgl, rfl, _, rfl, ?_⟩
      rw [cnt_nil]
      refine ite2 (fun c => ?_) (fun c => ?_)
      · have c2 : (row W i).length = 0 := nv_inj (of_decide_eq_true c)
        exact ⟨nv i, rfl, hy (decide_eq_true c2) H5 (Same.refl _)⟩
      · have c2 : ¬ (row W i).length = 0 := fun z => c (decide_eq_true (by rw [z]; rfl))
        exact hf (decide_eq_false c2) H5 (Same.refl _)
    have wo : wA ≠ oA := (ne_of_none ho4 nw).symm
    have wl : wA ≠ lA := (ne_of_none hl4 nw).symm
    have wc : wA ≠ cA := (ne_of_none C4.ll.top nw).symm
    have wcq : ∀ i < W.length, wA ≠ cq i := fun i hi => (ne_of_none (C4.ll.at_ i hi) nw).symm
    have nwH := sH4.free nw
    have nlH : H lA = none := nl
    -- the loop
    refine ⟨fun m σ H6 => ∃ (o w : List Nat) (y3 y4 : Option V), σ = [some (.ref a), some (.ref lA), some (.ref cA), y3, y4, y5, some (.ref oA), some (.ref wA)] ∧ m = W.length - o.length ∧ Same H H6 ∧ H6 lA = some (.lst ((List.range W.length).map fun i => nv (cnt W o i))) ∧ LL H6 cA W.length cq (fun o => nvs (comeL W o)) ∧ H6 oA = some (.lst (nvs o)) ∧ H6 wA = some (.lst (nvs w)) ∧ PInv W o w,
      ⟨W.length, [], _, y3, y4, rfl, by simp, sH4.trans s5, s5 _ _ hl4, (C4.same s5).ll, s5 _ _ ho4, hw, PInv.start W⟩, fun m σ H6 hW => ?_⟩
    obtain ⟨o, w, z3, z4, rfl, em, s6, hl6, C6, ho6, hw6, I6⟩ := hW
    refine ⟨.ref wA, rfl, wA, _, rfl, .inl (.of hw6), _, 0, rfl, rfl, _, rfl, ite2 (fun c => ?_) (fun c => ?_)⟩
    · have hne : w ≠ [] := fun e => by
        subst e
        exact absurd c (by decide)
      obtain ⟨w', s, rfl⟩ : ∃ w' s, w = w' ++ [s] := ⟨w.dropLast, w.getLast hne, (List.dropLast_concat_getLast hne).symm⟩
      have ndo := (List.nodup_append.mp I6.nd).1
      have hso : s ∉ o := fun hm => (List.nodup_append.mp I6.nd).2.2 s hm s (List.mem_append_right _ (List.mem_cons_self ..)) rfl
      have hs : s < W.length := I6.lt s (List.mem_append_right _ (List.mem_append_right _ (List.mem_cons_self ..)))
      have I7 := I6.turn F
      have holt : (o ++ [s]).length ≤ W.length := nodup_len _ _ (List.nodup_append.mp I7.nd).1 fun x hx => I7.lt x (List.mem_append_left _ hx)
      rw [List.length_append] at holt
      have holt2 : o.length + 1 ≤ W.length := holt
      refine ⟨fun σ' H' => ∃ (w : List Nat) (y3 y4 : Option V), σ' = [some (.ref a), some (.ref lA), some (.ref cA), y3, y4, y5, some (.ref oA), some (.ref wA)] ∧ Same H H' ∧ H' lA = some (.lst ((List.range W.length).map fun i => nv (cnt W (o ++ [s]) i))) ∧ LL H' cA W.length cq (fun o => nvs (comeL W o)) ∧ H' oA = some (.lst (nvs (o ++ [s]))) ∧ H' wA = some (.lst (nvs w)) ∧ PInv W (o ++ [s]) w,
        fun σ' H' hN => ?_, ?_⟩
      · obtain ⟨w2, z3, z4, e1, e2, e3, e4, e5, e6, e7⟩ := hN
        exact ⟨W.length - (o ++ [s]).length, by rw [List.length_append]; show _ - (o.length + 1) < _; omega, o ++ [s], w2, z3, z4, e1, rfl, e2, e3, e4, e5, e6, e7⟩
      -- spot = waiting.pop()
      refine ⟨.ref wA, rfl, .inl ⟨rfl, _, .of hw6⟩, wA, _, nv s, rfl, rfl, hw6, ?_, ?_⟩
      · rw [nvs_append, List.length_append, List.getElem?_append_right (by show _ ≤ (nvs w').length + 1 - 1; omega)]
        show [nv s][(nvs w').length + 1 - 1 - (nvs w').length]? = _
        rw [show (nvs w').length + 1 - 1 - (nvs w').length = 0 by omega]
        rfl
      have edl : (nvs (w' ++ [s])).dropLast = nvs w' := by rw [nvs_append]; exact List.dropLast_concat
      rw [edl]
      -- order.append(spot)
      have ho7 : (upd H6 wA (.lst (nvs w'))) oA = some (.lst (nvs o)) := by rw [upd_ne wo.symm]; exact ho6
      refine ⟨.ref oA, rfl, .inl ⟨rfl, _, .of ho7⟩, nv s, rfl, oA, _, _, rfl, rfl, ho7, by rw [nvs_length]; exact line_lt (by omega), ?_⟩
      have s8 : Same H (upd (upd H6 wA (.lst (nvs w'))) oA (.lst (nvs o ++ [nv s]))) := (s6.mut nwH).mut noH
      have hl8 : (upd (upd H6 wA (.lst (nvs w'))) oA (.lst (nvs o ++ [nv s]))) lA = some (.lst ((List.range W.length).map fun i => nv (lf W o s 0 i))) := by
        rw [upd_ne lo, upd_ne wl.symm, hl6]
        simp only [lf_zero]
      have C8 : LL (upd (upd H6 wA (.lst (nvs w'))) oA (.lst (nvs o ++ [nv s]))) cA W.length cq (fun o => nvs (comeL W o)) := (C6.other wc wcq).other co.symm cqo
      have ho8 : (upd (upd H6 wA (.lst (nvs w'))) oA (.lst (nvs o ++ [nv s]))) oA = some (.lst (nvs (o ++ [s]))) := by rw [upd_same, nvs_append]; rfl
      have hw8 : (upd (upd H6 wA (.lst (nvs w'))) oA (.lst (nvs o ++ [nv s]))) wA = some (.lst (nvs (w' ++ ((comeL W s).take 0).filter fun t => decide (cnt W (o ++ [s]) t = 0)))) := by
        rw [upd_ne wo, upd_same]
        show _ = some (HO.lst (nvs (w' ++ [])))
        rw [List.append_nil]
      generalize upd (upd H6 wA (.lst (nvs w'))) oA (.lst (nvs o ++ [nv s])) = H8 at s8 hl8 C8 ho8 hw8
      -- for at in coming[spot]
      have hcs := C8.at_ s hs
      refine ⟨.ref cA, rfl, nv s, rfl, cA, _, (s : Int), _, rfl, rfl, .of C8.top, refs_at hs, cq s, rfl, ⟨_, .of hcs⟩, for_list (xs := nvs (comeL W s)) (fun j σ H9 => ∃ (y3 : Option V), σ = [some (.ref a), some (.ref lA), some (.ref cA), y3, some (nv s), y5, some (.ref oA), some (.ref wA)] ∧ Same H H9 ∧ H9 lA = some (.lst ((List.range W.length).map fun i => nv (lf W o s j i))) ∧ LL H9 cA W.length cq (fun o => nvs (comeL W o)) ∧ H9 oA = some (.lst (nvs (o ++ [s]))) ∧ H9 wA = some (.lst (nvs (w' ++ ((comeL W s).take j).filter fun t => decide (cnt W (o ++ [s]) t = 0)))))
        ⟨z3, rfl, s8, hl8, C8, ho8, hw8⟩ (fun j σ H9 _ hP => ?_) (fun j x σ H9 hx hP => ?_) (fun σ H9 hP => ?_)⟩
      · obtain ⟨_, _, _, _, C9, _⟩ := hP
        exact .of (C9.at_ s hs)
      · obtain ⟨y3, rfl, s9, hl9, C9, ho9, hw9⟩ := hP
        obtain ⟨t, ht, rfl⟩ : ∃ t, (comeL W s)[j]? = some t ∧ nv t = x := by
          unfold nvs at hx
          rw [List.getElem?_map] at hx
          cases e : (comeL W s)[j]? with
          | none => rw [e] at hx; cases hx
          | some x0 => rw [e] at hx; exact ⟨x0, rfl, Option.some.inj hx⟩
        have htm := mem_comeL.mp (List.mem_of_getElem? ht)
        have hcn := cnt_snoc F hso t
        rw [if_pos htm.2] at hcn
        have hget : atI ((List.range W.length).map fun i => nv (lf W o s j i)) (t : Int) = some (nv (lf W o s j t)) := atI_nat (by rw [List.getElem?_map, List.getElem?_range htm.1]; rfl)
        -- left[at] = left[at] - 1
        refine ⟨.ref lA, rfl, nv t, rfl, lA, _, (t : Int), _, rfl, rfl, .of hl9, hget, _, 1, rfl, rfl, .ref lA, rfl, nv t, rfl, lA, _, (t : Int), t, rfl, rfl, hl9, ?_, ?_⟩
        · unfold ixN
          rw [if_pos (by omega), if_pos (by rw [List.length_map, List.length_range]; omega), Int.toNat_natCast]
        have e1 : V.int ((lf W o s j t : Int) - 1) = nv (cnt W (o ++ [s]) t) := by
          rw [lf_at ht]
          exact congrArg V.int (by omega)
        dsimp only
        rw [e1, map_range_set]
        have e2 : ((List.range W.length).map fun i => if i = t then nv (cnt W (o ++ [s]) t) else nv (lf W o s j i)) = (List.range W.length).map fun i => nv (lf W o s (j + 1) i) := by
          refine List.map_congr_left fun i _ => ?_
          rw [lf_turn ht]
          split <;> rfl
        rw [e2]
        have hl10 : (upd H9 lA (.lst ((List.range W.length).map fun i => nv (lf W o s (j + 1) i)))) lA = some (.lst ((List.range W.length).map fun i => nv (lf W o s (j + 1) i))) := upd_same
        have s10 := s9.mut (o := .lst ((List.range W.length).map fun i => nv (lf W o s (j + 1) i))) nlH
        have C10 := C9.other (o := .lst ((List.range W.length).map fun i => nv (lf W o s (j + 1) i))) lc lcq
        have ho10 : (upd H9 lA (.lst ((List.range W.length).map fun i => nv (lf W o s (j + 1) i)))) oA = _ := (upd_ne lo.symm).trans ho9
        have hw10 : (upd H9 lA (.lst ((List.range W.length).map fun i => nv (lf W o s (j + 1) i)))) wA = _ := (upd_ne wl).trans hw9
        generalize upd H9 lA (.lst ((List.range W.length).map fun i => nv (lf W o s (j + 1) i))) = H10 at hl10 s10 C10 ho10 hw10
        have hget2 : atI ((List.range W.length).map fun i => nv (lf W o s (j + 1) i)) (t : Int) = some (nv (lf W o s (j + 1) t)) := atI_nat (by rw [List.getElem?_map, List.getElem?_range htm.1]; rfl)
        -- if left[at] == 0
        refine ⟨.ref lA, rfl, nv t, rfl, lA, _, (t : Int), _, rfl, rfl, .of hl10, hget2, rfl, _, rfl, ?_⟩
        have e3 : lf W o s (j + 1) t = cnt W (o ++ [s]) t := by rw [lf_turn ht, if_pos rfl]
        rw [e3]
        have e4 := take_filter ht fun t => decide (cnt W (o ++ [s]) t = 0)
        refine ite2 (fun c => ?_) (fun c => ?_)
        · have c2 : cnt W (o ++ [s]) t = 0 := nv_inj (of_decide_eq_true c)
          rw [if_pos (decide_eq_true c2)] at e4
          refine ⟨.ref wA, rfl, .inl ⟨rfl, _, .of hw10⟩, nv t, rfl, wA, _, _, rfl, rfl, hw10, ?_, some (nv t), rfl, s10.mut nwH, ?_, C10.other wc wcq, ?_, ?_⟩
          · rw [nvs_length, List.length_append]
            have h1 := List.length_filter_le (fun t => decide (cnt W (o ++ [s]) t = 0)) ((comeL W s).take j)
            have h2 : ((comeL W s).take j).length ≤ W.length := by
              rw [List.length_take]
              have := nodup_len _ _ (nodup_comeL W s) fun x hx => (mem_comeL.mp hx).1
              omega
            have h3 : w'.length ≤ W.length := nodup_len _ _ (List.nodup_append.mp (List.nodup_append.mp I6.nd).2.1).1 fun x hx => I6.lt x (List.mem_append_right _ (List.mem_append_left _ hx))
            exact line_lt (by omega)
          · rw [upd_ne wl.symm]
            exact hl10
          · rw [upd_ne wo.symm]
            exact ho10
          · rw [upd_same, e4, ← List.append_assoc, nvs_append (w' ++ _)]
            rfl
        · have c2 : ¬ cnt W (o ++ [s]) t = 0 := fun z => c (decide_eq_true (by rw [z]; rfl))
          rw [if_neg (by simpa using c2), List.append_nil] at e4
          refine ⟨some (nv t), rfl, s10, hl10, C10, ho10, ?_⟩
          rw [e4]
          exact hw10
      · obtain ⟨y3, rfl, s9, hl9, C9, ho9, hw9⟩ := hP
        rw [nvs_length] at hl9 hw9
        rw [List.take_length] at hw9
        refine ⟨_, y3, some (nv s), rfl, s9, ?_, C9, ho9, hw9, I7⟩
        rw [hl9]
        congr 2
        exact List.map_congr_left fun i hi => by rw [lf_all F hso i (List.mem_range.mp hi)]
    · have h0 : w = [] := by
        cases w with
        | nil => rfl
        | cons x t => exact absurd (decide_eq_true (by rw [nvs_length, List.length_cons]; omega)) c
      subst h0
      exact ⟨.ref oA, rfl, k o oA H6 I6.stop noH s6 ho6⟩
/-! ### need_game: of webs without rings -/
def sp_need_game (K : PySem.W.Frag) : Sp := fun vs H Q _ => ∃ (a : Addr) (W : List (List Nat)), vs = [.ref a] ∧ Web H a W ∧ Good W ∧ ∀ H', Same H H' → Q .non H'
/-- slots: 0 web -/
def N_need_game : List Str := ["web"]
def t_need_game (K : PySem.W.Frag) : TS :=
    tSeq (tDrop (tCall (sp_need_form K) [] E0 (tCons (tVar 0) (tNil))))
    (tIfS (tTest (tOp rLt (tCB (rLen K) (tCons (tCall (sp_play_order K) [] E0 (tCons (tVar 0) (tNil))) (tNil))) (tCB (rLen K) (tCons (tVar 0) (tNil))))) (tNever) (tNext))
theorem r_need_game {K : PySem.W.Frag} (vs : List V) (H : Hp) (Q : VK) (E : XK) (h : sp_need_game K vs H Q E) : t_need_game K { nx := fun _ H' => Q .non H', rt := Q } (start N_need_game vs) H := by
  obtain ⟨a, W, rfl, w, G, k⟩ := h
  refine ⟨.ref a, rfl, a, W, rfl, w, G.1, fun H1 s1 => ?_⟩
  refine ⟨.ref a, rfl, a, W, rfl, w.same s1, G.1, fun o p H2 hp np s2 ho => ?_⟩
  obtain ⟨q, l⟩ := (w.same s1).same s2
  refine ⟨p, _, rfl, .inl (.of ho), .ref a, rfl, a, _, rfl, .inl (.of l.top), _, _, rfl, rfl, false, congrArg V.bl ?_, iteF (k H2 (s1.trans s2))⟩
  rw [nvs_length, refs_len, hp.length G]
  simp
end Sp

namespace Sp
open PySem PySem.Spec PyProof.Rows L2
/-! ### least_missing, numbers_of -/
def sp_least_missing (K : PySem.W.Frag) : Sp := fun vs H Q _ => ∃ (a : Addr) (xs : List Nat), vs = [.ref a] ∧ SqL K H a (nvs xs) ∧ Q (nv (mex xs)) H
/-- slots: 0 numbers, 1 found -/
def N_least_missing : List Str := ["numbers", "found"]
def t_least_missing (K : PySem.W.Frag) : TS :=
    tSeq (tAsg (tC (.int 0)) (gName 1))
    (tSeq (tWhile (tTest (tOp (rIn K false) (tVar 1) (tVar 0))) (tAsg (tOp rAdd (tVar 1) (tC (.int 1))) (gName 1)))
    (tRet (tVar 1)))
theorem r_least_missing {K : PySem.W.Frag} (vs : List V) (H : Hp) (Q : VK) (E : XK) (h : sp_least_missing K vs H Q E) : t_least_missing K { nx := fun _ H' => Q .non H', rt := Q } (start N_least_missing vs) H := by
  obtain ⟨a, xs, rfl, hs, q⟩ := h
  refine ⟨fun m σ H1 => ∃ f : Nat, σ = [some (.ref a), some (nv f)] ∧ H1 = H ∧ m = xs.length + 1 - f ∧ ∀ j < f, j ∈ xs, ⟨xs.length + 1, 0, rfl, rfl, by simp, fun j hj => absurd hj (Nat.not_lt_zero j)⟩, fun m σ H1 hW => ?_⟩
  obtain ⟨f, rfl, rfl, em, hf⟩ := hW
  refine ⟨nv f, rfl, .ref a, rfl, a, _, rfl, .inl hs, rfl, flat_nvs xs, decide (f ∈ xs), congrArg V.bl (inV_nv f xs), ite2 (fun c => ?_) (fun c => ?_)⟩
  · have c2 := of_decide_eq_true c
    have hle := range_le (f + 1) xs fun x hx => by
      by_cases e : x = f
      · exact e ▸ c2
      · exact hf x (by omega)
    refine ⟨fun σ' H' => σ' = [some (.ref a), some (nv (f + 1))] ∧ H' = H1, fun σ' H' hN => ⟨xs.length + 1 - (f + 1), by omega, f + 1, hN.1, hN.2, rfl, fun j hj => ?_⟩, nv f, rfl, _, 1, rfl, rfl, rfl, rfl⟩
    by_cases e : j = f
    · exact e ▸ c2
    · exact hf j (by omega)
  · refine ⟨nv f, rfl, ?_⟩
    have e : f = mex xs := IsMex.uniq ⟨fun z => c (decide_eq_true z), hf⟩ (mex_is xs)
    rw [e]
    exact q
def sp_numbers_of (K : PySem.W.Frag) : Sp := fun vs H Q _ => ∃ (a : Addr) (W : List (List Nat)), vs = [.ref a] ∧ Web H a W ∧ Good W ∧ ∀ (g : List Nat) (p : Addr) (H' : Hp), IsF mex W g → H p = none → Same H H' → H' p = some (.lst (nvs g)) → Q (.ref p) H'
/-- slots: 0 web, 1 found, 2 spot, 3 other -/
def N_numbers_of : List Str := ["web", "found", "spot", "other"]
def t_numbers_of (K : PySem.W.Frag) : TS :=
    tSeq (tDrop (tCall (sp_need_game K) [] E0 (tCons (tVar 0) (tNil))))
    (tSeq (tAsg (tOp rRep (tLst (tCons (tC (.int 0)) (tNil))) (tCB (rLen K) (tCons (tVar 0) (tNil)))) (gName 1))
    (tSeq (tFor (iList K (tCall (sp_play_order K) [] E0 (tCons (tVar 0) (tNil)))) (gName 2) (tAsg (tCall (sp_least_missing K) [] E0 (tCons (tLc (iList K (tOp (rIxL K) (tVar 0) (tVar 2))) (gName 3) (tYes) (tOp (rIxL K) (tVar 1) (tVar 3)) [3]) (tNil))) (gSub (tVar 1) (tVar 2) rSetL)))
    (tRet (tVar 1))))
theorem flat_rep (n : Nat) (v : V) : (List.replicate n [v]).flatten = List.replicate n v := by
  induction n with
  | zero => rfl
  | succ n ih =>
    rw [List.replicate_succ, List.flatten_cons, ih]
    rfl
theorem nvs_rep (n k : Nat) : nvs (List.replicate n k) = List.replicate n (nv k) := List.map_replicate
theorem nvs_set (l : List Nat) (i v : Nat) : (nvs l).set i (nv v) = nvs (l.set i v) := List.map_set.symm
theorem at_getD {l : List Nat} {t : Nat} (h : t < l.length) : atI (nvs l) (t : Int) = some (nv (l.getD t 0)) := nvs_at (by rw [List.getD_eq_getElem?_getD, List.getElem?_eq_getElem h]; rfl)
theorem ix_at {n s : Nat} (h : s < n) : ixN n (s : Int) = some s := by
  unfold ixN
  rw [if_pos (by omega), if_pos (by omega), Int.toNat_natCast]
theorem nvs_item {l : List Nat} {i : Nat} {x : V} (h : (nvs l)[i]? = some x) : ∃ n, l[i]? = some n ∧ nv n = x := by
  unfold nvs at h
  rw [List.getElem?_map] at h
  cases e : l[i]? with
  | none => rw [e] at h; cases h
  | some n => rw [e] at h; exact ⟨n, rfl, Option.some.inj h⟩
theorem r_numbers_of {K : PySem.W.Frag} (vs : List V) (H : Hp) (Q : VK) (E : XK) (h : sp_numbers_of K vs H Q E) : t_numbers_of K { nx := fun _ H' => Q .non H', rt := Q } (start N_numbers_of vs) H := by
  obtain ⟨a, W, rfl, w, G, k⟩ := h
  have hle := G.1.le
  refine ⟨.ref a, rfl, a, W, rfl, w, G, fun H1 s1 => ?_⟩
  obtain ⟨q, l⟩ := w.same s1
  -- found = [0] * len(web)
  refine ⟨line_le (Nat.le_of_ble_eq_true rfl), fun p np => ⟨.ref a, rfl, a, _, rfl, .inl (.of (same_new np _ _ l.top)), p, _, _, rfl, rfl, upd_same, by omega, by rw [refs_len]; omega, ?_, fun fA nf => ?_⟩⟩
  · rw [refs_len]
    exact line_le (by show 1 * _ ≤ _; omega)
  have sP : Same H1 (upd H1 p (.lst [V.int 0])) := same_new np
  have nfH : H fA = none := (s1.trans sP).free nf
  have s2 : Same H (upd (upd H1 p (.lst [V.int 0])) fA (.lst (List.replicate ((refs W.length q).length : Int).toNat [V.int 0]).flatten)) := (s1.trans sP).new nf
  have hf2 : (upd (upd H1 p (.lst [V.int 0])) fA (.lst (List.replicate ((refs W.length q).length : Int).toNat [V.int 0]).flatten)) fA = some (.lst (nvs (List.replicate W.length 0))) := by
    rw [upd_same, flat_rep, refs_len, Int.toNat_natCast, nvs_rep]
    rfl
  generalize upd (upd H1 p (.lst [V.int 0])) fA (.lst (List.replicate ((refs W.length q).length : Int).toNat [V.int 0]).flatten) = H2 at s2 hf2
  -- for spot in play_order(web)
  refine ⟨.ref a, rfl, a, W, rfl, w.same s2, G.1, fun o oA H3 hp no s3 ho => ?_⟩
  have of_ : oA ≠ fA := (ne_of_none hf2 no).symm
  have noH := s2.free no
  refine ⟨oA, rfl, ⟨_, .of ho⟩, for_list (xs := nvs o) (fun i σ H4 => ∃ (g : List Nat) (y2 : Option V), σ = [some (.ref a), some (.ref fA), y2, none] ∧ Same H H4 ∧ H4 oA = some (.lst (nvs o)) ∧ H4 fA = some (.lst (nvs g)) ∧ PartF mex W o i g)
    ⟨_, none, rfl, s2.trans s3, ho, s3 _ _ hf2, PartF.start mex W o⟩ (fun i σ H4 _ hP => ?_) (fun i x σ H4 hx hP => ?_) (fun σ H4 hP => ?_)⟩
  · obtain ⟨_, _, _, _, h, _⟩ := hP
    exact .of h
  · obtain ⟨g, y2, rfl, s4, ho4, hf4, P4⟩ := hP
    obtain ⟨s, hs, rfl⟩ := nvs_item hx
    have hsn := hp.lt s (List.mem_of_getElem? hs)
    obtain ⟨q4, l4⟩ := w.same s4
    have hr4 := l4.at_ s hsn
    -- least_missing([..])
    refine ⟨.ref a, rfl, nv s, rfl, a, _, (s : Int), _, rfl, rfl, .of l4.top, refs_at hsn, q4 s, rfl, ⟨_, .of hr4⟩, lcL (row W s) nv (fun _ => true) (fun t => nv (g.getD t 0)) (.of hr4) (by have := G.1.row_len s; omega) (fun t ht H5 Qy Qf s5 hy _ => ?_) (fun D H5 nD s5 hD => ?_)⟩
    · exact ⟨.ref fA, rfl, nv t, rfl, fA, _, (t : Int), _, rfl, rfl, .of (s5 _ _ hf4), at_getD (by rw [P4.len]; exact G.1.lt s t ht), hy rfl H5 (Same.refl _)⟩
    · rw [List.filter_eq_self.mpr (fun _ _ => rfl)] at hD
      have hD2 : H5 D = some (.lst (nvs (vals g (row W s)))) := by rw [hD, nvs, vals, List.map_map]; rfl
      refine ⟨D, _, rfl, .of hD2, ?_⟩
      have hf5 := s5 _ _ hf4
      -- found[spot] = ..
      refine ⟨.ref fA, rfl, nv s, rfl, fA, _, (s : Int), s, rfl, rfl, hf5, ix_at (by rw [nvs_length, P4.len]; exact hsn), _, some (nv s), rfl, (s4.trans s5).mut nfH, ?_, ?_, P4.turn hp hs⟩
      · rw [upd_ne of_]
        exact s5 _ _ ho4
      · rw [upd_same, nvs_set]
  · obtain ⟨g, y2, rfl, s4, ho4, hf4, P4⟩ := hP
    rw [nvs_length] at P4
    exact ⟨.ref fA, rfl, k g fA H4 (P4.stop G hp) nfH s4 hf4⟩
end Sp

namespace Sp
open PySem PySem.Spec PyProof.Rows L2
/-! ### rows: need_row, row_number, is_lost -/
structure RowOk (W : List (List Nat)) (R : List Nat) : Prop where
  len : R.length ≤ 24
  lt : ∀ x ∈ R, x < W.length
theorem g_lt {W : List (List Nat)} {g : List Nat} (G : Good W) (hg : IsF mex W g) (s : Nat) : g.getD s 0 ≤ 200 := by
  by_cases hs : s < W.length
  · rw [hg.at_ s hs]
    have h1 := mex_le (vals g (row W s))
    rw [vals_length] at h1
    have := G.1.row_len s
    omega
  · rw [List.getD_eq_getElem?_getD, List.getElem?_eq_none (by rw [hg.len]; omega)]
    exact Nat.zero_le _
theorem big200 {n : Nat} (h : n ≤ 200) : n < 2 ^ 400 := Nat.lt_of_le_of_lt h (by decide +kernel)
theorem vals_lt {W : List (List Nat)} {g : List Nat} (G : Good W) (hg : IsF mex W g) (R : List Nat) : ∀ x ∈ vals g R, x < 2 ^ 400 := fun x hx => by
  obtain ⟨t, _, e⟩ := List.mem_map.mp hx
  rw [← e]
  exact big200 (g_lt G hg t)
def sp_need_row (K : PySem.W.Frag) : Sp := fun vs H Q _ => ∃ (a r : Addr) (W : List (List Nat)) (R : List Nat), vs = [.ref a, .ref r] ∧ Web H a W ∧ H r = some (.lst (nvs R)) ∧ RowOk W R ∧ ∀ H', Same H H' → Q .non H'
/-- slots: 0 web, 1 row, 2 spot -/
def N_need_row : List Str := ["web", "row", "spot"]
def t_need_row (K : PySem.W.Frag) : TS :=
    tSeq (tIfS (tOr (tNot (tB (tCB (rIsi K) (tCons (tVar 1) (tCons (tC (.ty "list")) (tNil)))))) (tTest (tOp rGt (tCB (rLen K) (tCons (tVar 1) (tNil))) (tC (.int 24))))) (tNever) (tNext))
    (tIfS (tNot (tB (tCB (rAll K) (tCons (tLc (iList K (tVar 1)) (gName 2) (tYes) (tCall (sp_is_number K) [] E0 (tCons (tVar 2) (tCons (tOp rSub (tCB (rLen K) (tCons (tVar 0) (tNil))) (tC (.int 1))) (tNil)))) [2]) (tNil))))) (tNever) (tNext))
theorem r_need_row {K : PySem.W.Frag} (vs : List V) (H : Hp) (Q : VK) (E : XK) (h : sp_need_row K vs H Q E) : t_need_row K { nx := fun _ H' => Q .non H', rt := Q } (start N_need_row vs) H := by
  obtain ⟨a, r, W, R, rfl, ⟨q, l⟩, hr, ok, k⟩ := h
  have hl := ok.len
  refine ⟨.ref r, rfl, _, _, _, _, _, rfl, .ty _, .base (.lst hr), kit_ty kLL, true, rfl, iteF ⟨.ref r, rfl, r, _, rfl, .inl (.of hr), _, 24, rfl, rfl, false, congrArg V.bl (decide_eq_false (by rw [nvs_length]; omega)), iteF ?_⟩⟩
  refine ⟨.ref r, rfl, r, rfl, ⟨_, .of hr⟩, lcL R nv (fun _ => true) (fun _ => .bl true) (.of hr) (by omega) (fun d hd H1 Qy Qf s1 hy _ => ?_) (fun D H1 _ s1 hD => ?_)⟩
  · have h1 := ok.lt d hd
    refine ⟨nv d, rfl, .ref a, rfl, a, _, rfl, .inl (.of (s1 _ _ l.top)), _, 1, rfl, rfl, (d : Int), ((refs W.length q).length : Int) - 1, rfl, ?_⟩
    have e : (decide ((0 : Int) ≤ (d : Int)) && decide ((d : Int) ≤ ((refs W.length q).length : Int) - 1)) = true := by
      rw [refs_len, Bool.and_eq_true, decide_eq_true_iff, decide_eq_true_iff]
      omega
    rw [e]
    exact hy rfl H1 (Same.refl _)
  · rw [List.filter_eq_self.mpr (fun _ _ => rfl)] at hD
    have hD2 : H1 D = some (.lst ((R.map fun _ => true).map V.bl)) := by rw [hD, List.map_map]; rfl
    exact ⟨D, _, rfl, .of hD2, true, blT (all_id R), iteF (k H1 s1)⟩
def sp_row_number (K : PySem.W.Frag) : Sp := fun vs H Q _ => ∃ (a r : Addr) (W : List (List Nat)) (R : List Nat), vs = [.ref a, .ref r] ∧ Web H a W ∧ Good W ∧ H r = some (.lst (nvs R)) ∧ RowOk W R ∧ ∀ (g : List Nat) (H' : Hp), IsF mex W g → Same H H' → Q (nv (xo (vals g R))) H'
/-- slots: 0 web, 1 row, 2 numbers, 3 spot -/
def N_row_number : List Str := ["web", "row", "numbers", "spot"]
def t_row_number (K : PySem.W.Frag) : TS :=
    tSeq (tAsg (tCall (sp_numbers_of K) [] E0 (tCons (tVar 0) (tNil))) (gName 2))
    (tSeq (tDrop (tCall (sp_need_row K) [] E0 (tCons (tVar 0) (tCons (tVar 1) (tNil)))))
    (tRet (tCall (sp_laid_over K) [] E0 (tCons (tLc (iList K (tVar 1)) (gName 3) (tYes) (tOp (rIxL K) (tVar 2) (tVar 3)) [3]) (tNil)))))
theorem r_row_number {K : PySem.W.Frag} (vs : List V) (H : Hp) (Q : VK) (E : XK) (h : sp_row_number K vs H Q E) : t_row_number K { nx := fun _ H' => Q .non H', rt := Q } (start N_row_number vs) H := by
  obtain ⟨a, r, W, R, rfl, w, G, hr, ok, k⟩ := h
  have hl := ok.len
  refine ⟨.ref a, rfl, a, W, rfl, w, G, fun g fA H1 hg _ s1 hf => ?_⟩
  refine ⟨.ref a, rfl, .ref r, rfl, a, r, W, R, rfl, w.same s1, s1 _ _ hr, ok, fun H2 s2 => ?_⟩
  have s12 := s1.trans s2
  refine ⟨.ref r, rfl, r, rfl, ⟨_, .of (s12 _ _ hr)⟩, lcL R nv (fun _ => true) (fun t => nv (g.getD t 0)) (.of (s12 _ _ hr)) (by omega) (fun t ht H3 Qy Qf s3 hy _ => ?_) (fun D H3 _ s3 hD => ?_)⟩
  · exact ⟨.ref fA, rfl, nv t, rfl, fA, _, (t : Int), _, rfl, rfl, .of (s3 _ _ (s2 _ _ hf)), at_getD (by rw [hg.len]; exact ok.lt t ht), hy rfl H3 (Same.refl _)⟩
  · rw [List.filter_eq_self.mpr (fun _ _ => rfl)] at hD
    have hD2 : H3 D = some (.lst (nvs (vals g R))) := by rw [hD, nvs, vals, List.map_map]; rfl
    exact ⟨D, vals g R, rfl, .of hD2, by rw [vals_length]; omega, vals_lt G hg R, fun H4 s4 => k g H4 hg ((s12.trans s3).trans s4)⟩
def sp_is_lost (K : PySem.W.Frag) : Sp := fun vs H Q _ => ∃ (a r : Addr) (W : List (List Nat)) (R : List Nat), vs = [.ref a, .ref r] ∧ Web H a W ∧ Good W ∧ H r = some (.lst (nvs R)) ∧ RowOk W R ∧ ∀ (g : List Nat) (H' : Hp), IsF mex W g → Same H H' → Q (.bl (decide (xo (vals g R) = 0))) H'
/-- slots: 0 web, 1 row -/
def N_is_lost : List Str := ["web", "row"]
def t_is_lost (K : PySem.W.Frag) : TS :=
    tRet (tOp rEq (tCall (sp_row_number K) [] E0 (tCons (tVar 0) (tCons (tVar 1) (tNil)))) (tC (.int 0)))
theorem dec_nv (a b : Nat) : decide (nv a = nv b) = decide (a = b) := by
  rw [Bool.eq_iff_iff, decide_eq_true_iff, decide_eq_true_iff]
  exact ⟨nv_inj, fun e => by rw [e]⟩
theorem r_is_lost {K : PySem.W.Frag} (vs : List V) (H : Hp) (Q : VK) (E : XK) (h : sp_is_lost K vs H Q E) : t_is_lost K { nx := fun _ H' => Q .non H', rt := Q } (start N_is_lost vs) H := by
  obtain ⟨a, r, W, R, rfl, w, G, hr, ok, k⟩ := h
  refine ⟨.ref a, rfl, .ref r, rfl, a, r, W, R, rfl, w, G, hr, ok, fun g H1 hg s1 => ⟨rfl, ?_⟩⟩
  have e : decide (nv (xo (vals g R)) = V.int 0) = decide (xo (vals g R) = 0) := dec_nv _ 0
  rw [e]
  exact k g H1 hg s1
end Sp

namespace Sp
open PySem PySem.Spec PyProof.Rows L2
/-! ### _law_ints_are: two lists of the same numbers -/
def sp__law_ints_are (K : PySem.W.Frag) : Sp := fun vs H Q _ => ∃ (a b : Addr) (l : List Nat), vs = [.ref a, .ref b] ∧ H a = some (.lst (nvs l)) ∧ H b = some (.lst (nvs l)) ∧ l.length ≤ 10000 ∧ ∀ H', Same H H' → Q (.bl true) H'
/-- slots: 0 _law_found, 1 _law_due, 2 _law_one -/
def N__law_ints_are : List Str := ["_law_found", "_law_due_here", "_law_one"]
def t__law_ints_are (K : PySem.W.Frag) : TS :=
    tSeq (tIfS (tOr (tNot (tB (tCB (rIsi K) (tCons (tVar 0) (tCons (tC (.ty "list")) (tNil)))))) (tTest (tOp (rNeD K) (tVar 0) (tVar 1)))) (tRet (tC (.bl false))) (tNext))
    (tRet (tCB (rAll K) (tCons (tLc (iList K (tVar 0)) (gName 2) (tYes) (tAndV (tCB (rIsi K) (tCons (tVar 2) (tCons (tC (.ty "int")) (tNil)))) (tNotV (tCB (rIsi K) (tCons (tVar 2) (tCons (tC (.ty "bool")) (tNil)))))) [2]) (tNil))))
theorem r__law_ints_are {K : PySem.W.Frag} (vs : List V) (H : Hp) (Q : VK) (E : XK) (h : sp__law_ints_are K vs H Q E) : t__law_ints_are K { nx := fun _ H' => Q .non H', rt := Q } (start N__law_ints_are vs) H := by
  obtain ⟨a, b, l, rfl, ha, hb, hl, k⟩ := h
  refine ⟨.ref a, rfl, _, _, _, _, _, rfl, .ty _, .base (.lst ha), kit_ty kLL, true, rfl, iteF ⟨.ref a, rfl, .ref b, rfl, dNs l, dNs l, dp_ns (.of ha), dp_ns (.of hb), sh_ns l, sh_ns l, false, notT (ns_refl l), iteF ?_⟩⟩
  refine ⟨.ref a, rfl, a, rfl, ⟨_, .of ha⟩, lcL l nv (fun _ => true) (fun _ => .bl true) (.of ha) (by omega) (fun d hd H1 Qy Qf s1 hy _ => ?_) (fun D H1 _ s1 hD => ?_)⟩
  · exact ⟨nv d, rfl, _, _, _, _, _, rfl, .ty _, .base (.int _), kit_ty kII, true, rfl, iteT ⟨nv d, rfl, _, _, _, _, _, rfl, .ty _, .base (.int _), kit_ty kIB, false, rfl, hy rfl H1 (Same.refl _)⟩⟩
  · rw [List.filter_eq_self.mpr (fun _ _ => rfl)] at hD
    have hD2 : H1 D = some (.lst ((l.map fun _ => true).map V.bl)) := by rw [hD, List.map_map]; rfl
    refine ⟨D, _, rfl, .of hD2, ?_⟩
    rw [all_id]
    exact k H1 s1
end Sp

namespace Sp
open PySem PySem.Spec PyProof.Rows L2
/-! ### moves -/
def mvsA (W : List (List Nat)) (R : List Nat) (i : Nat) : List (Nat × Nat) := ((List.range W.length).filter fun x => decide (x ∈ row W (R.getD i 0))).map fun x => (i, x)
def mvs (W : List (List Nat)) (R : List Nat) : List (Nat × Nat) := (List.range R.length).flatMap (mvsA W R)
theorem mem_mvs {W : List (List Nat)} {R : List Nat} (F : Form W) {m : Nat × Nat} : m ∈ mvs W R ↔ m.1 < R.length ∧ m.2 ∈ row W (R.getD m.1 0) := by
  unfold mvs mvsA
  rw [List.mem_flatMap]
  constructor
  · rintro ⟨i, hi, h⟩
    obtain ⟨x, hx, rfl⟩ := List.mem_map.mp h
    exact ⟨List.mem_range.mp hi, of_decide_eq_true (List.mem_filter.mp hx).2⟩
  · rintro ⟨h1, h2⟩
    exact ⟨m.1, List.mem_range.mpr h1, List.mem_map.mpr ⟨m.2, List.mem_filter.mpr ⟨List.mem_range.mpr (F.lt _ _ h2), decide_eq_true h2⟩, rfl⟩⟩
theorem flat_step {α : Type} (f : Nat → List α) (i : Nat) : (List.range (i + 1)).flatMap f = (List.range i).flatMap f ++ f i := by
  rw [List.range_succ, List.flatMap_append]
  congr 1
  show f i ++ [] = f i
  rw [List.append_nil]
theorem mvsA_len {W : List (List Nat)} (F : Form W) (R : List Nat) (i : Nat) : (mvsA W R i).length ≤ 200 := by
  rw [mvsA, List.length_map]
  have := List.length_filter_le (fun x => decide (x ∈ row W (R.getD i 0))) (List.range W.length)
  rw [List.length_range] at this
  have := F.le
  omega
theorem mvsTo_len {W : List (List Nat)} (F : Form W) (R : List Nat) : ∀ i, ((List.range i).flatMap (mvsA W R)).length ≤ 200 * i
  | 0 => Nat.le_refl _
  | i + 1 => by
    rw [flat_step, List.length_append]
    have := mvsTo_len F R i
    have := mvsA_len F R i
    omega
/-- the sorted row -/
theorem sorted_row {W : List (List Nat)} (F : Form W) {s : Nat} {S : List Nat} (h : S.Perm (row W s)) (hp : S.Pairwise (· ≤ ·)) : S = (List.range W.length).filter fun x => decide (x ∈ row W s) := by
  refine List.Perm.eq_of_pairwise (le := (· ≤ ·)) (fun a b _ _ h1 h2 => Nat.le_antisymm h1 h2) hp ((List.pairwise_lt_range.imp fun h => Nat.le_of_lt h).filter _) ?_
  refine h.trans ((List.perm_ext_iff_of_nodup (F.nd s) (List.nodup_range.filter _)).mpr fun x => ?_)
  rw [List.mem_filter, List.mem_range, decide_eq_true_iff]
  exact ⟨fun h => ⟨F.lt s x h, h⟩, fun h => h.2⟩
/-- a list of moves, tuples of two numbers -/
def Mvs (H : Hp) (a : Addr) (ms : List (Nat × Nat)) : Prop := ∃ zs : List (Addr × Nat × Nat), H a = some (.lst (zs.map fun z => V.ref z.1)) ∧ zs.map (·.2) = ms ∧ ∀ z ∈ zs, H z.1 = some (.tup [nv z.2.1, nv z.2.2])
theorem Mvs.same {H H1 : Hp} {a : Addr} {ms : List (Nat × Nat)} (m : Mvs H a ms) (s : Same H H1) : Mvs H1 a ms := let ⟨zs, h1, h2, h3⟩ := m; ⟨zs, s _ _ h1, h2, fun z hz => s _ _ (h3 z hz)⟩
theorem Mvs.nil {H : Hp} {a : Addr} (h : H a = some (.lst [])) : Mvs H a [] := ⟨[], h, rfl, fun z hz => by cases hz⟩
theorem Mvs.get {H : Hp} {a : Addr} {ms : List (Nat × Nat)} (m : Mvs H a ms) : ∃ xs : List V, H a = some (.lst xs) ∧ xs.length = ms.length ∧ ∀ (i : Nat) (k : Nat × Nat), ms[i]? = some k → ∃ p, xs[i]? = some (.ref p) ∧ H p = some (.tup [nv k.1, nv k.2]) := by
  obtain ⟨zs, h1, rfl, h3⟩ := m
  refine ⟨_, h1, by rw [List.length_map, List.length_map], fun i k h => ?_⟩
  rw [List.getElem?_map] at h
  cases e : zs[i]? with
  | none => rw [e] at h; cases h
  | some z =>
    rw [e] at h
    have ez : z.2 = k := Option.some.inj h
    subst ez
    exact ⟨z.1, by rw [List.getElem?_map, e]; rfl, h3 z (List.mem_of_getElem? e)⟩
theorem Mvs.grow {H : Hp} {a : Addr} {ms : List (Nat × Nat)} (m : Mvs H a ms) : ∃ xs, H a = some (.lst xs) ∧ xs.length = ms.length ∧
    ∀ (H1 : Hp) (p : Addr) (k : Nat × Nat), Same H H1 → H1 p = some (.tup [nv k.1, nv k.2]) → Mvs (upd H1 a (.lst (xs ++ [.ref p]))) a (ms ++ [k]) := by
  obtain ⟨zs, h1, rfl, h3⟩ := m
  refine ⟨_, h1, by rw [List.length_map, List.length_map], fun H1 p k s hp => ⟨zs ++ [(p, k)], ?_, ?_, fun z hz => ?_⟩⟩
  · rw [upd_same, List.map_append]
    rfl
  · rw [List.map_append]
    rfl
  · have key : ∀ (b : Addr) (k : Nat × Nat), H1 b = some (.tup [nv k.1, nv k.2]) → upd H1 a (.lst (zs.map (fun z => V.ref z.1) ++ [.ref p])) b = some (.tup [nv k.1, nv k.2]) := fun b k hb => by
      have ne : b ≠ a := fun e => by
        rw [e, s _ _ h1] at hb
        cases hb
      rw [upd_ne ne]
      exact hb
    rcases List.mem_append.mp hz with h | h
    · exact key _ _ (s _ _ (h3 z h))
    · rw [List.mem_singleton.mp h]
      exact key _ _ hp
/-! data -/
def dMv (m : Nat × Nat) : PyData := .tuple ([m.1, m.2].map fun n : Nat => .int (n : Int))
def dMvs (ms : List (Nat × Nat)) : PyData := .list (ms.map dMv)
theorem flt_mvs (ms : List (Nat × Nat)) : Flt 3 (dMvs ms) := flt_list _ ms fun m _ => flt_tup _ _ fun n _ => flt_int n
theorem sh_mvs (ms : List (Nat × Nat)) : SeqAt.shaped (dMvs ms) = true := (flt_mvs ms).shaped (by decide)
theorem mvs_refl (ms : List (Nat × Nat)) : PyData.eqv (dMvs ms) (dMvs ms) = true := (flt_mvs ms).refl
theorem eqv_none (ms : List (Nat × Nat)) : PyData.eqv (dMvs ms) (dMvs []) = decide (ms = []) := by
  cases ms with
  | nil => rfl
  | cons m r => rfl
theorem dp_mv {K : PySem.W.Frag} {H : Hp} {p : Addr} {m : Nat × Nat} (h : H p = some (.tup [nv m.1, nv m.2])) : Dp K H (.ref p) (dMv m) := .tup (.of h) (.cons (.int _) (.cons (.int _) .nil))
theorem Mvs.dp {K : PySem.W.Frag} {H : Hp} {a : Addr} {ms : List (Nat × Nat)} (m : Mvs H a ms) : Dp K H (.ref a) (dMvs ms) := by
  obtain ⟨zs, h1, rfl, h3⟩ := m
  unfold dMvs
  rw [List.map_map]
  exact .lst (.of h1) (dpAll_map (fun z : Addr × Nat × Nat => V.ref z.1) (fun z => dMv z.2) zs fun z hz => dp_mv (h3 z hz))
/-! ### moves_of, moves_in -/
def sp_moves_of (K : PySem.W.Frag) : Sp := fun vs H Q _ => ∃ (a r : Addr) (W : List (List Nat)) (R : List Nat), vs = [.ref a, .ref r] ∧ Web H a W ∧ Form W ∧ H r = some (.lst (nvs R)) ∧ RowOk W R ∧ ∀ (p : Addr) (H' : Hp), H p = none → Same H H' → Mvs H' p (mvs W R) → (mvs W R).length ≤ 4800 → Q (.ref p) H'
/-- slots: 0 web, 1 row, 2 found, 3 place, 4 spot, 5 other -/
def N_moves_of : List Str := ["web", "row", "found", "place", "spot", "other"]
def t_moves_of (K : PySem.W.Frag) : TS :=
    tSeq (tAsg (tLst (tNil)) (gName 2))
    (tSeq (tFor (iEnum K (tCons (tVar 1) (tNil))) (gTup K 2 (gCons (gName 3) (gCons (gName 4) (gNil)))) (tFor (iList K (tCB (rSortedI K) (tCons (tOp (rIxL K) (tVar 0) (tVar 4)) (tNil)))) (gName 5) (tDrop (tBM K "list" rAppend (tVar 2) (tCons (tTup (tCons (tVar 3) (tCons (tVar 5) (tNil)))) (tNil))))))
    (tRet (tVar 2)))
theorem r_moves_of {K : PySem.W.Frag} (vs : List V) (H : Hp) (Q : VK) (E : XK) (h : sp_moves_of K vs H Q E) : t_moves_of K { nx := fun _ H' => Q .non H', rt := Q } (start N_moves_of vs) H := by
  obtain ⟨a, r, W, R, rfl, ⟨q, l⟩, F, hr, ok, k⟩ := h
  have hlen := ok.len
  refine ⟨Nat.zero_le _, fun fA nf => ?_⟩
  have s1 := same_new (o := .lst []) nf
  have M1 : Mvs (upd H fA (.lst [])) fA [] := .nil upd_same
  generalize upd H fA (.lst []) = H1 at s1 M1
  refine ⟨.ref r, rfl, r, _, rfl, .of (s1 _ _ hr), for_it (walk_enum (xs := nvs R)) (fun i σ H3 => ∃ (y3 y4 y5 : Option V), σ = [some (.ref a), some (.ref r), some (.ref fA), y3, y4, y5] ∧ Same H H3 ∧ Mvs H3 fA ((List.range i).flatMap (mvsA W R)))
    ⟨none, none, none, rfl, s1, M1⟩ (fun i σ H3 hi hP => ?_) (fun i x σ H3 H3' hi hP hY => ?_) (fun σ H3 hP => ?_)⟩
  · obtain ⟨_, _, _, _, s3, _⟩ := hP
    exact .of (s3 _ _ hr)
  · obtain ⟨y3, y4, y5, rfl, s3, M3⟩ := hP
    obtain ⟨T, x1, x2, rfl, nT, rfl, e1, e2⟩ := hY
    rw [nvs_length] at hi
    have e1' : V.int (i : Nat) = x1 := Option.some.inj e1
    obtain ⟨s, hs, e2'⟩ := nvs_item e2
    subst e1' e2'
    have hsW := ok.lt s (List.mem_of_getElem? hs)
    have es : R.getD i 0 = s := by rw [List.getD_eq_getElem?_getD, hs]; rfl
    refine ⟨T, _, rfl, .of upd_same, rfl, _, _, rfl, _, _, rfl, rfl, ?_⟩
    have sT : Same H (upd H3 T (.tup [V.int (i : Nat), nv s])) := s3.new nT
    have MT := M3.same (same_new (o := .tup [V.int (i : Nat), nv s]) nT)
    generalize upd H3 T (.tup [V.int (i : Nat), nv s]) = H4 at sT MT
    have l4 := l.same sT
    have hq4 : H4 (q s) = some (.lst (wrow W s)) := l4.at_ s hsW
    refine ⟨.ref a, rfl, nv s, rfl, a, _, (s : Int), _, rfl, rfl, .of l4.top, refs_at hsW, q s, (row W s).map fun n : Nat => (n : Int), rfl, by rw [← nvs_int]; exact .of hq4, fun ns' sA hperm hpw nsA => ?_⟩
    obtain ⟨S, hS, eS, hpS⟩ := sorted_nat hperm hpw
    have eF := sorted_row F hS hpS
    rw [eS]
    have s5 := sT.new (o := .lst (nvs S)) nsA
    have M5 := MT.same (same_new (o := .lst (nvs S)) nsA)
    have hs5 : (upd H4 sA (.lst (nvs S))) sA = some (.lst (nvs S)) := upd_same
    have fs : fA ≠ sA := by
      obtain ⟨zs, h1, _⟩ := MT
      exact ne_of_none h1 nsA
    generalize upd H4 sA (.lst (nvs S)) = H5 at s5 M5 hs5
    have base := mvsTo_len F R i
    have Sl : S.length ≤ 200 := by rw [hS.length_eq]; exact F.row_len s
    refine ⟨sA, rfl, ⟨_, .of hs5⟩, for_list (xs := nvs S) (fun j σ H6 => ∃ y5 : Option V, σ = [some (.ref a), some (.ref r), some (.ref fA), some (nv i), some (nv s), y5] ∧ Same H H6 ∧ H6 sA = some (.lst (nvs S)) ∧ Mvs H6 fA ((List.range i).flatMap (mvsA W R) ++ (S.take j).map fun x => (i, x)))
      ⟨y5, rfl, s5, hs5, by rw [List.take_zero, List.map_nil, List.append_nil]; exact M5⟩ (fun j σ H6 _ hP => ?_) (fun j x σ H6 hx hP => ?_) (fun σ H6 hP => ?_)⟩
    · obtain ⟨_, _, _, h6, _⟩ := hP
      exact .of h6
    · obtain ⟨y5, rfl, s6, hs6, M6⟩ := hP
      obtain ⟨x0, hx0, rfl⟩ := nvs_item hx
      have hj := (List.getElem?_eq_some_iff.mp hx0).1
      obtain ⟨xs, hxs, xl, grow⟩ := M6.grow
      refine ⟨.ref fA, rfl, .inl ⟨rfl, _, .of hxs⟩, nv i, rfl, nv x0, rfl, line_le (Nat.le_of_ble_eq_true rfl), fun p np => ?_⟩
      have M7 := grow (upd H6 p (.tup [nv i, nv x0])) p (i, x0) (same_new np) upd_same
      refine ⟨fA, _, _, rfl, rfl, same_new np _ _ hxs, by rw [xl, List.length_append, List.length_map, List.length_take]; exact line_lt (by omega), some (nv x0), rfl, (s6.new np).mut nf, ?_, ?_⟩
      · rw [upd_ne fs.symm]
        exact same_new np _ _ hs6
      · have e : ((List.range i).flatMap (mvsA W R) ++ (S.take j).map fun x => (i, x)) ++ [(i, x0)] = (List.range i).flatMap (mvsA W R) ++ (S.take (j + 1)).map fun x => (i, x) := by
          rw [List.append_assoc, List.take_add_one, hx0, List.map_append]
          rfl
        rw [← e]
        exact M7
    · obtain ⟨y5, rfl, s6, hs6, M6⟩ := hP
      refine ⟨_, _, y5, rfl, s6, ?_⟩
      rw [nvs_length, List.take_length] at M6
      rw [flat_step, mvsA, es, ← eF]
      exact M6
  · obtain ⟨y3, y4, y5, rfl, s3, M3⟩ := hP
    rw [nvs_length] at M3
    exact ⟨.ref fA, rfl, k fA H3 nf s3 M3 (by have := mvsTo_len F R R.length; unfold mvs; omega)⟩
def sp_moves_in (K : PySem.W.Frag) : Sp := fun vs H Q _ => ∃ (a r : Addr) (W : List (List Nat)) (R : List Nat), vs = [.ref a, .ref r] ∧ Web H a W ∧ Good W ∧ H r = some (.lst (nvs R)) ∧ RowOk W R ∧ ∀ (p : Addr) (H' : Hp), H p = none → Same H H' → Mvs H' p (mvs W R) → (mvs W R).length ≤ 4800 → Q (.ref p) H'
/-- slots: 0 web, 1 row -/
def N_moves_in : List Str := ["web", "row"]
def t_moves_in (K : PySem.W.Frag) : TS :=
    tSeq (tDrop (tCall (sp_need_game K) [] E0 (tCons (tVar 0) (tNil))))
    (tSeq (tDrop (tCall (sp_need_row K) [] E0 (tCons (tVar 0) (tCons (tVar 1) (tNil)))))
    (tRet (tCall (sp_moves_of K) [] E0 (tCons (tVar 0) (tCons (tVar 1) (tNil))))))
theorem r_moves_in {K : PySem.W.Frag} (vs : List V) (H : Hp) (Q : VK) (E : XK) (h : sp_moves_in K vs H Q E) : t_moves_in K { nx := fun _ H' => Q .non H', rt := Q } (start N_moves_in vs) H := by
  obtain ⟨a, r, W, R, rfl, w, G, hr, ok, k⟩ := h
  refine ⟨.ref a, rfl, a, W, rfl, w, G, fun H1 s1 => ⟨.ref a, rfl, .ref r, rfl, a, r, W, R, rfl, w.same s1, s1 _ _ hr, ok, fun H2 s2 => ?_⟩⟩
  have s12 := s1.trans s2
  exact ⟨.ref a, rfl, .ref r, rfl, a, r, W, R, rfl, w.same s12, G.1, s12 _ _ hr, ok, fun p H3 np s3 M hl => k p H3 (s12.free np) (s12.trans s3) M hl⟩
/-! ### is_move, behind, played -/
def sp_is_move (K : PySem.W.Frag) : Sp := fun vs H Q _ => ∃ (a r t : Addr) (W : List (List Nat)) (R : List Nat) (m : Nat × Nat), vs = [.ref a, .ref r, .ref t] ∧ Web H a W ∧ H r = some (.lst (nvs R)) ∧ (∀ x ∈ R, x < W.length) ∧ H t = some (.tup [nv m.1, nv m.2]) ∧ m.1 < R.length ∧ m.2 < W.length ∧ Q (.bl (decide (m.2 ∈ row W (R.getD m.1 0)))) H
/-- slots: 0 web, 1 row, 2 move -/
def N_is_move : List Str := ["web", "row", "move"]
def t_is_move (K : PySem.W.Frag) : TS :=
    tSeq (tIfS (tOr (tNot (tB (tCB (rIsi K) (tCons (tVar 2) (tCons (tC (.ty "tuple")) (tNil)))))) (tTest (tOp rNe (tCB (rLen K) (tCons (tVar 2) (tNil))) (tC (.int 2))))) (tRet (tC (.bl false))) (tNext))
    (tSeq (tIfS (tOr (tNot (tB (tCall (sp_is_number K) [] E0 (tCons (tOp (rIxT K) (tVar 2) (tC (.int 0))) (tCons (tOp rSub (tCB (rLen K) (tCons (tVar 1) (tNil))) (tC (.int 1))) (tNil)))))) (tNot (tB (tCall (sp_is_number K) [] E0 (tCons (tOp (rIxT K) (tVar 2) (tC (.int 1))) (tCons (tOp rSub (tCB (rLen K) (tCons (tVar 0) (tNil))) (tC (.int 1))) (tNil))))))) (tRet (tC (.bl false))) (tNext))
    (tRet (tOp (rIn K false) (tOp (rIxT K) (tVar 2) (tC (.int 1))) (tOp (rIxL K) (tVar 0) (tOp (rIxL K) (tVar 1) (tOp (rIxT K) (tVar 2) (tC (.int 0))))))))
theorem r_is_move {K : PySem.W.Frag} (vs : List V) (H : Hp) (Q : VK) (E : XK) (h : sp_is_move K vs H Q E) : t_is_move K { nx := fun _ H' => Q .non H', rt := Q } (start N_is_move vs) H := by
  obtain ⟨a, r, t, W, R, m, rfl, ⟨q, l⟩, hr, hR, ht, h1, h2, k⟩ := h
  refine ⟨.ref t, rfl, _, _, _, _, _, rfl, .ty _, .base (.tup ht), kit_ty kTT, true, rfl, iteF ⟨.ref t, rfl, t, _, rfl, .inr (.of ht), rfl, false, rfl, iteF ?_⟩⟩
  refine ⟨.ref t, rfl, t, _, 0, nv m.1, rfl, rfl, .of ht, rfl, .ref r, rfl, r, _, rfl, .inl (.of hr), _, 1, rfl, rfl, (m.1 : Int), ((nvs R).length : Int) - 1, rfl, ?_⟩
  have e1 : (decide ((0 : Int) ≤ (m.1 : Int)) && decide ((m.1 : Int) ≤ ((nvs R).length : Int) - 1)) = true := by
    rw [nvs_length, Bool.and_eq_true, decide_eq_true_iff, decide_eq_true_iff]
    omega
  rw [e1]
  refine ⟨true, rfl, iteF ⟨.ref t, rfl, t, _, 1, nv m.2, rfl, rfl, .of ht, rfl, .ref a, rfl, a, _, rfl, .inl (.of l.top), _, 1, rfl, rfl, (m.2 : Int), ((refs W.length q).length : Int) - 1, rfl, ?_⟩⟩
  have e2 : (decide ((0 : Int) ≤ (m.2 : Int)) && decide ((m.2 : Int) ≤ ((refs W.length q).length : Int) - 1)) = true := by
    rw [refs_len, Bool.and_eq_true, decide_eq_true_iff, decide_eq_true_iff]
    omega
  rw [e2]
  have hsW : R.getD m.1 0 < W.length := hR _ (by
    rw [List.getD_eq_getElem?_getD, List.getElem?_eq_getElem h1]
    exact List.getElem_mem h1)
  refine ⟨true, rfl, iteF ⟨.ref t, rfl, t, _, 1, nv m.2, rfl, rfl, .of ht, rfl, .ref a, rfl, .ref r, rfl, .ref t, rfl, t, _, 0, nv m.1, rfl, rfl, .of ht, rfl, r, _, (m.1 : Int), nv (R.getD m.1 0), rfl, rfl, .of hr, at_getD h1, a, _, (R.getD m.1 0 : Int), .ref (q (R.getD m.1 0)), rfl, rfl, .of l.top, refs_at hsW, q (R.getD m.1 0), _, rfl, .inl (.of (l.at_ _ hsW)), rfl, flat_nvs _, ?_⟩⟩
  rw [if_neg Bool.false_ne_true, inV_nv]
  exact k
def sp_behind (K : PySem.W.Frag) : Sp := fun vs H Q _ => ∃ (r t : Addr) (R : List Nat) (m : Nat × Nat), vs = [.ref r, .ref t] ∧ H r = some (.lst (nvs R)) ∧ R.length ≤ 1000 ∧ H t = some (.tup [nv m.1, nv m.2]) ∧ m.1 < R.length ∧ ∀ (p : Addr) (H' : Hp), H p = none → Same H H' → H' p = some (.lst (nvs (R.set m.1 m.2))) → Q (.ref p) H'
/-- slots: 0 row, 1 move -/
def N_behind : List Str := ["row", "move"]
def t_behind (K : PySem.W.Frag) : TS :=
    tRet (tOp rCat (tOp rCat (tSl (rSlL K) (tVar 0) (tNoPart) (tPart (tOp (rIxT K) (tVar 1) (tC (.int 0))))) (tLst (tCons (tOp (rIxT K) (tVar 1) (tC (.int 1))) (tNil)))) (tSl (rSlL K) (tVar 0) (tPart (tOp rAdd (tOp (rIxT K) (tVar 1) (tC (.int 0))) (tC (.int 1)))) (tNoPart)))
theorem r_behind {K : PySem.W.Frag} (vs : List V) (H : Hp) (Q : VK) (E : XK) (h : sp_behind K vs H Q E) : t_behind K { nx := fun _ H' => Q .non H', rt := Q } (start N_behind vs) H := by
  obtain ⟨r, t, R, ⟨i, y⟩, rfl, hr, hl, ht, hi, k⟩ := h
  dsimp only at ht hi k
  refine ⟨.ref r, rfl, .ref t, rfl, t, _, 0, nv i, rfl, rfl, .of ht, rfl, (i : Int), rfl, r, _, rfl, .of hr, fun p1 n1 => ?_⟩
  have e1 : cutV (nvs R) none (some (i : Int)) = nvs (R.take i) := cut_to nv R i
  rw [e1]
  have u1 : Same H (upd H p1 (.lst (nvs (R.take i)))) := same_new n1
  have h1 : (upd H p1 (.lst (nvs (R.take i)))) p1 = some (.lst (nvs (R.take i))) := upd_same
  generalize upd H p1 (.lst (nvs (R.take i))) = H4 at u1 h1
  refine ⟨.ref t, rfl, t, _, 1, nv y, rfl, rfl, .of (u1 _ _ ht), rfl, line_le (Nat.le_of_ble_eq_true rfl), fun p2 n2 => ⟨p1, p2, _, _, rfl, rfl, same_new n2 _ _ h1, upd_same, line_le (by rw [nvs_length, List.length_take]; show _ + 1 ≤ _; omega), fun p3 n3 => ?_⟩⟩
  have u3 : Same H (upd (upd H4 p2 (.lst [nv y])) p3 (.lst (nvs (R.take i) ++ [nv y]))) := (u1.new n2).new n3
  have h3 : (upd (upd H4 p2 (.lst [nv y])) p3 (.lst (nvs (R.take i) ++ [nv y]))) p3 = some (.lst (nvs (R.take i ++ [y]))) := by rw [upd_same, nvs_append]; rfl
  generalize upd (upd H4 p2 (.lst [nv y])) p3 (.lst (nvs (R.take i) ++ [nv y])) = H5 at u3 h3
  refine ⟨.ref r, rfl, .ref t, rfl, t, _, 0, nv i, rfl, rfl, .of (u3 _ _ ht), rfl, (i : Int), 1, rfl, rfl, _, rfl, r, _, rfl, .of (u3 _ _ hr), fun p4 n4 => ?_⟩
  have e2 : cutV (nvs R) (some ((i : Int) + 1)) none = nvs (R.drop (i + 1)) := cut_from nv R (i + 1)
  rw [e2]
  have u4 := u3.new (o := .lst (nvs (R.drop (i + 1)))) n4
  have h4 : (upd H5 p4 (.lst (nvs (R.drop (i + 1))))) p4 = some (.lst (nvs (R.drop (i + 1)))) := upd_same
  have h34 := same_new (o := .lst (nvs (R.drop (i + 1)))) n4 _ _ h3
  generalize upd H5 p4 (.lst (nvs (R.drop (i + 1)))) = H6 at u4 h4 h34
  refine ⟨p3, p4, _, _, rfl, rfl, h34, h4, line_le (by rw [nvs_length, nvs_length, List.length_append, List.length_take, List.length_drop]; show _ + 1 + _ ≤ _; omega), fun p5 n5 => ?_⟩
  exact k p5 _ (u4.free n5) (u4.new n5) (by rw [upd_same, ← nvs_append, set_cut hi])
theorem rowOk_set {W : List (List Nat)} {R : List Nat} (F : Form W) (ok : RowOk W R) {m : Nat × Nat} (hm : m ∈ mvs W R) : RowOk W (R.set m.1 m.2) := ⟨by rw [List.length_set]; exact ok.len, fun x hx => by
  rcases List.mem_or_eq_of_mem_set hx with h | h
  · exact ok.lt x h
  · rw [h]
    exact F.lt _ _ ((mem_mvs F).mp hm).2⟩
/-! ### _law_moves_are -/
def sp__law_moves_are (K : PySem.W.Frag) : Sp := fun vs H Q _ => ∃ (a b : Addr) (ms : List (Nat × Nat)), vs = [.ref a, .ref b] ∧ Mvs H a ms ∧ Mvs H b ms ∧ Q (.bl true) H
/-- slots: 0 _law_found, 1 _law_due, 2 _law_move -/
def N__law_moves_are : List Str := ["_law_found", "_law_due_here", "_law_move"]
def t__law_moves_are (K : PySem.W.Frag) : TS :=
    tSeq (tIfS (tOr (tNot (tB (tCB (rIsi K) (tCons (tVar 0) (tCons (tC (.ty "list")) (tNil)))))) (tTest (tOp (rNeD K) (tVar 0) (tVar 1)))) (tRet (tC (.bl false))) (tNext))
    (tSeq (tFor (iList K (tVar 0)) (gName 2) (tSeq (tIfS (tOr (tNot (tB (tCB (rIsi K) (tCons (tVar 2) (tCons (tC (.ty "tuple")) (tNil)))))) (tOr (tNot (tB (tCB (rIsi K) (tCons (tOp (rIxT K) (tVar 2) (tC (.int 0))) (tCons (tC (.ty "int")) (tNil)))))) (tB (tCB (rIsi K) (tCons (tOp (rIxT K) (tVar 2) (tC (.int 0))) (tCons (tC (.ty "bool")) (tNil))))))) (tRet (tC (.bl false))) (tNext))
    (tIfS (tOr (tNot (tB (tCB (rIsi K) (tCons (tOp (rIxT K) (tVar 2) (tC (.int 1))) (tCons (tC (.ty "int")) (tNil)))))) (tB (tCB (rIsi K) (tCons (tOp (rIxT K) (tVar 2) (tC (.int 1))) (tCons (tC (.ty "bool")) (tNil)))))) (tRet (tC (.bl false))) (tNext))))
    (tRet (tC (.bl true))))
theorem r__law_moves_are {K : PySem.W.Frag} (vs : List V) (H : Hp) (Q : VK) (E : XK) (h : sp__law_moves_are K vs H Q E) : t__law_moves_are K { nx := fun _ H' => Q .non H', rt := Q } (start N__law_moves_are vs) H := by
  obtain ⟨a, b, ms, rfl, ma, mb, k⟩ := h
  obtain ⟨xs, hx, xl, get⟩ := ma.get
  refine ⟨.ref a, rfl, _, _, _, _, _, rfl, .ty _, .base (.lst hx), kit_ty kLL, true, rfl, iteF ⟨.ref a, rfl, .ref b, rfl, dMvs ms, dMvs ms, ma.dp, mb.dp, sh_mvs ms, sh_mvs ms, false, notT (mvs_refl ms), iteF ?_⟩⟩
  refine ⟨.ref a, rfl, a, rfl, ⟨_, .of hx⟩, for_list (xs := xs) (fun i σ H1 => ∃ y2 : Option V, σ = [some (.ref a), some (.ref b), y2] ∧ H1 = H) ⟨none, rfl, rfl⟩ (fun i σ H1 _ hP => ?_) (fun i x σ H1 hi hP => ?_) (fun σ H1 hP => ?_)⟩
  · obtain ⟨_, _, rfl⟩ := hP
    exact .of hx
  · obtain ⟨y2, rfl, rfl⟩ := hP
    have hil := (List.getElem?_eq_some_iff.mp hi).1
    obtain ⟨p, hp, ht⟩ := get i _ (List.getElem?_eq_getElem (by omega))
    rw [hi] at hp
    have ex : x = V.ref p := Option.some.inj hp
    subst ex
    generalize ms[i]'(by omega) = m at ht
    refine ⟨.ref p, rfl, _, _, _, _, _, rfl, .ty _, .base (.tup ht), kit_ty kTT, true, rfl, iteF ⟨.ref p, rfl, p, _, 0, nv m.1, rfl, rfl, .of ht, rfl, _, _, _, _, _, rfl, .ty _, .base (.int _), kit_ty kII, true, rfl, iteF ⟨.ref p, rfl, p, _, 0, nv m.1, rfl, rfl, .of ht, rfl, _, _, _, _, _, rfl, .ty _, .base (.int _), kit_ty kIB, false, rfl, iteF ?_⟩⟩⟩
    exact ⟨.ref p, rfl, p, _, 1, nv m.2, rfl, rfl, .of ht, rfl, _, _, _, _, _, rfl, .ty _, .base (.int _), kit_ty kII, true, rfl, iteF ⟨.ref p, rfl, p, _, 1, nv m.2, rfl, rfl, .of ht, rfl, _, _, _, _, _, rfl, .ty _, .base (.int _), kit_ty kIB, false, rfl, iteF ⟨_, rfl, rfl⟩⟩⟩
  · obtain ⟨_, rfl, rfl⟩ := hP
    exact k
end Sp

namespace Sp
open PySem PySem.Spec PyProof.Rows L2
abbrev exNs : List Str := ["NoWeb", "Ringed", "NoRow", "NoMove"]
theorem cmul_small {i j : Int} (h1 : 0 ≤ i) (h2 : i ≤ 1000) (h3 : 0 ≤ j) (h4 : j ≤ 1000) : CMul i j := .inl ⟨by omega, by omega⟩
/-- a comprehension over a range whose items are any numbers below n -/
theorem lcRany {te : TE} {σ : L2.St} {H : Hp} {j : Nat} {P : Addr → Hp → Prop} {m : Nat} (ok : Nat → Prop) (hz : m ≤ 40000)
    (step : ∀ i < m, ∀ (H1 : Hp) (Qy : VK), Same H H1 → (∀ x H2, ok x → Same H1 H2 → Qy (nv x) H2) → te (σ.set j (some (nv i))) H1 Qy)
    (done : ∀ D H1 (R : List Nat), R.length = m → (∀ x ∈ R, ok x) → H D = none → Same H H1 → H1 D = some (.lst (nvs R)) → P D H1) :
    ∀ D, H D = none → ∃ W : Nat → Nat → Hp → Prop, (∃ k, W 0 k (upd H D (.lst []))) ∧ ∀ i k H, W i k H →
      ((Itr 0 m).stop i H ∧ P D H) ∨ ((Itr 0 m).go i H ∧ ∃ Nx : Hp → Prop, (∀ H', Nx H' → ∃ k', k' < k ∧ W (i + 1) k' H') ∧ ∀ x H', (Itr 0 m).yld i H x H' → gName j x (wipe σ [j]) H' fun σ2 H2 => wipe σ2 [j] = wipe σ [j] ∧ tYes σ2 H2 fun b H3 =>
        if b = true then te σ2 H3 fun y H4 => ∃ acc, H4 D = some (.lst acc) ∧ acc.length < sizeLine ∧ Nx (upd H4 D (.lst (acc ++ [y]))) else Nx H3) := by
  intro D hD
  refine lc_range (fun i H' => Same H H' ∧ ∃ R : List Nat, R.length = i ∧ (∀ x ∈ R, ok x) ∧ H' D = some (.lst (nvs R))) ⟨same_new hD, [], rfl, fun x h => (by cases h), upd_same⟩ (fun i H' hi p => ?_) (fun H' p => ?_)
  · refine ⟨wipe1 _ _ _, ?_⟩
    show te ((wipe σ [j]).set j (some (.int ((0 : Int) + (i : Int))))) H' _
    rw [Int.zero_add, wipe1b]
    obtain ⟨s1, R, hl, hR, hd⟩ := p
    refine step i hi H' _ s1 (fun x H2 hx s2 => ⟨_, s2 D _ hd, line_lt (by rw [nvs_length]; omega), (s1.trans s2).mut hD, R ++ [x], by rw [List.length_append, hl]; rfl, fun y hy => ?_, by rw [upd_same, nvs_append]; rfl⟩)
    rcases List.mem_append.mp hy with h | h
    · exact hR y h
    · rw [List.mem_singleton.mp h]
      exact hx
  · obtain ⟨s1, R, hl, hR, hd⟩ := p
    exact done D H' R hl hR hD s1 hd
/-! ### web and row in a list, as data -/
theorem _root_.Sp.Flt.mono {d e : Nat} {x : PyData} (h : Flt d x) (he : d ≤ e) : Flt e x := ⟨h.1, Nat.le_trans h.2 he⟩
theorem flt_of {d : Nat} (l : List PyData) (h : ∀ x ∈ l, Flt d x) : Flt (d + 1) (.list l) := by
  have := flt_list (fun x : PyData => x) l h
  rwa [List.map_id'] at this
def dWR (W : List (List Nat)) (R : List Nat) : PyData := .list [dWeb W, dNs R]
theorem flt_dWR (W : List (List Nat)) (R : List Nat) : Flt 4 (dWR W R) := flt_of _ fun x hx => by
  rcases List.mem_cons.mp hx with e | hx
  · rw [e]; exact flt_web W
  · rw [List.mem_singleton.mp hx]; exact (flt_ns R).mono (by decide)
theorem sh_dWR (W : List (List Nat)) (R : List Nat) : SeqAt.shaped (dWR W R) = true := (flt_dWR W R).shaped (by decide)
theorem dWR_refl (W : List (List Nat)) (R : List Nat) : PyData.eqv (dWR W R) (dWR W R) = true := (flt_dWR W R).refl
theorem dp_dWR {K : PySem.W.Frag} {H : Hp} {p a r : Addr} {W : List (List Nat)} {R : List Nat} (hp : H p = some (.lst [.ref a, .ref r])) (w : Web H a W) (hr : H r = some (.lst (nvs R))) : Dp K H (.ref p) (dWR W R) :=
  .lst (.of hp) (.cons w.dp (.cons (dp_ns (.of hr)) .nil))
theorem mod_pick (c : Int) {n : Nat} (h : 0 < n) : ∃ i : Nat, i < n ∧ c % (n : Int) = (i : Int) := by
  have p1 := Int.emod_nonneg c (show (n : Int) ≠ 0 by omega)
  have p2 := Int.emod_lt_of_pos c (show (0 : Int) < (n : Int) by omega)
  exact ⟨(c % (n : Int)).toNat, by omega, by omega⟩
theorem Mvs.pick {H : Hp} {a : Addr} {ms : List (Nat × Nat)} (m : Mvs H a ms) (h : ms ≠ []) : ∃ xs : List V, H a = some (.lst xs) ∧ 0 < xs.length ∧ ∀ c : Int, ∃ p k, atI xs (c % (xs.length : Int)) = some (.ref p) ∧ k ∈ ms ∧ H p = some (.tup [nv k.1, nv k.2]) := by
  obtain ⟨xs, hx, xl, get⟩ := m.get
  have hpos : 0 < xs.length := by
    rw [xl]
    exact List.length_pos_iff.mpr h
  refine ⟨xs, hx, hpos, fun c => ?_⟩
  obtain ⟨i, hi, e⟩ := mod_pick c hpos
  have hm : ms[i]? = some (ms[i]'(by omega)) := List.getElem?_eq_getElem (by omega)
  obtain ⟨p, hp, ht⟩ := get i _ hm
  exact ⟨p, _, by rw [e]; exact atI_nat hp, List.mem_of_getElem? hm, ht⟩
/-! ### played: a move, or NoMove -/
def sp_played (K : PySem.W.Frag) : Sp := fun vs H Q E => ∃ (a r t : Addr) (W : List (List Nat)) (R : List Nat) (m : Nat × Nat), vs = [.ref a, .ref r, .ref t] ∧ Web H a W ∧ Good W ∧ H r = some (.lst (nvs R)) ∧ RowOk W R ∧ H t = some (.tup [nv m.1, nv m.2]) ∧ m.1 < R.length ∧ m.2 < W.length ∧
  (m.2 ∈ row W (R.getD m.1 0) → ∀ (p : Addr) (H' : Hp), H p = none → Same H H' → H' p = some (.lst (nvs (R.set m.1 m.2))) → Q (.ref p) H') ∧ (m.2 ∉ row W (R.getD m.1 0) → ∀ H', Same H H' → E (.ref (He.ga K "NoMove")) none H')
/-- slots: 0 web, 1 row, 2 move -/
def N_played : List Str := ["web", "row", "move"]
def t_played (K : PySem.W.Frag) (E : XK) : TS :=
    tSeq (tDrop (tCall (sp_need_game K) [] E0 (tCons (tVar 0) (tNil))))
    (tSeq (tDrop (tCall (sp_need_row K) [] E0 (tCons (tVar 0) (tCons (tVar 1) (tNil)))))
    (tSeq (tIfS (tNot (tB (tCall (sp_is_move K) [] E0 (tCons (tVar 0) (tCons (tVar 1) (tCons (tVar 2) (tNil))))))) (tRaiseC E (.ref (He.ga K "NoMove"))) (tNext))
    (tRet (tCall (sp_behind K) [] E0 (tCons (tVar 1) (tCons (tVar 2) (tNil)))))))
theorem r_played {K : PySem.W.Frag} (vs : List V) (H : Hp) (Q : VK) (E : XK) (h : sp_played K vs H Q E) : t_played K E { nx := fun _ H' => Q .non H', rt := Q } (start N_played vs) H := by
  obtain ⟨a, r, t, W, R, m, rfl, w, G, hr, ok, ht, m1, m2, k0, k1⟩ := h
  have hlen := ok.len
  refine ⟨.ref a, rfl, a, W, rfl, w, G, fun H1 s1 => ⟨.ref a, rfl, .ref r, rfl, a, r, W, R, rfl, w.same s1, s1 _ _ hr, ok, fun H2 s2 => ?_⟩⟩
  have s12 := s1.trans s2
  refine ⟨.ref a, rfl, .ref r, rfl, .ref t, rfl, a, r, t, W, R, m, rfl, w.same s12, s12 _ _ hr, ok.lt, s12 _ _ ht, m1, m2, decide (m.2 ∈ row W (R.getD m.1 0)), rfl, ite2 (fun c => ?_) (fun c => ?_)⟩
  · refine k1 (fun z => ?_) H2 s12
    rw [decide_eq_true z] at c
    cases c
  · have hm : m.2 ∈ row W (R.getD m.1 0) := Classical.byContradiction fun z => c (by rw [decide_eq_false z]; rfl)
    exact ⟨.ref r, rfl, .ref t, rfl, r, t, R, m, rfl, s12 _ _ hr, by omega, s12 _ _ ht, m1, fun p H3 np s3 hp => k0 hm p H3 (s12.free np) (s12.trans s3) hp⟩
/-! ### _law_refused -/
def sp__law_refused (K : PySem.W.Frag) : Sp := fun vs H Q _ => ∃ (a r t : Addr) (W : List (List Nat)) (R : List Nat) (m : Nat × Nat), vs = [.ref a, .ref r, .ref t] ∧ Web H a W ∧ Good W ∧ H r = some (.lst (nvs R)) ∧ RowOk W R ∧ H t = some (.tup [nv m.1, nv m.2]) ∧ m.1 < R.length ∧ m.2 < W.length ∧ m.2 ∉ row W (R.getD m.1 0) ∧ ∀ H', Same H H' → Q (.bl true) H'
/-- slots: 0 _law_web, 1 _law_row_here, 2 _law_move, 3 error -/
def N__law_refused : List Str := ["_law_web", "_law_row_here", "_law_move", "error"]
def t__law_refused (K : PySem.W.Frag) : TS :=
    tSeq (tTryAs K (.ref (He.ga K "GameError")) 3 (fun W => tDrop (tCallS (sp_played K) (WE W) (tCons (tVar 0) (tCons (tVar 1) (tCons (tVar 2) (tNil)))))) (fun a cls d => tSeq (tIfS (tOr (tB (tCB (rIsX K a cls d) (tCons (tVar 3) (tCons (tC (.ref (He.ga K "NoWeb"))) (tNil))))) (tOr (tB (tCB (rIsX K a cls d) (tCons (tVar 3) (tCons (tC (.ref (He.ga K "NoRow"))) (tNil))))) (tB (tCB (rIsX K a cls d) (tCons (tVar 3) (tCons (tC (.ref (He.ga K "Ringed"))) (tNil))))))) (tRet (tC (.bl false))) (tNext))
    (tRet (tAndV (tCB (rIsX K a cls d) (tCons (tVar 3) (tCons (tC (.ref (He.ga K "NoMove"))) (tNil)))) (tCB (rIsX K a cls d) (tCons (tVar 3) (tCons (tC (.ty "ValueError")) (tNil))))))))
    (tRet (tC (.bl false)))
theorem r__law_refused {K : PySem.W.Frag} (T : XF exNs K) (vs : List V) (H : Hp) (Q : VK) (E : XK) (h : sp__law_refused K vs H Q E) : t__law_refused K { nx := fun _ H' => Q .non H', rt := Q } (start N__law_refused vs) H := by
  obtain ⟨a, r, t, W, R, m, rfl, w, G, hr, ok, ht, m1, m2, hn, k⟩ := h
  have hN : ("NoMove" : Str) ∈ exNs := by decide
  refine ⟨.ref a, rfl, .ref r, rfl, .ref t, rfl, a, r, t, W, R, m, rfl, w, G, hr, ok, ht, m1, m2, fun z => absurd z hn, fun _ H1 s1 => ⟨true, (T _ hN).game, fun _ a0 _ => ?_, fun q => nomatch q⟩⟩
  refine ⟨.ref a0, rfl, isX_own T hN (y := "NoWeb") (by decide) ⟨false, rfl, iteF ⟨.ref a0, rfl, isX_own T hN (y := "NoRow") (by decide) ⟨false, rfl, iteF ⟨.ref a0, rfl, isX_own T hN (y := "Ringed") (by decide) ⟨false, rfl, iteF ?_⟩⟩⟩⟩⟩⟩
  exact ⟨.ref a0, rfl, isX_own T hN hN ⟨true, rfl, iteT ⟨.ref a0, rfl, isX_val T hN (k H1 s1)⟩⟩⟩
/-! ### _law_row, _law_due -/
def sp__law_row (K : PySem.W.Frag) : Sp := fun vs H Q _ => ∃ (a : Addr) (ns : List Int) (n : Nat), vs = [.ref a, nv n] ∧ SqL K H a (ns.map V.int) ∧ 1 ≤ n ∧ ∀ (R : List Nat) (p : Addr) (H' : Hp), R.length ≤ 24 → (∀ x ∈ R, x < n) → H p = none → Same H H' → H' p = some (.lst (nvs R)) → Q (.ref p) H'
/-- slots: 0 _law_script, 1 _law_many, 2 _law_size, 3 _law_k -/
def N__law_row : List Str := ["_law_script", "_law_many", "_law_size", "_law_k"]
def t__law_row (K : PySem.W.Frag) : TS :=
    tSeq (tAsg (tOp rMod (tCall (sp__law_cell_at K) [] E0 (tCons (tVar 0) (tCons (tC (.int 0)) (tNil)))) (tC (.int 7))) (gName 2))
    (tMid (tIfS (tTest (tOp rEq (tOp rMod (tOp rDiv (tCall (sp__law_cell_at K) [] E0 (tCons (tVar 0) (tCons (tC (.int 0)) (tNil)))) (tC (.int 7))) (tC (.int 8))) (tC (.int 1)))) (tAsg (tOp rAdd (tC (.int 18)) (tOp rMod (tCall (sp__law_cell_at K) [] E0 (tCons (tVar 0) (tCons (tC (.int 0)) (tNil)))) (tC (.int 7)))) (gName 2)) (tNext))
    (tRet (tLc (iRng1 (tCons (tVar 2) (tNil))) (gName 3) (tYes) (tOp rMod (tCall (sp__law_mixed K) [] E0 (tCons (tCall (sp__law_cell_at K) [] E0 (tCons (tVar 0) (tCons (tC (.int 1)) (tNil)))) (tCons (tVar 3) (tNil)))) (tVar 1)) [3])))
theorem r__law_row {K : PySem.W.Frag} (vs : List V) (H : Hp) (Q : VK) (E : XK) (h : sp__law_row K vs H Q E) : t__law_row K { nx := fun _ H' => Q .non H', rt := Q } (start N__law_row vs) H := by
  obtain ⟨a, ns, n, rfl, hsc, hn, k⟩ := h
  refine ⟨.ref a, rfl, a, ns, 0, rfl, hsc, Int.le_refl _, fun c => ⟨c, 7, rfl, rfl, (show (0 : Int) < 7 by decide), ?_⟩⟩
  refine ⟨fun σ' H' => ∃ m : Nat, σ' = [some (.ref a), some (nv n), some (nv m), none] ∧ H' = H ∧ m ≤ 24, ?_, ?_⟩
  · refine ⟨.ref a, rfl, a, ns, 0, rfl, hsc, Int.le_refl _, fun c1 => ⟨c1, 7, rfl, rfl, ⟨by decide, by decide⟩, _, 8, rfl, rfl, (show (0 : Int) < 8 by decide), rfl, _, rfl, ite2 (fun _ => ?_) (fun _ => ?_)⟩⟩
    · refine ⟨.ref a, rfl, a, ns, 0, rfl, hsc, Int.le_refl _, fun c2 => ⟨c2, 7, rfl, rfl, (show (0 : Int) < 7 by decide), 18, _, rfl, rfl, (18 + c2 % 7).toNat, ?_, rfl, by omega⟩⟩
      have e : V.int (18 + c2 % 7) = nv (18 + c2 % 7).toNat := congrArg V.int (by omega)
      dsimp only
      rw [e]
      rfl
    · refine ⟨(c % 7).toNat, ?_, rfl, by omega⟩
      have e : V.int (c % 7) = nv (c % 7).toNat := congrArg V.int (by omega)
      dsimp only
      rw [e]
      rfl
  rintro σ' H' ⟨m, rfl, rfl, hm⟩
  refine ⟨nv m, rfl, (m : Int), rfl, by omega, by omega, ?_⟩
  rw [Int.toNat_natCast]
  refine lcRany (m := m) (fun x => x < n) (by omega) (fun i hi H1 Qy s1 hy => ?_) (fun D H1 R hl hR nD s1 hD => k R D H1 (by omega) hR nD s1 hD)
  exact ⟨.ref a, rfl, a, ns, 1, rfl, s1.seq hsc, by decide, fun c1 => ⟨nv i, rfl, c1, (i : Int), rfl, by omega, by omega, fun x => ⟨nv n, rfl, (x : Int), (n : Int), rfl, rfl, (show (0 : Int) < (n : Int) by omega), hy (x % n) H1 (Nat.mod_lt _ (by omega)) (Same.refl _)⟩⟩⟩
def sp__law_due (K : PySem.W.Frag) : Sp := fun vs H Q _ => ∃ (a r : Addr) (W : List (List Nat)) (R : List Nat), vs = [.ref a, .ref r] ∧ Web H a W ∧ Form W ∧ H r = some (.lst (nvs R)) ∧ RowOk W R ∧ ∀ (p : Addr) (H' : Hp), H p = none → Same H H' → Mvs H' p (mvs W R) → (mvs W R).length ≤ 4800 → Q (.ref p) H'
/-- slots: 0 _law_web, 1 _law_row_here, 2 _law_found, 3 _law_place, 4 _law_other -/
def N__law_due : List Str := ["_law_web", "_law_row_here", "_law_found", "_law_place", "_law_other"]
def t__law_due (K : PySem.W.Frag) : TS :=
    tSeq (tAsg (tLst (tNil)) (gName 2))
    (tSeq (tFor (iRng1 (tCons (tCB (rLen K) (tCons (tVar 1) (tNil))) (tNil))) (gName 3) (tFor (iRng1 (tCons (tCB (rLen K) (tCons (tVar 0) (tNil))) (tNil))) (gName 4) (tIfS (tTest (tOp (rIn K false) (tVar 4) (tOp (rIxL K) (tVar 0) (tOp (rIxL K) (tVar 1) (tVar 3))))) (tDrop (tBM K "list" rAppend (tVar 2) (tCons (tTup (tCons (tVar 3) (tCons (tVar 4) (tNil)))) (tNil)))) (tNext))))
    (tRet (tVar 2)))
theorem r__law_due {K : PySem.W.Frag} (vs : List V) (H : Hp) (Q : VK) (E : XK) (h : sp__law_due K vs H Q E) : t__law_due K { nx := fun _ H' => Q .non H', rt := Q } (start N__law_due vs) H := by
  obtain ⟨a, r, W, R, rfl, ⟨q, l⟩, F, hr, ok, k⟩ := h
  have hlen := ok.len
  have hle := F.le
  refine ⟨Nat.zero_le _, fun fA nf => ?_⟩
  have s1 := same_new (o := .lst []) nf
  have M1 : Mvs (upd H fA (.lst [])) fA [] := .nil upd_same
  generalize upd H fA (.lst []) = H1 at s1 M1
  refine ⟨.ref r, rfl, r, _, rfl, .inl (.of (s1 _ _ hr)), _, rfl, by omega, by rw [nvs_length]; omega, ?_⟩
  rw [nvs_length, Int.toNat_natCast]
  refine for_range (fun i σ H3 => ∃ (y3 y4 : Option V), σ = [some (.ref a), some (.ref r), some (.ref fA), y3, y4] ∧ Same H H3 ∧ Mvs H3 fA ((List.range i).flatMap (mvsA W R)))
    ⟨none, none, rfl, s1, M1⟩ (fun i σ H3 hi hP => ?_) (fun σ H3 hP => ?_)
  · obtain ⟨y3, y4, rfl, s3, M3⟩ := hP
    rw [Int.zero_add]
    have hs : R[i]? = some (R.getD i 0) := by rw [List.getD_eq_getElem?_getD, List.getElem?_eq_getElem hi]; rfl
    have hsW := ok.lt _ (List.mem_of_getElem? hs)
    have base := mvsTo_len F R i
    refine ⟨.ref a, rfl, a, _, rfl, .inl (.of (s3 _ _ l.top)), _, rfl, by omega, by rw [refs_len]; omega, ?_⟩
    rw [refs_len, Int.toNat_natCast]
    refine for_range (fun j σ H4 => ∃ y4 : Option V, σ = [some (.ref a), some (.ref r), some (.ref fA), some (nv i), y4] ∧ Same H H4 ∧ Mvs H4 fA ((List.range i).flatMap (mvsA W R) ++ ((List.range j).filter fun x => decide (x ∈ row W (R.getD i 0))).map fun x => (i, x)))
      ⟨y4, rfl, s3, by rw [List.range_zero, List.filter_nil, List.map_nil, List.append_nil]; exact M3⟩ (fun j σ H4 hj hP => ?_) (fun σ H4 hP => ?_)
    · obtain ⟨y4, rfl, s4, M4⟩ := hP
      rw [Int.zero_add]
      have l4 := l.same s4
      refine ⟨nv j, rfl, .ref a, rfl, .ref r, rfl, nv i, rfl, r, _, (i : Int), nv (R.getD i 0), rfl, rfl, .of (s4 _ _ hr), nvs_at hs, a, _, (R.getD i 0 : Int), _, rfl, rfl, .of l4.top, refs_at hsW, q (R.getD i 0), _, rfl, .inl (.of (l4.at_ _ hsW)), rfl, flat_nvs _, decide (j ∈ row W (R.getD i 0)), ?_, ite2 (fun c => ?_) (fun c => ?_)⟩
      · rw [if_neg Bool.false_ne_true, inV_nv]
      · obtain ⟨xs, hxs, xl, grow⟩ := M4.grow
        have fl := List.length_filter_le (fun x => decide (x ∈ row W (R.getD i 0))) (List.range j)
        rw [List.length_range] at fl
        refine ⟨.ref fA, rfl, .inl ⟨rfl, _, .of hxs⟩, nv i, rfl, nv j, rfl, line_le (Nat.le_of_ble_eq_true rfl), fun p np => ?_⟩
        have M7 := grow (upd H4 p (.tup [nv i, nv j])) p (i, j) (same_new np) upd_same
        refine ⟨fA, _, _, rfl, rfl, same_new np _ _ hxs, by rw [xl, List.length_append, List.length_map]; exact line_lt (by omega), some (nv j), rfl, (s4.new np).mut nf, ?_⟩
        rw [List.range_succ, List.filter_append, List.map_append, List.filter_cons, if_pos c, ← List.append_assoc]
        exact M7
      · refine ⟨some (nv j), rfl, s4, ?_⟩
        rw [List.range_succ, List.filter_append, List.filter_cons, if_neg c, List.filter_nil, List.append_nil]
        exact M4
    · obtain ⟨y4, rfl, s4, M4⟩ := hP
      refine ⟨_, y4, rfl, s4, ?_⟩
      rw [flat_step, mvsA]
      exact M4
  · obtain ⟨y3, y4, rfl, s3, M3⟩ := hP
    exact ⟨.ref fA, rfl, k fA H3 nf s3 M3 (by have := mvsTo_len F R R.length; unfold mvs; omega)⟩
theorem min_nat (c : Nat) (n : Nat) : ∃ m : Nat, m ≤ c ∧ m ≤ n ∧ (if ((n : Int)) < (c : Int) then ((n : Int)) else (c : Int)) = (m : Int) := by
  by_cases h : (n : Int) < (c : Int)
  · exact ⟨n, by omega, Nat.le_refl _, if_pos h⟩
  · exact ⟨c, Nat.le_refl _, by omega, if_neg h⟩
def sp_law (K : PySem.W.Frag) : Sp := fun vs H Q _ => ∃ (a : Addr) (ns : List Int), vs = [.ref a] ∧ SqL K H a (ns.map V.int) ∧ ns.length ≤ 63 ∧ (∀ z ∈ ns, Builtin.Int.intBits z ≤ 1048576) ∧ ∀ H', Q (.bl true) H'
/-- slots: 0 _law_script, 1 _law_web, 2 _law_row_here, 3 _law_due_here, 4 _law_handed, 5 _law_found, 6 _law_k, 7 _law_move, 8 _law_after, 9 _law_due_row, 10 _law_place, 11 _law_other -/
def N_law : List Str := ["_law_script", "_law_web", "_law_row_here", "_law_due_here", "_law_handed", "_law_found", "_law_k", "_law_move", "_law_after", "_law_due_row", "_law_place", "_law_other"]
def t_law (K : PySem.W.Frag) : TS :=
    tSeq (tAsg (tCall (sp__law_web_by K) [] E0 (tCons (tVar 0) (tCons (tC (.int 3)) (tNil)))) (gName 1))
    (tSeq (tAsg (tCall (sp__law_row K) [] E0 (tCons (tVar 0) (tCons (tCB (rLen K) (tCons (tVar 1) (tNil))) (tNil)))) (gName 2))
    (tSeq (tAsg (tCall (sp__law_due K) [] E0 (tCons (tVar 1) (tCons (tVar 2) (tNil)))) (gName 3))
    (tSeq (tAsg (tLst (tCons (tCall (sp__law_copied K) [] E0 (tCons (tVar 1) (tNil))) (tCons (tCB (rList K) (tCons (tVar 2) (tNil))) (tNil)))) (gName 4))
    (tSeq (tAsg (tCall (sp_moves_in K) [] E0 (tCons (tOp (rIxL K) (tVar 4) (tC (.int 0))) (tCons (tOp (rIxL K) (tVar 4) (tC (.int 1))) (tNil)))) (gName 5))
    (tSeq (tIfS (tOr (tNot (tB (tCall (sp__law_moves_are K) [] E0 (tCons (tVar 5) (tCons (tVar 3) (tNil)))))) (tTest (tOp (rNeD K) (tVar 4) (tLst (tCons (tVar 1) (tCons (tVar 2) (tNil))))))) (tRet (tC (.bl false))) (tNext))
    (tSeq (tDrop (tBM K "list" rAppend (tVar 5) (tCons (tTup (tCons (tC (.int 0)) (tCons (tC (.int 0)) (tNil)))) (tNil))))
    (tSeq (tFor (iRng1 (tCons (tCB rMin2 (tCons (tC (.int 9)) (tCons (tCB (rLen K) (tCons (tVar 3) (tNil))) (tNil)))) (tNil))) (gName 6) (tSeq (tAsg (tOp (rIxL K) (tVar 3) (tOp rMod (tOp rAdd (tCall (sp__law_cell_at K) [] E0 (tCons (tVar 0) (tCons (tC (.int 2)) (tNil)))) (tOp rMul (tC (.int 7)) (tVar 6))) (tCB (rLen K) (tCons (tVar 3) (tNil))))) (gName 7))
    (tSeq (tAsg (tCall (sp_played K) [] E0 (tCons (tOp (rIxL K) (tVar 4) (tC (.int 0))) (tCons (tOp (rIxL K) (tVar 4) (tC (.int 1))) (tCons (tVar 7) (tNil))))) (gName 8))
    (tSeq (tAsg (tOp rCat (tOp rCat (tSl (rSlL K) (tVar 2) (tNoPart) (tPart (tOp (rIxT K) (tVar 7) (tC (.int 0))))) (tLst (tCons (tOp (rIxT K) (tVar 7) (tC (.int 1))) (tNil)))) (tSl (rSlL K) (tVar 2) (tPart (tOp rAdd (tOp (rIxT K) (tVar 7) (tC (.int 0))) (tC (.int 1)))) (tNoPart))) (gName 9))
    (tSeq (tIfS (tOr (tNot (tB (tCall (sp__law_ints_are K) [] E0 (tCons (tVar 8) (tCons (tVar 9) (tNil)))))) (tTest (tOp (rNeD K) (tVar 4) (tLst (tCons (tVar 1) (tCons (tVar 2) (tNil))))))) (tRet (tC (.bl false))) (tNext))
    (tDrop (tBM K "list" rAppend (tVar 8) (tCons (tC (.int 0)) (tNil)))))))))
    (tSeq (tFor (iRng1 (tCons (tCB rMin2 (tCons (tC (.int 4)) (tCons (tCB (rLen K) (tCons (tVar 2) (tNil))) (tNil)))) (tNil))) (gName 10) (tFor (iRng1 (tCons (tCB rMin2 (tCons (tC (.int 9)) (tCons (tCB (rLen K) (tCons (tVar 1) (tNil))) (tNil)))) (tNil))) (gName 11) (tIfS (tAnd (tTest (tOp (rIn K true) (tVar 11) (tOp (rIxL K) (tVar 1) (tOp (rIxL K) (tVar 2) (tVar 10))))) (tNot (tB (tCall (sp__law_refused K) [] E0 (tCons (tOp (rIxL K) (tVar 4) (tC (.int 0))) (tCons (tOp (rIxL K) (tVar 4) (tC (.int 1))) (tCons (tTup (tCons (tVar 10) (tCons (tVar 11) (tNil)))) (tNil)))))))) (tRet (tC (.bl false))) (tNext))))
    (tRet (tAndV (tCall (sp__law_moves_are K) [] E0 (tCons (tCall (sp_moves_in K) [] E0 (tCons (tOp (rIxL K) (tVar 4) (tC (.int 0))) (tCons (tOp (rIxL K) (tVar 4) (tC (.int 1))) (tNil)))) (tCons (tVar 3) (tNil)))) (tOp (rEqD K) (tVar 4) (tLst (tCons (tVar 1) (tCons (tVar 2) (tNil)))))))))))))))
theorem r_law {K : PySem.W.Frag} (vs : List V) (H : Hp) (Q : VK) (E : XK) (h : sp_law K vs H Q E) : t_law K { nx := fun _ H' => Q .non H', rt := Q } (start N_law vs) H := by
  obtain ⟨a, ns, rfl, hsc, _, _, k⟩ := h
  refine ⟨.ref a, rfl, a, ns, 3, rfl, hsc, by decide, fun W wA H1 G hW40 s1 wN => ?_⟩
  have hWp := G.1.pos
  obtain ⟨q1, l1⟩ := wN.web
  refine ⟨.ref a, rfl, .ref wA, rfl, wA, _, rfl, .inl (.of l1.top), a, ns, W.length, by rw [refs_len]; rfl, s1.seq hsc, hWp, fun R rA H2 hl hR nr s2 hr => ?_⟩
  have ok : RowOk W R := ⟨hl, hR⟩
  have w2 : Web H2 wA W := ⟨q1, l1.same s2⟩
  refine ⟨.ref wA, rfl, .ref rA, rfl, wA, rA, W, R, rfl, w2, G.1, hr, ok, fun dA H3 nd s3 MD dl => ?_⟩
  have w := w2.same s3
  have hr := s3 _ _ hr
  have sc := ((s1.trans s2).trans s3).seq hsc
  clear w2 l1 wN s1 s2 s3 nr
  -- handed
  refine ⟨.ref wA, rfl, wA, W, rfl, w, by omega, fun c1 H4 s4 n4 => ⟨.ref rA, rfl, rA, _, rfl, .inl (.of (s4 _ _ hr)), fun c2 nc2 => ⟨line_le (Nat.le_of_ble_eq_true rfl), fun hA nh => ?_⟩⟩⟩
  have k1 := (n4.web.same (same_new (o := .lst (nvs R)) nc2)).same (same_new (o := .lst [.ref c1, .ref c2]) nh)
  have k2 : (upd (upd H4 c2 (.lst (nvs R))) hA (.lst [.ref c1, .ref c2])) c2 = some (.lst (nvs R)) := same_new nh _ _ upd_same
  have hh : (upd (upd H4 c2 (.lst (nvs R))) hA (.lst [.ref c1, .ref c2])) hA = some (.lst [.ref c1, .ref c2]) := upd_same
  have s5 := (s4.new (o := .lst (nvs R)) nc2).new (o := .lst [.ref c1, .ref c2]) nh
  generalize upd (upd H4 c2 (.lst (nvs R))) hA (.lst [.ref c1, .ref c2]) = H5 at k1 k2 hh s5
  have w := w.same s5
  have sc := s5.seq sc
  have hr := s5 _ _ hr
  have MD := MD.same s5
  clear n4 s4 s5 nc2 nh nd
  have hand : ∀ {H9 : Hp} (_ : Same H5 H9) (p : Addr), H9 p = none → Dp K (upd H9 p (.lst [V.ref wA, V.ref rA])) (.ref hA) (dWR W R) ∧ Dp K (upd H9 p (.lst [V.ref wA, V.ref rA])) (.ref p) (dWR W R) := fun {H9} s9 p np => by
    have sp := s9.new (o := .lst [V.ref wA, V.ref rA]) np
    exact ⟨dp_dWR (sp _ _ hh) (k1.same sp) (sp _ _ k2), dp_dWR upd_same (w.same sp) (sp _ _ hr)⟩
  -- moves_in
  refine ⟨.ref hA, rfl, hA, _, 0, .ref c1, rfl, rfl, .of hh, rfl, .ref hA, rfl, hA, _, 1, .ref c2, rfl, rfl, .of hh, rfl, c1, c2, W, R, rfl, k1, G, k2, ok, fun fA H6 nf s6 MF _ => ?_⟩
  refine ⟨.ref fA, rfl, .ref dA, rfl, fA, dA, mvs W R, rfl, MF, MD.same s6, true, rfl, iteF ?_⟩
  refine ⟨.ref hA, rfl, .ref wA, rfl, .ref rA, rfl, line_le (Nat.le_of_ble_eq_true rfl), fun x nx => ⟨dWR W R, dWR W R, (hand s6 x nx).1, (hand s6 x nx).2, sh_dWR W R, sh_dWR W R, false, notT (dWR_refl W R), iteF ?_⟩⟩
  have s7 := s6.new (o := .lst [V.ref wA, V.ref rA]) nx
  have MF := MF.same (same_new (o := .lst [V.ref wA, V.ref rA]) nx)
  generalize upd H6 x (.lst [V.ref wA, V.ref rA]) = H7 at s7 MF
  obtain ⟨xs, hxs, xl, _⟩ := MF.get
  refine ⟨.ref fA, rfl, .inl ⟨rfl, _, .of hxs⟩, line_le (Nat.le_of_ble_eq_true rfl), fun t nt => ?_⟩
  refine ⟨fA, _, _, rfl, rfl, same_new nt _ _ hxs, by rw [xl]; exact line_lt (by omega), ?_⟩
  have s8 := (s7.new (o := .tup [.int 0, .int 0]) nt).mut (o := .lst (xs ++ [.ref t])) nf
  generalize upd (upd H7 t (.tup [.int 0, .int 0])) fA (.lst (xs ++ [.ref t])) = H8 at s8
  -- each of the first nine
  obtain ⟨ds, hds, dsl, _⟩ := MD.get
  refine ⟨.ref dA, rfl, dA, _, rfl, .inl (.of (s8 _ _ hds)), 9, _, rfl, ?_⟩
  obtain ⟨n9, hn9, hn9b, en9⟩ := min_nat 9 ds.length
  refine ⟨(n9 : Int), congrArg (fun z => [V.int z]) en9, by omega, by omega, ?_⟩
  rw [Int.toNat_natCast]
  refine for_range (fun i σ H9 => ∃ (y6 y7 y8 y9 : Option V), σ = [some (.ref a), some (.ref wA), some (.ref rA), some (.ref dA), some (.ref hA), some (.ref fA), y6, y7, y8, y9, none, none] ∧ Same H5 H9) ⟨none, none, none, none, rfl, s8⟩ (fun i σ H9 hi hP => ?_) (fun σ H9 hP => ?_)
  · clear s8
    obtain ⟨y6, y7, y8, y9, rfl, s9⟩ := hP
    rw [Int.zero_add]
    have hne : mvs W R ≠ [] := fun z => by
      rw [z] at dsl
      have : ds.length = 0 := dsl
      omega
    obtain ⟨ds2, hds2, dpos, pk⟩ := (MD.same s9).pick hne
    refine ⟨.ref dA, rfl, .ref a, rfl, a, ns, 2, rfl, s9.seq sc, by decide, fun c => ⟨nv i, rfl, 7, (i : Int), rfl, rfl, cmul_small (by decide) (by decide) (by omega) (by omega), c, _, rfl, rfl, .ref dA, rfl, dA, _, rfl, .inl (.of hds2), _, _, rfl, rfl, by omega, ?_⟩⟩
    obtain ⟨t, m, hat, hm, ht⟩ := pk (c + 7 * (i : Int))
    obtain ⟨m1, m2⟩ := (mem_mvs G.1).mp hm
    have m2W := G.1.lt _ _ m2
    refine ⟨dA, _, _, _, rfl, rfl, .of hds2, hat, ?_⟩
    refine ⟨.ref hA, rfl, hA, _, 0, .ref c1, rfl, rfl, .of (s9 _ _ hh), rfl, .ref hA, rfl, hA, _, 1, .ref c2, rfl, rfl, .of (s9 _ _ hh), rfl, .ref t, rfl, c1, c2, t, W, R, m, rfl, k1.same s9, G, s9 _ _ k2, ok, ht, m1, m2W, fun _ pA H10 npA s10 hp => ?_, fun z => absurd m2 z⟩
    have s910 := s9.trans s10
    have ht := s10 _ _ ht
    have hr10 := s910 _ _ hr
    clear hat pk hds2
    -- the row behind it
    obtain ⟨mi, my⟩ := m
    dsimp only at ht m1 hp m2 m2W
    refine ⟨.ref rA, rfl, .ref t, rfl, t, _, 0, nv mi, rfl, rfl, .of ht, rfl, (mi : Int), rfl, rA, _, rfl, .of hr10, fun p1 n1 => ?_⟩
    have e1 : cutV (nvs R) none (some (mi : Int)) = nvs (R.take mi) := cut_to nv R mi
    rw [e1]
    have u1 : Same H10 (upd H10 p1 (.lst (nvs (R.take mi)))) := same_new n1
    have h1 : (upd H10 p1 (.lst (nvs (R.take mi)))) p1 = some (.lst (nvs (R.take mi))) := upd_same
    generalize upd H10 p1 (.lst (nvs (R.take mi))) = H11 at u1 h1
    refine ⟨.ref t, rfl, t, _, 1, nv my, rfl, rfl, .of (u1 _ _ ht), rfl, line_le (Nat.le_of_ble_eq_true rfl), fun p2 n2 => ⟨p1, p2, _, _, rfl, rfl, same_new n2 _ _ h1, upd_same, line_le (by rw [nvs_length, List.length_take]; show _ + 1 ≤ _; omega), fun p3 n3 => ?_⟩⟩
    have u3 : Same H10 (upd (upd H11 p2 (.lst [nv my])) p3 (.lst (nvs (R.take mi) ++ [nv my]))) := (u1.new n2).new n3
    have h3 : (upd (upd H11 p2 (.lst [nv my])) p3 (.lst (nvs (R.take mi) ++ [nv my]))) p3 = some (.lst (nvs (R.take mi ++ [my]))) := by rw [upd_same, nvs_append]; rfl
    generalize upd (upd H11 p2 (.lst [nv my])) p3 (.lst (nvs (R.take mi) ++ [nv my])) = H12 at u3 h3
    refine ⟨.ref rA, rfl, .ref t, rfl, t, _, 0, nv mi, rfl, rfl, .of (u3 _ _ ht), rfl, (mi : Int), 1, rfl, rfl, _, rfl, rA, _, rfl, .of (u3 _ _ hr10), fun p4 n4 => ?_⟩
    have e2 : cutV (nvs R) (some ((mi : Int) + 1)) none = nvs (R.drop (mi + 1)) := cut_from nv R (mi + 1)
    rw [e2]
    have u4 := u3.new (o := .lst (nvs (R.drop (mi + 1)))) n4
    have h4 : (upd H12 p4 (.lst (nvs (R.drop (mi + 1))))) p4 = some (.lst (nvs (R.drop (mi + 1)))) := upd_same
    have h34 := same_new (o := .lst (nvs (R.drop (mi + 1)))) n4 _ _ h3
    generalize upd H12 p4 (.lst (nvs (R.drop (mi + 1)))) = H13 at u4 h4 h34
    refine ⟨p3, p4, _, _, rfl, rfl, h34, h4, line_le (by rw [nvs_length, nvs_length, List.length_append, List.length_take, List.length_drop]; show _ + 1 + _ ≤ _; omega), fun p5 n5 => ?_⟩
    have u5 := u4.new (o := .lst (nvs (R.take mi ++ [my]) ++ nvs (R.drop (mi + 1)))) n5
    have h5 : (upd H13 p5 (.lst (nvs (R.take mi ++ [my]) ++ nvs (R.drop (mi + 1))))) p5 = some (.lst (nvs (R.set mi my))) := by rw [upd_same, ← nvs_append, set_cut m1]
    generalize upd H13 p5 (.lst (nvs (R.take mi ++ [my]) ++ nvs (R.drop (mi + 1)))) = H14 at u5 h5
    refine ⟨.ref pA, rfl, .ref p5, rfl, pA, p5, R.set mi my, rfl, u5 _ _ hp, h5, by rw [List.length_set]; omega, fun H15 s15 => ⟨true, rfl, iteF ?_⟩⟩
    have s515 := (s910.trans u5).trans s15
    refine ⟨.ref hA, rfl, .ref wA, rfl, .ref rA, rfl, line_le (Nat.le_of_ble_eq_true rfl), fun x nx => ⟨dWR W R, dWR W R, (hand s515 x nx).1, (hand s515 x nx).2, sh_dWR W R, sh_dWR W R, false, notT (dWR_refl W R), iteF ?_⟩⟩
    have hp16 := same_new (o := .lst [V.ref wA, V.ref rA]) nx _ _ (s15 _ _ (u5 _ _ hp))
    exact ⟨.ref pA, rfl, .inl ⟨rfl, _, .of hp16⟩, pA, _, _, rfl, rfl, hp16, by rw [nvs_length, List.length_set]; exact line_lt (by omega), _, _, _, _, rfl, (s515.new nx).mut (s9.free npA)⟩
  obtain ⟨y6, y7, y8, y9, rfl, s9⟩ := hP
  -- what is refused
  refine ⟨.ref rA, rfl, rA, _, rfl, .inl (.of (s9 _ _ hr)), 4, _, rfl, ?_⟩
  obtain ⟨n4, hn4, hn4b, en4⟩ := min_nat 4 (nvs R).length
  rw [nvs_length] at hn4b
  refine ⟨(n4 : Int), congrArg (fun z => [V.int z]) en4, by omega, by omega, ?_⟩
  rw [Int.toNat_natCast]
  refine for_range (fun i σ H10 => ∃ (y10 y11 : Option V), σ = [some (.ref a), some (.ref wA), some (.ref rA), some (.ref dA), some (.ref hA), some (.ref fA), y6, y7, y8, y9, y10, y11] ∧ Same H5 H10) ⟨none, none, rfl, s9⟩ (fun i σ H10 hi hP => ?_) (fun σ H10 hP => ?_)
  · obtain ⟨y10, y11, rfl, s10⟩ := hP
    rw [Int.zero_add]
    have hiR : i < R.length := by omega
    obtain ⟨q, l⟩ := w.same s10
    refine ⟨.ref wA, rfl, wA, _, rfl, .inl (.of l.top), 9, _, rfl, ?_⟩
    obtain ⟨n5, hn5, hn5b, en5⟩ := min_nat 9 (refs W.length q).length
    rw [refs_len] at hn5b
    refine ⟨(n5 : Int), congrArg (fun z => [V.int z]) en5, by omega, by omega, ?_⟩
    rw [Int.toNat_natCast]
    refine for_range (fun j σ H11 => ∃ y11 : Option V, σ = [some (.ref a), some (.ref wA), some (.ref rA), some (.ref dA), some (.ref hA), some (.ref fA), y6, y7, y8, y9, some (nv i), y11] ∧ Same H5 H11) ⟨y11, rfl, s10⟩ (fun j σ H11 hj hP => ?_) (fun σ H11 hP => ?_)
    · obtain ⟨y11, rfl, s11⟩ := hP
      rw [Int.zero_add]
      have hs : R[i]? = some (R.getD i 0) := by rw [List.getD_eq_getElem?_getD, List.getElem?_eq_getElem hiR]; rfl
      have hsW := ok.lt _ (List.mem_of_getElem? hs)
      obtain ⟨q2, l2⟩ := w.same s11
      have hjW : j < W.length := by omega
      refine ⟨nv j, rfl, .ref wA, rfl, .ref rA, rfl, nv i, rfl, rA, _, (i : Int), nv (R.getD i 0), rfl, rfl, .of (s11 _ _ hr), nvs_at hs, wA, _, (R.getD i 0 : Int), _, rfl, rfl, .of l2.top, refs_at hsW, q2 (R.getD i 0), _, rfl, .inl (.of (l2.at_ _ hsW)), rfl, flat_nvs _, decide (j ∉ row W (R.getD i 0)), ?_, ite2 (fun c => ?_) (fun c => iteF ⟨_, rfl, s11⟩)⟩
      · rw [if_pos rfl, inV_nv, decide_not]
      have hn : j ∉ row W (R.getD i 0) := of_decide_eq_true c
      refine ⟨.ref hA, rfl, hA, _, 0, .ref c1, rfl, rfl, .of (s11 _ _ hh), rfl, .ref hA, rfl, hA, _, 1, .ref c2, rfl, rfl, .of (s11 _ _ hh), rfl, nv i, rfl, nv j, rfl, line_le (Nat.le_of_ble_eq_true rfl), fun t nt => ?_⟩
      have s12 := s11.new (o := .tup [nv i, nv j]) nt
      have ht : (upd H11 t (.tup [nv i, nv j])) t = some (.tup [nv (i, j).1, nv (i, j).2]) := upd_same
      generalize upd H11 t (.tup [nv i, nv j]) = H12 at s12 ht
      exact ⟨c1, c2, t, W, R, (i, j), rfl, k1.same s12, G, s12 _ _ k2, ok, ht, hiR, hjW, hn, fun H13 s13 => ⟨true, rfl, iteF ⟨_, rfl, s12.trans s13⟩⟩⟩
    · obtain ⟨y11, rfl, s11⟩ := hP
      exact ⟨_, _, rfl, s11⟩
  obtain ⟨y10, y11, rfl, s10⟩ := hP
  -- told again
  refine ⟨.ref hA, rfl, hA, _, 0, .ref c1, rfl, rfl, .of (s10 _ _ hh), rfl, .ref hA, rfl, hA, _, 1, .ref c2, rfl, rfl, .of (s10 _ _ hh), rfl, c1, c2, W, R, rfl, k1.same s10, G, s10 _ _ k2, ok, fun gA H11 _ s11 MG _ => ?_⟩
  have s511 := s10.trans s11
  refine ⟨.ref dA, rfl, gA, dA, mvs W R, rfl, MG, MD.same s511, true, rfl, iteT ?_⟩
  refine ⟨.ref hA, rfl, .ref wA, rfl, .ref rA, rfl, line_le (Nat.le_of_ble_eq_true rfl), fun x nx => ⟨dWR W R, dWR W R, (hand s511 x nx).1, (hand s511 x nx).2, sh_dWR W R, sh_dWR W R, ?_⟩⟩
  rw [dWR_refl]
  exact k _
end Sp

namespace Sp
open PySem PySem.Spec PyProof.Rows L2
/-! ### the text -/
def topS (i : Nat) : Stmt := PySem.Challenge.pw_spotsums_k07_moves_in_rows.main.body.getD i (.Pass ⟨0, 0, 0, 0⟩)
/-! _law_cell_at -/
abbrev s__law_cell_at : Stmt := topS 23
theorem sc__law_cell_at : FnScope N__law_cell_at ["_law_script", "_law_k"] (defScope s__law_cell_at) := ⟨rfl, rfl, rfl, by decide +kernel, rfl, by decide +kernel, by decide +kernel⟩
abbrev FN__law_cell_at (K : PySem.W.Frag) (f : Addr) (fd : FuncData) : Prop := FunD K "_law_cell_at" "_law_cell_at" (defArgs s__law_cell_at) (defBody s__law_cell_at) (defScope s__law_cell_at) [] [] f fd
abbrev DF__law_cell_at (P : Program) (w : World) (K : PySem.W.Frag) (mg : Str → Option Value) (base : Heap) : Prop := Df P w K mg base 1 "_law_cell_at" ["_law_script", "_law_k"] (sp__law_cell_at K)
theorem len__law_cell_at {K : PySem.W.Frag} {vs : List V} {H : Hp} {Q : VK} {E : XK} (h : sp__law_cell_at K vs H Q E) : vs.length = 2 := by
  unfold sp__law_cell_at at h
  repeat (first | (obtain ⟨rfl, _⟩ := h; rfl) | obtain ⟨_, h⟩ := h)
theorem ok__law_cell_at {P : Program} {w : World} {K : PySem.W.Frag} {mg : Str → Option Value} {base : Heap} {f : Addr} {fd : FuncData} (B : Blt mg) (T : XT exNs K mg) (F : FN__law_cell_at K f fd) : FnOk P w K mg base CX0 1 f fd ["_law_script", "_law_k"] (sp__law_cell_at K) := by
  have nd := sc__law_cell_at.nd
  refine F.ok sc__law_cell_at (fun vs H Q E h => len__law_cell_at h) (fun cdv A outer s H vs Q E hr h => ⟨t__law_cell_at K, PSs.nox ?_, r__law_cell_at vs H Q E h⟩)
  exact (pss_cons (ps_if (pt_cmpR op_lt (pv 1) (pe_callB call_len_seq (by rfl) B.len PySem.boot_len (pa_cons (pv 0) pa_nil)) (nomark _)) (pss_one (ps_ret (pe_ix ix_list (pv 0) (pv 1) (fun _ _ => rfl)))) pss_nil)
      (pss_one (ps_ret pe_int)))
theorem df__law_cell_at {P : Program} {w : World} {K : PySem.W.Frag} {mg : Str → Option Value} {base : Heap} {f : Addr} {fd : FuncData} (B : Blt mg) (T : XT exNs K mg) (F : FN__law_cell_at K f fd) (g : mg "_law_cell_at" = some (.ref f)) : DF__law_cell_at P w K mg base :=
  ⟨f, fd, ok__law_cell_at B T F, g, F.kp, F.bindsN fun _ _ _ _ _ _ us hl => match us, hl with | [_, _], _ => rfl⟩
/-! _law_mixed -/
abbrev s__law_mixed : Stmt := topS 24
theorem sc__law_mixed : FnScope N__law_mixed ["_law_cell", "_law_k"] (defScope s__law_mixed) := ⟨rfl, rfl, rfl, by decide +kernel, rfl, by decide +kernel, by decide +kernel⟩
abbrev FN__law_mixed (K : PySem.W.Frag) (f : Addr) (fd : FuncData) : Prop := FunD K "_law_mixed" "_law_mixed" (defArgs s__law_mixed) (defBody s__law_mixed) (defScope s__law_mixed) [] [] f fd
abbrev DF__law_mixed (P : Program) (w : World) (K : PySem.W.Frag) (mg : Str → Option Value) (base : Heap) : Prop := Df P w K mg base 1 "_law_mixed" ["_law_cell", "_law_k"] (sp__law_mixed K)
theorem len__law_mixed {K : PySem.W.Frag} {vs : List V} {H : Hp} {Q : VK} {E : XK} (h : sp__law_mixed K vs H Q E) : vs.length = 2 := by
  unfold sp__law_mixed at h
  repeat (first | (obtain ⟨rfl, _⟩ := h; rfl) | obtain ⟨_, h⟩ := h)
theorem ok__law_mixed {P : Program} {w : World} {K : PySem.W.Frag} {mg : Str → Option Value} {base : Heap} {f : Addr} {fd : FuncData} (B : Blt mg) (T : XT exNs K mg) (F : FN__law_mixed K f fd) : FnOk P w K mg base CX0 1 f fd ["_law_cell", "_law_k"] (sp__law_mixed K) := by
  have nd := sc__law_mixed.nd
  refine F.ok sc__law_mixed (fun vs H Q E h => len__law_mixed h) (fun cdv A outer s H vs Q E hr h => ⟨t__law_mixed K, PSs.nox ?_, r__law_mixed vs H Q E h⟩)
  exact (pss_cons (ps_set (i := 2) nd rfl (.inl rfl) (pe_op op_mod (pe_op op_mul (pe_op op_add (pe_op op_mod (pv 0) pe_int) pe_int) pe_int) pe_int))
      (pss_cons (ps_set (i := 2) nd rfl (.inl rfl) (pe_op op_mod (pe_op op_mul (pe_op op_add (pv 2) (pv 1)) (pe_op op_add (pe_op op_mul (pv 1) (pv 1)) pe_int)) pe_int))
      (pss_one (ps_ret (pe_op op_fdiv (pe_op op_mod (pe_op op_mul (pv 2) pe_int) pe_int) pe_int)))))
theorem df__law_mixed {P : Program} {w : World} {K : PySem.W.Frag} {mg : Str → Option Value} {base : Heap} {f : Addr} {fd : FuncData} (B : Blt mg) (T : XT exNs K mg) (F : FN__law_mixed K f fd) (g : mg "_law_mixed" = some (.ref f)) : DF__law_mixed P w K mg base :=
  ⟨f, fd, ok__law_mixed B T F, g, F.kp, F.bindsN fun _ _ _ _ _ _ us hl => match us, hl with | [_, _], _ => rfl⟩
/-! _law_order_by -/
abbrev s__law_order_by : Stmt := topS 25
theorem sc__law_order_by : FnScope N__law_order_by ["_law_cell", "_law_many"] (defScope s__law_order_by) := ⟨rfl, rfl, rfl, by decide +kernel, rfl, by decide +kernel, by decide +kernel⟩
abbrev FN__law_order_by (K : PySem.W.Frag) (f : Addr) (fd : FuncData) : Prop := FunD K "_law_order_by" "_law_order_by" (defArgs s__law_order_by) (defBody s__law_order_by) (defScope s__law_order_by) [] [] f fd
abbrev DF__law_order_by (P : Program) (w : World) (K : PySem.W.Frag) (mg : Str → Option Value) (base : Heap) : Prop := Df P w K mg base 2 "_law_order_by" ["_law_cell", "_law_many"] (sp__law_order_by K)
theorem len__law_order_by {K : PySem.W.Frag} {vs : List V} {H : Hp} {Q : VK} {E : XK} (h : sp__law_order_by K vs H Q E) : vs.length = 2 := by
  unfold sp__law_order_by at h
  repeat (first | (obtain ⟨rfl, _⟩ := h; rfl) | obtain ⟨_, h⟩ := h)
theorem ok__law_order_by {P : Program} {w : World} {K : PySem.W.Frag} {mg : Str → Option Value} {base : Heap} {f : Addr} {fd : FuncData} (B : Blt mg) (T : XT exNs K mg) (D__law_mixed : DF__law_mixed P w K mg base) (F : FN__law_order_by K f fd) : FnOk P w K mg base CX0 2 f fd ["_law_cell", "_law_many"] (sp__law_order_by K) := by
  have nd := sc__law_order_by.nd
  refine F.ok sc__law_order_by (fun vs H Q E h => len__law_order_by h) (fun cdv A outer s H vs Q E hr h => ⟨t__law_order_by K, PSs.nox ?_, r__law_order_by vs H Q E h⟩)
  exact (pss_cons (ps_set (i := 2) nd rfl (.inl rfl) (pe_listRg rfl (by rfl) B.list (prg_1 (by rfl) B.range (pv 1))))
      (pss_cons (ps_set (i := 3) nd rfl (.inl rfl) (pe_lst pa_nil))
      (pss_cons (ps_for PassesOwn.never rfl (pi_range1 (by rfl) B.range (pa_cons (pv 1) pa_nil)) (pg_name (i := 4) nd rfl (.inl rfl)) (pss_one (ps_expr (pe_bm PySem.F.plainAttrs_list PySem.F.slot_list_append PySem.F.type_list_append mt_append (pv 3) (pa_cons (pe_bm PySem.F.plainAttrs_list PySem.F.slot_list_pop PySem.F.type_list_pop mt_popAt (pv 2) (pa_cons (pe_op op_mod (pe_cd D__law_mixed (hr.mono (by decide)) (by rfl) (pa_cons (pv 0) (pa_cons (pv 4) pa_nil))) (pe_callB call_len_seq (by rfl) B.len PySem.boot_len (pa_cons (pv 2) pa_nil))) pa_nil)) pa_nil)))))
      (pss_one (ps_ret (pv 3))))))
theorem df__law_order_by {P : Program} {w : World} {K : PySem.W.Frag} {mg : Str → Option Value} {base : Heap} {f : Addr} {fd : FuncData} (B : Blt mg) (T : XT exNs K mg) (D__law_mixed : DF__law_mixed P w K mg base) (F : FN__law_order_by K f fd) (g : mg "_law_order_by" = some (.ref f)) : DF__law_order_by P w K mg base :=
  ⟨f, fd, ok__law_order_by B T D__law_mixed F, g, F.kp, F.bindsN fun _ _ _ _ _ _ us hl => match us, hl with | [_, _], _ => rfl⟩
/-! _law_web_by -/
abbrev s__law_web_by : Stmt := topS 26
theorem sc__law_web_by : FnScope N__law_web_by ["_law_script", "_law_at"] (defScope s__law_web_by) := ⟨rfl, rfl, rfl, by decide +kernel, rfl, by decide +kernel, by decide +kernel⟩
abbrev FN__law_web_by (K : PySem.W.Frag) (f : Addr) (fd : FuncData) : Prop := FunD K "_law_web_by" "_law_web_by" (defArgs s__law_web_by) (defBody s__law_web_by) (defScope s__law_web_by) [] [] f fd
abbrev DF__law_web_by (P : Program) (w : World) (K : PySem.W.Frag) (mg : Str → Option Value) (base : Heap) : Prop := Df P w K mg base 3 "_law_web_by" ["_law_script", "_law_at"] (sp__law_web_by K)
theorem len__law_web_by {K : PySem.W.Frag} {vs : List V} {H : Hp} {Q : VK} {E : XK} (h : sp__law_web_by K vs H Q E) : vs.length = 2 := by
  unfold sp__law_web_by at h
  repeat (first | (obtain ⟨rfl, _⟩ := h; rfl) | obtain ⟨_, h⟩ := h)
theorem ok__law_web_by {P : Program} {w : World} {K : PySem.W.Frag} {mg : Str → Option Value} {base : Heap} {f : Addr} {fd : FuncData} (B : Blt mg) (T : XT exNs K mg) (D__law_cell_at : DF__law_cell_at P w K mg base) (D__law_order_by : DF__law_order_by P w K mg base) (D__law_mixed : DF__law_mixed P w K mg base) (F : FN__law_web_by K f fd) : FnOk P w K mg base CX0 3 f fd ["_law_script", "_law_at"] (sp__law_web_by K) := by
  have nd := sc__law_web_by.nd
  refine F.ok sc__law_web_by (fun vs H Q E h => len__law_web_by h) (fun cdv A outer s H vs Q E hr h => ⟨t__law_web_by K, PSs.nox ?_, r__law_web_by vs H Q E h⟩)
  exact (pss_cons (ps_set (i := 2) nd rfl (.inl rfl) (pe_op op_add pe_int (pe_op op_mod (pe_cd D__law_cell_at (hr.mono (by decide)) (by rfl) (pa_cons (pv 0) (pa_cons (pv 1) pa_nil))) pe_int)))
      (pss_mid (ps_if (pt_cmpR op_eq (pe_op op_mod (pe_cd D__law_cell_at (hr.mono (by decide)) (by rfl) (pa_cons (pv 0) (pa_cons (pe_op op_add (pv 1) pe_int) pa_nil))) pe_int) pe_int (nomark _)) (pss_one (ps_set (i := 2) nd rfl (.inl rfl) (pe_op op_add pe_int (pe_op op_mod (pe_cd D__law_cell_at (hr.mono (by decide)) (by rfl) (pa_cons (pv 0) (pa_cons (pv 1) pa_nil))) pe_int)))) pss_nil)
      (pss_cons (ps_set (i := 3) nd rfl (.inl rfl) (pe_cd D__law_order_by (hr.mono (by decide)) (by rfl) (pa_cons (pe_cd D__law_cell_at (hr.mono (by decide)) (by rfl) (pa_cons (pv 0) (pa_cons (pe_op op_add (pv 1) pe_int) pa_nil))) (pa_cons (pv 2) pa_nil))))
      (pss_cons (ps_set (i := 4) nd rfl (.inl rfl) (pe_op op_add pe_int (pe_op op_mod (pe_op op_fdiv (pe_cd D__law_cell_at (hr.mono (by decide)) (by rfl) (pa_cons (pv 0) (pa_cons (pe_op op_add (pv 1) pe_int) pa_nil))) pe_int) pe_int)))
      (pss_cons (ps_setLc (i := 5) (own := [("_law_spot", 8)]) (g := gName 8) rfl nd rfl rfl (sw_true rfl rfl rfl (by decide +kernel)) (pi_list (pv 3)) (blkOk_by (N := N__law_web_by) (sc := defScope s__law_web_by) (by decide +kernel)) (fun _ _ _ _ _ => pg_name (i := 8) nd rfl (.inl rfl)) (fun _ _ _ _ _ => pts_nil) (fun _ _ _ _ _ => (pe_lst pa_nil)))
      (pss_cons (ps_for PassesOwn.never rfl (pi_range1 (by rfl) B.range (pa_cons (pv 2) pa_nil)) (pg_name (i := 6) nd rfl (.inl rfl)) (pss_cons (ps_for PassesOwn.never rfl (pi_range1 (by rfl) B.range (pa_cons (pv 6) pa_nil)) (pg_name (i := 7) nd rfl (.inl rfl)) (pss_one (ps_if (pt_cmpR op_eq (pe_op op_mod (pe_cd D__law_mixed (hr.mono (by decide)) (by rfl) (pa_cons (pe_cd D__law_cell_at (hr.mono (by decide)) (by rfl) (pa_cons (pv 0) (pa_cons (pe_op op_add (pv 1) pe_int) pa_nil))) (pa_cons (pe_op op_add (pe_op op_mul pe_int (pv 6)) (pv 7)) pa_nil))) (pv 4)) pe_int (nomark _)) (pss_one (ps_expr (pe_bm PySem.F.plainAttrs_list PySem.F.slot_list_append PySem.F.type_list_append mt_append (pe_ix ix_list (pv 5) (pe_ix ix_list (pv 3) (pv 6) (fun _ _ => rfl)) (fun _ _ => rfl)) (pa_cons (pe_ix ix_list (pv 3) (pv 7) (fun _ _ => rfl)) pa_nil)))) pss_nil)))
      (pss_one (ps_if (pt_cmpR op_eq (pe_op op_mod (pe_cd D__law_mixed (hr.mono (by decide)) (by rfl) (pa_cons (pe_cd D__law_cell_at (hr.mono (by decide)) (by rfl) (pa_cons (pv 0) (pa_cons (pe_op op_add (pv 1) pe_int) pa_nil))) (pa_cons (pe_op op_add (pe_op op_mul pe_int (pv 6)) pe_int) pa_nil))) pe_int) pe_int (nomark _)) (pss_one (ps_expr (pe_bm0 PySem.F.plainAttrs_list PySem.F.slot_list_reverse PySem.F.type_list_reverse mt_reverse (pe_ix ix_list (pv 5) (pe_ix ix_list (pv 3) (pv 6) (fun _ _ => rfl)) (fun _ _ => rfl))))) pss_nil))))
      (pss_one (ps_ret (pv 5)))))))))
theorem df__law_web_by {P : Program} {w : World} {K : PySem.W.Frag} {mg : Str → Option Value} {base : Heap} {f : Addr} {fd : FuncData} (B : Blt mg) (T : XT exNs K mg) (D__law_cell_at : DF__law_cell_at P w K mg base) (D__law_order_by : DF__law_order_by P w K mg base) (D__law_mixed : DF__law_mixed P w K mg base) (F : FN__law_web_by K f fd) (g : mg "_law_web_by" = some (.ref f)) : DF__law_web_by P w K mg base :=
  ⟨f, fd, ok__law_web_by B T D__law_cell_at D__law_order_by D__law_mixed F, g, F.kp, F.bindsN fun _ _ _ _ _ _ us hl => match us, hl with | [_, _], _ => rfl⟩
/-! _law_row -/
abbrev s__law_row : Stmt := topS 29
theorem sc__law_row : FnScope N__law_row ["_law_script", "_law_many"] (defScope s__law_row) := ⟨rfl, rfl, rfl, by decide +kernel, rfl, by decide +kernel, by decide +kernel⟩
abbrev FN__law_row (K : PySem.W.Frag) (f : Addr) (fd : FuncData) : Prop := FunD K "_law_row" "_law_row" (defArgs s__law_row) (defBody s__law_row) (defScope s__law_row) [] [] f fd
abbrev DF__law_row (P : Program) (w : World) (K : PySem.W.Frag) (mg : Str → Option Value) (base : Heap) : Prop := Df P w K mg base 2 "_law_row" ["_law_script", "_law_many"] (sp__law_row K)
theorem len__law_row {K : PySem.W.Frag} {vs : List V} {H : Hp} {Q : VK} {E : XK} (h : sp__law_row K vs H Q E) : vs.length = 2 := by
  unfold sp__law_row at h
  repeat (first | (obtain ⟨rfl, _⟩ := h; rfl) | obtain ⟨_, h⟩ := h)
theorem ok__law_row {P : Program} {w : World} {K : PySem.W.Frag} {mg : Str → Option Value} {base : Heap} {f : Addr} {fd : FuncData} (B : Blt mg) (T : XT exNs K mg) (D__law_cell_at : DF__law_cell_at P w K mg base) (D__law_mixed : DF__law_mixed P w K mg base) (F : FN__law_row K f fd) : FnOk P w K mg base CX0 2 f fd ["_law_script", "_law_many"] (sp__law_row K) := by
  have nd := sc__law_row.nd
  refine F.ok sc__law_row (fun vs H Q E h => len__law_row h) (fun cdv A outer s H vs Q E hr h => ⟨t__law_row K, PSs.nox ?_, r__law_row vs H Q E h⟩)
  exact (pss_cons (ps_set (i := 2) nd rfl (.inl rfl) (pe_op op_mod (pe_cd D__law_cell_at (hr.mono (by decide)) (by rfl) (pa_cons (pv 0) (pa_cons pe_int pa_nil))) pe_int))
      (pss_mid (ps_if (pt_cmpR op_eq (pe_op op_mod (pe_op op_fdiv (pe_cd D__law_cell_at (hr.mono (by decide)) (by rfl) (pa_cons (pv 0) (pa_cons pe_int pa_nil))) pe_int) pe_int) pe_int (nomark _)) (pss_one (ps_set (i := 2) nd rfl (.inl rfl) (pe_op op_add pe_int (pe_op op_mod (pe_cd D__law_cell_at (hr.mono (by decide)) (by rfl) (pa_cons (pv 0) (pa_cons pe_int pa_nil))) pe_int)))) pss_nil)
      (pss_one (ps_ret (pe_lc (own := [("_law_k", 3)]) (g := gName 3) rfl nd (pi_range1 (by rfl) B.range (pa_cons (pv 2) pa_nil)) (blkOk_by (N := N__law_row) (sc := defScope s__law_row) (by decide +kernel)) (fun _ _ _ _ _ => pg_name (i := 3) nd rfl (.inl rfl)) (fun _ _ _ _ _ => pts_nil) (fun _ _ _ _ _ => (pe_op op_mod (pe_cd D__law_mixed (hr.mono (by decide)) (by rfl) (pa_cons (pe_cd D__law_cell_at (hr.mono (by decide)) (by rfl) (pa_cons (pv 0) (pa_cons pe_int pa_nil))) (pa_cons (pv 3) pa_nil))) (pv 1))))))))
theorem df__law_row {P : Program} {w : World} {K : PySem.W.Frag} {mg : Str → Option Value} {base : Heap} {f : Addr} {fd : FuncData} (B : Blt mg) (T : XT exNs K mg) (D__law_cell_at : DF__law_cell_at P w K mg base) (D__law_mixed : DF__law_mixed P w K mg base) (F : FN__law_row K f fd) (g : mg "_law_row" = some (.ref f)) : DF__law_row P w K mg base :=
  ⟨f, fd, ok__law_row B T D__law_cell_at D__law_mixed F, g, F.kp, F.bindsN fun _ _ _ _ _ _ us hl => match us, hl with | [_, _], _ => rfl⟩
/-! _law_due -/
abbrev s__law_due : Stmt := topS 30
theorem sc__law_due : FnScope N__law_due ["_law_web", "_law_row_here"] (defScope s__law_due) := ⟨rfl, rfl, rfl, by decide +kernel, rfl, by decide +kernel, by decide +kernel⟩
abbrev FN__law_due (K : PySem.W.Frag) (f : Addr) (fd : FuncData) : Prop := FunD K "_law_due" "_law_due" (defArgs s__law_due) (defBody s__law_due) (defScope s__law_due) [] [] f fd
abbrev DF__law_due (P : Program) (w : World) (K : PySem.W.Frag) (mg : Str → Option Value) (base : Heap) : Prop := Df P w K mg base 1 "_law_due" ["_law_web", "_law_row_here"] (sp__law_due K)
theorem len__law_due {K : PySem.W.Frag} {vs : List V} {H : Hp} {Q : VK} {E : XK} (h : sp__law_due K vs H Q E) : vs.length = 2 := by
  unfold sp__law_due at h
  repeat (first | (obtain ⟨rfl, _⟩ := h; rfl) | obtain ⟨_, h⟩ := h)
theorem ok__law_due {P : Program} {w : World} {K : PySem.W.Frag} {mg : Str → Option Value} {base : Heap} {f : Addr} {fd : FuncData} (B : Blt mg) (T : XT exNs K mg) (F : FN__law_due K f fd) : FnOk P w K mg base CX0 1 f fd ["_law_web", "_law_row_here"] (sp__law_due K) := by
  have nd := sc__law_due.nd
  refine F.ok sc__law_due (fun vs H Q E h => len__law_due h) (fun cdv A outer s H vs Q E hr h => ⟨t__law_due K, PSs.nox ?_, r__law_due vs H Q E h⟩)
  exact (pss_cons (ps_set (i := 2) nd rfl (.inl rfl) (pe_lst pa_nil))
      (pss_cons (ps_for PassesOwn.never rfl (pi_range1 (by rfl) B.range (pa_cons (pe_callB call_len_seq (by rfl) B.len PySem.boot_len (pa_cons (pv 1) pa_nil)) pa_nil)) (pg_name (i := 3) nd rfl (.inl rfl)) (pss_one (ps_for PassesOwn.never rfl (pi_range1 (by rfl) B.range (pa_cons (pe_callB call_len_seq (by rfl) B.len PySem.boot_len (pa_cons (pv 0) pa_nil)) pa_nil)) (pg_name (i := 4) nd rfl (.inl rfl)) (pss_one (ps_if (pt_cmpR op_in_seq (pv 4) (pe_ix ix_list (pv 0) (pe_ix ix_list (pv 1) (pv 3) (fun _ _ => rfl)) (fun _ _ => rfl)) (by rfl)) (pss_one (ps_expr (pe_bm PySem.F.plainAttrs_list PySem.F.slot_list_append PySem.F.type_list_append mt_append (pv 2) (pa_cons (pe_tup (pa_cons (pv 3) (pa_cons (pv 4) pa_nil))) pa_nil)))) pss_nil)))))
      (pss_one (ps_ret (pv 2)))))
theorem df__law_due {P : Program} {w : World} {K : PySem.W.Frag} {mg : Str → Option Value} {base : Heap} {f : Addr} {fd : FuncData} (B : Blt mg) (T : XT exNs K mg) (F : FN__law_due K f fd) (g : mg "_law_due" = some (.ref f)) : DF__law_due P w K mg base :=
  ⟨f, fd, ok__law_due B T F, g, F.kp, F.bindsN fun _ _ _ _ _ _ us hl => match us, hl with | [_, _], _ => rfl⟩
/-! _law_copied -/
abbrev s__law_copied : Stmt := topS 27
theorem sc__law_copied : FnScope N__law_copied ["_law_web"] (defScope s__law_copied) := ⟨rfl, rfl, rfl, by decide +kernel, rfl, by decide +kernel, by decide +kernel⟩
abbrev FN__law_copied (K : PySem.W.Frag) (f : Addr) (fd : FuncData) : Prop := FunD K "_law_copied" "_law_copied" (defArgs s__law_copied) (defBody s__law_copied) (defScope s__law_copied) [] [] f fd
abbrev DF__law_copied (P : Program) (w : World) (K : PySem.W.Frag) (mg : Str → Option Value) (base : Heap) : Prop := Df P w K mg base 1 "_law_copied" ["_law_web"] (sp__law_copied K)
theorem len__law_copied {K : PySem.W.Frag} {vs : List V} {H : Hp} {Q : VK} {E : XK} (h : sp__law_copied K vs H Q E) : vs.length = 1 := by
  unfold sp__law_copied at h
  repeat (first | (obtain ⟨rfl, _⟩ := h; rfl) | obtain ⟨_, h⟩ := h)
theorem ok__law_copied {P : Program} {w : World} {K : PySem.W.Frag} {mg : Str → Option Value} {base : Heap} {f : Addr} {fd : FuncData} (B : Blt mg) (T : XT exNs K mg) (F : FN__law_copied K f fd) : FnOk P w K mg base CX0 1 f fd ["_law_web"] (sp__law_copied K) := by
  have nd := sc__law_copied.nd
  refine F.ok sc__law_copied (fun vs H Q E h => len__law_copied h) (fun cdv A outer s H vs Q E hr h => ⟨t__law_copied K, PSs.nox ?_, r__law_copied vs H Q E h⟩)
  exact (pss_one (ps_ret (pe_lc (own := [("_law_spot", 1)]) (g := gName 1) rfl nd (pi_list (pv 0)) (blkOk_by (N := N__law_copied) (sc := defScope s__law_copied) (by decide +kernel)) (fun _ _ _ _ _ => pg_name (i := 1) nd rfl (.inl rfl)) (fun _ _ _ _ _ => pts_nil) (fun _ _ _ _ _ => (pe_callTy call_list_of (by rfl) B.list (by decide +kernel) (pa_cons (pv 1) pa_nil))))))
theorem df__law_copied {P : Program} {w : World} {K : PySem.W.Frag} {mg : Str → Option Value} {base : Heap} {f : Addr} {fd : FuncData} (B : Blt mg) (T : XT exNs K mg) (F : FN__law_copied K f fd) (g : mg "_law_copied" = some (.ref f)) : DF__law_copied P w K mg base :=
  ⟨f, fd, ok__law_copied B T F, g, F.kp, F.bindsN fun _ _ _ _ _ _ us hl => match us, hl with | [_], _ => rfl⟩
/-! is_number -/
abbrev s_is_number : Stmt := topS 8
theorem sc_is_number : FnScope N_is_number ["thing", "most"] (defScope s_is_number) := ⟨rfl, rfl, rfl, by decide +kernel, rfl, by decide +kernel, by decide +kernel⟩
abbrev FN_is_number (K : PySem.W.Frag) (f : Addr) (fd : FuncData) : Prop := FunD K "is_number" "is_number" (defArgs s_is_number) (defBody s_is_number) (defScope s_is_number) [] [] f fd
abbrev DF_is_number (P : Program) (w : World) (K : PySem.W.Frag) (mg : Str → Option Value) (base : Heap) : Prop := Df P w K mg base 1 "is_number" ["thing", "most"] (sp_is_number K)
theorem len_is_number {K : PySem.W.Frag} {vs : List V} {H : Hp} {Q : VK} {E : XK} (h : sp_is_number K vs H Q E) : vs.length = 2 := by
  unfold sp_is_number at h
  repeat (first | (obtain ⟨rfl, _⟩ := h; rfl) | obtain ⟨_, h⟩ := h)
theorem ok_is_number {P : Program} {w : World} {K : PySem.W.Frag} {mg : Str → Option Value} {base : Heap} {f : Addr} {fd : FuncData} (B : Blt mg) (T : XT exNs K mg) (F : FN_is_number K f fd) : FnOk P w K mg base CX0 1 f fd ["thing", "most"] (sp_is_number K) := by
  have nd := sc_is_number.nd
  refine F.ok sc_is_number (fun vs H Q E h => len_is_number h) (fun cdv A outer s H vs Q E hr h => ⟨t_is_number K, PSs.nox ?_, r_is_number vs H Q E h⟩)
  exact (pss_one (ps_ret (pe_and (pe_callB call_isi (by rfl) B.isinstance (by decide +kernel) (pa_cons (pv 0) (pa_cons (pe_bltn (v := .ty "int") (by rfl) B.int (by decide +kernel) rfl) pa_nil))) (pe_and (pe_not (pe_callB call_isi (by rfl) B.isinstance (by decide +kernel) (pa_cons (pv 0) (pa_cons (pe_bltn (v := .ty "bool") (by rfl) B.bool (by decide +kernel) rfl) pa_nil)))) (pe_one (pe_chain op_le op_le pe_int (pv 0) (pv 1)))))))
theorem df_is_number {P : Program} {w : World} {K : PySem.W.Frag} {mg : Str → Option Value} {base : Heap} {f : Addr} {fd : FuncData} (B : Blt mg) (T : XT exNs K mg) (F : FN_is_number K f fd) (g : mg "is_number" = some (.ref f)) : DF_is_number P w K mg base :=
  ⟨f, fd, ok_is_number B T F, g, F.kp, F.bindsN fun _ _ _ _ _ _ us hl => match us, hl with | [_, _], _ => rfl⟩
/-! is_spot -/
abbrev s_is_spot : Stmt := topS 9
theorem sc_is_spot : FnScope N_is_spot ["thing", "many"] (defScope s_is_spot) := ⟨rfl, rfl, rfl, by decide +kernel, rfl, by decide +kernel, by decide +kernel⟩
abbrev FN_is_spot (K : PySem.W.Frag) (f : Addr) (fd : FuncData) : Prop := FunD K "is_spot" "is_spot" (defArgs s_is_spot) (defBody s_is_spot) (defScope s_is_spot) [] [] f fd
abbrev DF_is_spot (P : Program) (w : World) (K : PySem.W.Frag) (mg : Str → Option Value) (base : Heap) : Prop := Df P w K mg base 2 "is_spot" ["thing", "many"] (sp_is_spot K)
theorem len_is_spot {K : PySem.W.Frag} {vs : List V} {H : Hp} {Q : VK} {E : XK} (h : sp_is_spot K vs H Q E) : vs.length = 2 := by
  unfold sp_is_spot at h
  repeat (first | (obtain ⟨rfl, _⟩ := h; rfl) | obtain ⟨_, h⟩ := h)
theorem ok_is_spot {P : Program} {w : World} {K : PySem.W.Frag} {mg : Str → Option Value} {base : Heap} {f : Addr} {fd : FuncData} (B : Blt mg) (T : XT exNs K mg) (D_is_number : DF_is_number P w K mg base) (F : FN_is_spot K f fd) : FnOk P w K mg base CX0 2 f fd ["thing", "many"] (sp_is_spot K) := by
  have nd := sc_is_spot.nd
  refine F.ok sc_is_spot (fun vs H Q E h => len_is_spot h) (fun cdv A outer s H vs Q E hr h => ⟨t_is_spot K, PSs.nox ?_, r_is_spot vs H Q E h⟩)
  exact (pss_cons (ps_if (PW.pt (pw_or (pt_not (pt_val (pe_callB call_isi (by rfl) B.isinstance (by decide +kernel) (pa_cons (pv 0) (pa_cons (pe_bltn (v := .ty "list") (by rfl) B.list (by decide +kernel) rfl) pa_nil))))) (pw_or1 (pt_not (pt_val (pe_callB (cr_all rfl) (by rfl) B.all (by decide +kernel) (pa_cons (pe_lc (own := [("one", 2)]) (g := gName 2) rfl nd (pi_list (pv 0)) (blkOk_by (N := N_is_spot) (sc := defScope s_is_spot) (by decide +kernel)) (fun _ _ _ _ _ => pg_name (i := 2) nd rfl (.inl rfl)) (fun _ _ _ _ _ => pts_nil) (fun _ _ _ _ _ => (pe_cd D_is_number (hr.mono (by decide)) (by rfl) (pa_cons (pv 2) (pa_cons (pe_op op_sub (pv 1) pe_int) pa_nil))))) pa_nil))))))) (pss_one (ps_ret pe_bl)) pss_nil)
      (pss_one (ps_ret (pe_cmpR op_eq (pe_lenSetN (by rfl) B.len (by rfl) B.set (pv 0)) (pe_callB call_len_seq (by rfl) B.len PySem.boot_len (pa_cons (pv 0) pa_nil)) (nomark _)))))
theorem df_is_spot {P : Program} {w : World} {K : PySem.W.Frag} {mg : Str → Option Value} {base : Heap} {f : Addr} {fd : FuncData} (B : Blt mg) (T : XT exNs K mg) (D_is_number : DF_is_number P w K mg base) (F : FN_is_spot K f fd) (g : mg "is_spot" = some (.ref f)) : DF_is_spot P w K mg base :=
  ⟨f, fd, ok_is_spot B T D_is_number F, g, F.kp, F.bindsN fun _ _ _ _ _ _ us hl => match us, hl with | [_, _], _ => rfl⟩
/-! is_web -/
abbrev s_is_web : Stmt := topS 10
theorem sc_is_web : FnScope N_is_web ["thing"] (defScope s_is_web) := ⟨rfl, rfl, rfl, by decide +kernel, rfl, by decide +kernel, by decide +kernel⟩
abbrev FN_is_web (K : PySem.W.Frag) (f : Addr) (fd : FuncData) : Prop := FunD K "is_web" "is_web" (defArgs s_is_web) (defBody s_is_web) (defScope s_is_web) [] [] f fd
abbrev DF_is_web (P : Program) (w : World) (K : PySem.W.Frag) (mg : Str → Option Value) (base : Heap) : Prop := Df P w K mg base 3 "is_web" ["thing"] (sp_is_web K)
theorem len_is_web {K : PySem.W.Frag} {vs : List V} {H : Hp} {Q : VK} {E : XK} (h : sp_is_web K vs H Q E) : vs.length = 1 := by
  unfold sp_is_web at h
  repeat (first | (obtain ⟨rfl, _⟩ := h; rfl) | obtain ⟨_, h⟩ := h)
theorem ok_is_web {P : Program} {w : World} {K : PySem.W.Frag} {mg : Str → Option Value} {base : Heap} {f : Addr} {fd : FuncData} (B : Blt mg) (T : XT exNs K mg) {tk_MOST_SPOTS : Tok} (c_MOST_SPOTS : mg "MOST_SPOTS" = some (.int 200 tk_MOST_SPOTS)) (D_is_spot : DF_is_spot P w K mg base) (F : FN_is_web K f fd) : FnOk P w K mg base CX0 3 f fd ["thing"] (sp_is_web K) := by
  have nd := sc_is_web.nd
  refine F.ok sc_is_web (fun vs H Q E h => len_is_web h) (fun cdv A outer s H vs Q E hr h => ⟨t_is_web K, PSs.nox ?_, r_is_web vs H Q E h⟩)
  exact (pss_cons (ps_if (PW.pt (pw_or (pt_not (pt_val (pe_callB call_isi (by rfl) B.isinstance (by decide +kernel) (pa_cons (pv 0) (pa_cons (pe_bltn (v := .ty "list") (by rfl) B.list (by decide +kernel) rfl) pa_nil))))) (pw_or1 (pt_not (pt_chain op_le op_le pe_int (pe_callB call_len_seq (by rfl) B.len PySem.boot_len (pa_cons (pv 0) pa_nil)) (pe_glob (by rfl) c_MOST_SPOTS ⟨_, rfl⟩)))))) (pss_one (ps_ret pe_bl)) pss_nil)
      (pss_one (ps_ret (pe_callB (cr_all rfl) (by rfl) B.all (by decide +kernel) (pa_cons (pe_lc (own := [("spot", 1)]) (g := gName 1) rfl nd (pi_list (pv 0)) (blkOk_by (N := N_is_web) (sc := defScope s_is_web) (by decide +kernel)) (fun _ _ _ _ _ => pg_name (i := 1) nd rfl (.inl rfl)) (fun _ _ _ _ _ => pts_nil) (fun _ _ _ _ _ => (pe_cd D_is_spot (hr.mono (by decide)) (by rfl) (pa_cons (pv 1) (pa_cons (pe_callB call_len_seq (by rfl) B.len PySem.boot_len (pa_cons (pv 0) pa_nil)) pa_nil))))) pa_nil)))))
theorem df_is_web {P : Program} {w : World} {K : PySem.W.Frag} {mg : Str → Option Value} {base : Heap} {f : Addr} {fd : FuncData} (B : Blt mg) (T : XT exNs K mg) {tk_MOST_SPOTS : Tok} (c_MOST_SPOTS : mg "MOST_SPOTS" = some (.int 200 tk_MOST_SPOTS)) (D_is_spot : DF_is_spot P w K mg base) (F : FN_is_web K f fd) (g : mg "is_web" = some (.ref f)) : DF_is_web P w K mg base :=
  ⟨f, fd, ok_is_web B T c_MOST_SPOTS D_is_spot F, g, F.kp, F.bindsN fun _ _ _ _ _ _ us hl => match us, hl with | [_], _ => rfl⟩
/-! need_form -/
abbrev s_need_form : Stmt := topS 11
theorem sc_need_form : FnScope N_need_form ["web"] (defScope s_need_form) := ⟨rfl, rfl, rfl, by decide +kernel, rfl, by decide +kernel, by decide +kernel⟩
abbrev FN_need_form (K : PySem.W.Frag) (f : Addr) (fd : FuncData) : Prop := FunD K "need_form" "need_form" (defArgs s_need_form) (defBody s_need_form) (defScope s_need_form) [] [] f fd
abbrev DF_need_form (P : Program) (w : World) (K : PySem.W.Frag) (mg : Str → Option Value) (base : Heap) : Prop := Df P w K mg base 4 "need_form" ["web"] (sp_need_form K)
theorem len_need_form {K : PySem.W.Frag} {vs : List V} {H : Hp} {Q : VK} {E : XK} (h : sp_need_form K vs H Q E) : vs.length = 1 := by
  unfold sp_need_form at h
  repeat (first | (obtain ⟨rfl, _⟩ := h; rfl) | obtain ⟨_, h⟩ := h)
theorem ok_need_form {P : Program} {w : World} {K : PySem.W.Frag} {mg : Str → Option Value} {base : Heap} {f : Addr} {fd : FuncData} (B : Blt mg) (T : XT exNs K mg) (D_is_web : DF_is_web P w K mg base) (F : FN_need_form K f fd) : FnOk P w K mg base CX0 4 f fd ["web"] (sp_need_form K) := by
  have nd := sc_need_form.nd
  refine F.ok sc_need_form (fun vs H Q E h => len_need_form h) (fun cdv A outer s H vs Q E hr h => ⟨t_need_form K, PSs.nox ?_, r_need_form vs H Q E h⟩)
  exact (pss_one (ps_if (pt_not (pt_val (pe_cd D_is_web (hr.mono (by decide)) (by rfl) (pa_cons (pv 0) pa_nil)))) (pss_one ps_never) pss_nil))
theorem df_need_form {P : Program} {w : World} {K : PySem.W.Frag} {mg : Str → Option Value} {base : Heap} {f : Addr} {fd : FuncData} (B : Blt mg) (T : XT exNs K mg) (D_is_web : DF_is_web P w K mg base) (F : FN_need_form K f fd) (g : mg "need_form" = some (.ref f)) : DF_need_form P w K mg base :=
  ⟨f, fd, ok_need_form B T D_is_web F, g, F.kp, F.bindsN fun _ _ _ _ _ _ us hl => match us, hl with | [_], _ => rfl⟩
/-! play_order -/
abbrev s_play_order : Stmt := topS 12
theorem sc_play_order : FnScope N_play_order ["web"] (defScope s_play_order) := ⟨rfl, rfl, rfl, by decide +kernel, rfl, by decide +kernel, by decide +kernel⟩
abbrev FN_play_order (K : PySem.W.Frag) (f : Addr) (fd : FuncData) : Prop := FunD K "play_order" "play_order" (defArgs s_play_order) (defBody s_play_order) (defScope s_play_order) [] [] f fd
abbrev DF_play_order (P : Program) (w : World) (K : PySem.W.Frag) (mg : Str → Option Value) (base : Heap) : Prop := Df P w K mg base 1 "play_order" ["web"] (sp_play_order K)
theorem len_play_order {K : PySem.W.Frag} {vs : List V} {H : Hp} {Q : VK} {E : XK} (h : sp_play_order K vs H Q E) : vs.length = 1 := by
  unfold sp_play_order at h
  repeat (first | (obtain ⟨rfl, _⟩ := h; rfl) | obtain ⟨_, h⟩ := h)
theorem ok_play_order {P : Program} {w : World} {K : PySem.W.Frag} {mg : Str → Option Value} {base : Heap} {f : Addr} {fd : FuncData} (B : Blt mg) (T : XT exNs K mg) (F : FN_play_order K f fd) : FnOk P w K mg base CX0 1 f fd ["web"] (sp_play_order K) := by
  have nd := sc_play_order.nd
  refine F.ok sc_play_order (fun vs H Q E h => len_play_order h) (fun cdv A outer s H vs Q E hr h => ⟨t_play_order K, PSs.nox ?_, r_play_order vs H Q E h⟩)
  exact (pss_cons (ps_set (i := 1) nd rfl (.inr rfl) (pe_lc (own := [("spot", 4)]) (g := gName 4) rfl nd (pi_list (pv 0)) (blkOk_by (N := N_play_order) (sc := defScope s_play_order) (by decide +kernel)) (fun _ _ _ _ _ => pg_name (i := 4) nd rfl (.inl rfl)) (fun _ _ _ _ _ => pts_nil) (fun _ _ _ _ _ => (pe_callB call_len_seq (by rfl) B.len PySem.boot_len (pa_cons (pv 4) pa_nil)))))
      (pss_cons (ps_setLc (i := 2) (own := [("spot", 4)]) (g := gName 4) rfl nd rfl rfl (sw_true rfl rfl rfl (by decide +kernel)) (pi_list (pv 0)) (blkOk_by (N := N_play_order) (sc := defScope s_play_order) (by decide +kernel)) (fun _ _ _ _ _ => pg_name (i := 4) nd rfl (.inl rfl)) (fun _ _ _ _ _ => pts_nil) (fun _ _ _ _ _ => (pe_lst pa_nil)))
      (pss_cons (ps_for PassesOwn.never rfl (pi_enum (by rfl) B.enumerate (pa_cons (pv 0) pa_nil)) (pg_tup rfl (pgs_cons (pg_name (i := 3) nd rfl (.inl rfl)) (pgs_cons (pg_name (i := 4) nd rfl (.inl rfl)) pgs_nil))) (pss_one (ps_for PassesOwn.never rfl (pi_list (pv 4)) (pg_name (i := 5) nd rfl (.inl rfl)) (pss_one (ps_expr (pe_bm PySem.F.plainAttrs_list PySem.F.slot_list_append PySem.F.type_list_append mt_append (pe_ix ix_list (pv 2) (pv 5) (fun _ _ => rfl)) (pa_cons (pv 3) pa_nil)))))))
      (pss_cons (ps_set (i := 6) nd rfl (.inl rfl) (pe_lst pa_nil))
      (pss_cons (ps_setLc (i := 7) (own := [("at", 3)]) (g := gName 3) rfl nd rfl rfl (sw_true rfl rfl rfl (by decide +kernel)) (pi_range1 (by rfl) B.range (pa_cons (pe_callB call_len_seq (by rfl) B.len PySem.boot_len (pa_cons (pv 0) pa_nil)) pa_nil)) (blkOk_by (N := N_play_order) (sc := defScope s_play_order) (by decide +kernel)) (fun _ _ _ _ _ => pg_name (i := 3) nd rfl (.inl rfl)) (fun _ _ _ _ _ => (pts_one (pt_cmpR op_eq (pe_ix ix_list (pv 1) (pv 3) (fun _ _ => rfl)) pe_int (nomark _)))) (fun _ _ _ _ _ => (pv 3)))
      (pss_cons (ps_while PassesOwn.never (pt_cmpR op_gt (pe_callB call_len_seq (by rfl) B.len PySem.boot_len (pa_cons (pv 7) pa_nil)) pe_int (nomark _)) (pss_cons (ps_set (i := 4) nd rfl (.inl rfl) (pe_bm0 PySem.F.plainAttrs_list PySem.F.slot_list_pop PySem.F.type_list_pop mt_pop (pv 7)))
      (pss_cons (ps_expr (pe_bm PySem.F.plainAttrs_list PySem.F.slot_list_append PySem.F.type_list_append mt_append (pv 6) (pa_cons (pv 4) pa_nil)))
      (pss_one (ps_for PassesOwn.never rfl (pi_list (pe_ix ix_list (pv 2) (pv 4) (fun _ _ => rfl))) (pg_name (i := 3) nd rfl (.inl rfl)) (pss_cons (ps_asg (pe_op op_sub (pe_ix ix_list (pv 1) (pv 3) (fun _ _ => rfl)) pe_int) (pg_sub (pv 1) (pv 3) set_list))
      (pss_one (ps_if (pt_cmpR op_eq (pe_ix ix_list (pv 1) (pv 3) (fun _ _ => rfl)) pe_int (nomark _)) (pss_one (ps_expr (pe_bm PySem.F.plainAttrs_list PySem.F.slot_list_append PySem.F.type_list_append mt_append (pv 7) (pa_cons (pv 3) pa_nil)))) pss_nil))))))))
      (pss_one (ps_ret (pv 6)))))))))
theorem df_play_order {P : Program} {w : World} {K : PySem.W.Frag} {mg : Str → Option Value} {base : Heap} {f : Addr} {fd : FuncData} (B : Blt mg) (T : XT exNs K mg) (F : FN_play_order K f fd) (g : mg "play_order" = some (.ref f)) : DF_play_order P w K mg base :=
  ⟨f, fd, ok_play_order B T F, g, F.kp, F.bindsN fun _ _ _ _ _ _ us hl => match us, hl with | [_], _ => rfl⟩
/-! need_game -/
abbrev s_need_game : Stmt := topS 13
theorem sc_need_game : FnScope N_need_game ["web"] (defScope s_need_game) := ⟨rfl, rfl, rfl, by decide +kernel, rfl, by decide +kernel, by decide +kernel⟩
abbrev FN_need_game (K : PySem.W.Frag) (f : Addr) (fd : FuncData) : Prop := FunD K "need_game" "need_game" (defArgs s_need_game) (defBody s_need_game) (defScope s_need_game) [] [] f fd
abbrev DF_need_game (P : Program) (w : World) (K : PySem.W.Frag) (mg : Str → Option Value) (base : Heap) : Prop := Df P w K mg base 5 "need_game" ["web"] (sp_need_game K)
theorem len_need_game {K : PySem.W.Frag} {vs : List V} {H : Hp} {Q : VK} {E : XK} (h : sp_need_game K vs H Q E) : vs.length = 1 := by
  unfold sp_need_game at h
  repeat (first | (obtain ⟨rfl, _⟩ := h; rfl) | obtain ⟨_, h⟩ := h)
theorem ok_need_game {P : Program} {w : World} {K : PySem.W.Frag} {mg : Str → Option Value} {base : Heap} {f : Addr} {fd : FuncData} (B : Blt mg) (T : XT exNs K mg) (D_need_form : DF_need_form P w K mg base) (D_play_order : DF_play_order P w K mg base) (F : FN_need_game K f fd) : FnOk P w K mg base CX0 5 f fd ["web"] (sp_need_game K) := by
  have nd := sc_need_game.nd
  refine F.ok sc_need_game (fun vs H Q E h => len_need_game h) (fun cdv A outer s H vs Q E hr h => ⟨t_need_game K, PSs.nox ?_, r_need_game vs H Q E h⟩)
  exact (pss_cons (ps_expr (pe_cd D_need_form (hr.mono (by decide)) (by rfl) (pa_cons (pv 0) pa_nil)))
      (pss_one (ps_if (pt_cmpR op_lt (pe_callB call_len_seq (by rfl) B.len PySem.boot_len (pa_cons (pe_cd D_play_order (hr.mono (by decide)) (by rfl) (pa_cons (pv 0) pa_nil)) pa_nil)) (pe_callB call_len_seq (by rfl) B.len PySem.boot_len (pa_cons (pv 0) pa_nil)) (nomark _)) (pss_one ps_never) pss_nil)))
theorem df_need_game {P : Program} {w : World} {K : PySem.W.Frag} {mg : Str → Option Value} {base : Heap} {f : Addr} {fd : FuncData} (B : Blt mg) (T : XT exNs K mg) (D_need_form : DF_need_form P w K mg base) (D_play_order : DF_play_order P w K mg base) (F : FN_need_game K f fd) (g : mg "need_game" = some (.ref f)) : DF_need_game P w K mg base :=
  ⟨f, fd, ok_need_game B T D_need_form D_play_order F, g, F.kp, F.bindsN fun _ _ _ _ _ _ us hl => match us, hl with | [_], _ => rfl⟩
/-! need_row -/
abbrev s_need_row : Stmt := topS 16
theorem sc_need_row : FnScope N_need_row ["web", "row"] (defScope s_need_row) := ⟨rfl, rfl, rfl, by decide +kernel, rfl, by decide +kernel, by decide +kernel⟩
abbrev FN_need_row (K : PySem.W.Frag) (f : Addr) (fd : FuncData) : Prop := FunD K "need_row" "need_row" (defArgs s_need_row) (defBody s_need_row) (defScope s_need_row) [] [] f fd
abbrev DF_need_row (P : Program) (w : World) (K : PySem.W.Frag) (mg : Str → Option Value) (base : Heap) : Prop := Df P w K mg base 2 "need_row" ["web", "row"] (sp_need_row K)
theorem len_need_row {K : PySem.W.Frag} {vs : List V} {H : Hp} {Q : VK} {E : XK} (h : sp_need_row K vs H Q E) : vs.length = 2 := by
  unfold sp_need_row at h
  repeat (first | (obtain ⟨rfl, _⟩ := h; rfl) | obtain ⟨_, h⟩ := h)
theorem ok_need_row {P : Program} {w : World} {K : PySem.W.Frag} {mg : Str → Option Value} {base : Heap} {f : Addr} {fd : FuncData} (B : Blt mg) (T : XT exNs K mg) {tk_MOST_GAMES : Tok} (c_MOST_GAMES : mg "MOST_GAMES" = some (.int 24 tk_MOST_GAMES)) (D_is_number : DF_is_number P w K mg base) (F : FN_need_row K f fd) : FnOk P w K mg base CX0 2 f fd ["web", "row"] (sp_need_row K) := by
  have nd := sc_need_row.nd
  refine F.ok sc_need_row (fun vs H Q E h => len_need_row h) (fun cdv A outer s H vs Q E hr h => ⟨t_need_row K, PSs.nox ?_, r_need_row vs H Q E h⟩)
  exact (pss_cons (ps_if (PW.pt (pw_or (pt_not (pt_val (pe_callB call_isi (by rfl) B.isinstance (by decide +kernel) (pa_cons (pv 1) (pa_cons (pe_bltn (v := .ty "list") (by rfl) B.list (by decide +kernel) rfl) pa_nil))))) (pw_or1 (pt_cmpR op_gt (pe_callB call_len_seq (by rfl) B.len PySem.boot_len (pa_cons (pv 1) pa_nil)) (pe_glob (by rfl) c_MOST_GAMES ⟨_, rfl⟩) (nomark _))))) (pss_one ps_never) pss_nil)
      (pss_one (ps_if (pt_not (pt_val (pe_callB (cr_all rfl) (by rfl) B.all (by decide +kernel) (pa_cons (pe_lc (own := [("spot", 2)]) (g := gName 2) rfl nd (pi_list (pv 1)) (blkOk_by (N := N_need_row) (sc := defScope s_need_row) (by decide +kernel)) (fun _ _ _ _ _ => pg_name (i := 2) nd rfl (.inl rfl)) (fun _ _ _ _ _ => pts_nil) (fun _ _ _ _ _ => (pe_cd D_is_number (hr.mono (by decide)) (by rfl) (pa_cons (pv 2) (pa_cons (pe_op op_sub (pe_callB call_len_seq (by rfl) B.len PySem.boot_len (pa_cons (pv 0) pa_nil)) pe_int) pa_nil))))) pa_nil)))) (pss_one ps_never) pss_nil)))
theorem df_need_row {P : Program} {w : World} {K : PySem.W.Frag} {mg : Str → Option Value} {base : Heap} {f : Addr} {fd : FuncData} (B : Blt mg) (T : XT exNs K mg) {tk_MOST_GAMES : Tok} (c_MOST_GAMES : mg "MOST_GAMES" = some (.int 24 tk_MOST_GAMES)) (D_is_number : DF_is_number P w K mg base) (F : FN_need_row K f fd) (g : mg "need_row" = some (.ref f)) : DF_need_row P w K mg base :=
  ⟨f, fd, ok_need_row B T c_MOST_GAMES D_is_number F, g, F.kp, F.bindsN fun _ _ _ _ _ _ us hl => match us, hl with | [_, _], _ => rfl⟩
/-! moves_of -/
abbrev s_moves_of : Stmt := topS 17
theorem sc_moves_of : FnScope N_moves_of ["web", "row"] (defScope s_moves_of) := ⟨rfl, rfl, rfl, by decide +kernel, rfl, by decide +kernel, by decide +kernel⟩
abbrev FN_moves_of (K : PySem.W.Frag) (f : Addr) (fd : FuncData) : Prop := FunD K "moves_of" "moves_of" (defArgs s_moves_of) (defBody s_moves_of) (defScope s_moves_of) [] [] f fd
abbrev DF_moves_of (P : Program) (w : World) (K : PySem.W.Frag) (mg : Str → Option Value) (base : Heap) : Prop := Df P w K mg base 1 "moves_of" ["web", "row"] (sp_moves_of K)
theorem len_moves_of {K : PySem.W.Frag} {vs : List V} {H : Hp} {Q : VK} {E : XK} (h : sp_moves_of K vs H Q E) : vs.length = 2 := by
  unfold sp_moves_of at h
  repeat (first | (obtain ⟨rfl, _⟩ := h; rfl) | obtain ⟨_, h⟩ := h)
theorem ok_moves_of {P : Program} {w : World} {K : PySem.W.Frag} {mg : Str → Option Value} {base : Heap} {f : Addr} {fd : FuncData} (B : Blt mg) (T : XT exNs K mg) (F : FN_moves_of K f fd) : FnOk P w K mg base CX0 1 f fd ["web", "row"] (sp_moves_of K) := by
  have nd := sc_moves_of.nd
  refine F.ok sc_moves_of (fun vs H Q E h => len_moves_of h) (fun cdv A outer s H vs Q E hr h => ⟨t_moves_of K, PSs.nox ?_, r_moves_of vs H Q E h⟩)
  exact (pss_cons (ps_set (i := 2) nd rfl (.inl rfl) (pe_lst pa_nil))
      (pss_cons (ps_for PassesOwn.never rfl (pi_enum (by rfl) B.enumerate (pa_cons (pv 1) pa_nil)) (pg_tup rfl (pgs_cons (pg_name (i := 3) nd rfl (.inl rfl)) (pgs_cons (pg_name (i := 4) nd rfl (.inl rfl)) pgs_nil))) (pss_one (ps_for PassesOwn.never rfl (pi_list (pe_callB cr_sortedI (by rfl) B.sorted (by decide +kernel) (pa_cons (pe_ix ix_list (pv 0) (pv 4) (fun _ _ => rfl)) pa_nil))) (pg_name (i := 5) nd rfl (.inl rfl)) (pss_one (ps_expr (pe_bm PySem.F.plainAttrs_list PySem.F.slot_list_append PySem.F.type_list_append mt_append (pv 2) (pa_cons (pe_tup (pa_cons (pv 3) (pa_cons (pv 5) pa_nil))) pa_nil)))))))
      (pss_one (ps_ret (pv 2)))))
theorem df_moves_of {P : Program} {w : World} {K : PySem.W.Frag} {mg : Str → Option Value} {base : Heap} {f : Addr} {fd : FuncData} (B : Blt mg) (T : XT exNs K mg) (F : FN_moves_of K f fd) (g : mg "moves_of" = some (.ref f)) : DF_moves_of P w K mg base :=
  ⟨f, fd, ok_moves_of B T F, g, F.kp, F.bindsN fun _ _ _ _ _ _ us hl => match us, hl with | [_, _], _ => rfl⟩
/-! moves_in -/
abbrev s_moves_in : Stmt := topS 18
theorem sc_moves_in : FnScope N_moves_in ["web", "row"] (defScope s_moves_in) := ⟨rfl, rfl, rfl, by decide +kernel, rfl, by decide +kernel, by decide +kernel⟩
abbrev FN_moves_in (K : PySem.W.Frag) (f : Addr) (fd : FuncData) : Prop := FunD K "moves_in" "moves_in" (defArgs s_moves_in) (defBody s_moves_in) (defScope s_moves_in) [] [] f fd
abbrev DF_moves_in (P : Program) (w : World) (K : PySem.W.Frag) (mg : Str → Option Value) (base : Heap) : Prop := Df P w K mg base 6 "moves_in" ["web", "row"] (sp_moves_in K)
theorem len_moves_in {K : PySem.W.Frag} {vs : List V} {H : Hp} {Q : VK} {E : XK} (h : sp_moves_in K vs H Q E) : vs.length = 2 := by
  unfold sp_moves_in at h
  repeat (first | (obtain ⟨rfl, _⟩ := h; rfl) | obtain ⟨_, h⟩ := h)
theorem ok_moves_in {P : Program} {w : World} {K : PySem.W.Frag} {mg : Str → Option Value} {base : Heap} {f : Addr} {fd : FuncData} (B : Blt mg) (T : XT exNs K mg) (D_need_game : DF_need_game P w K mg base) (D_need_row : DF_need_row P w K mg base) (D_moves_of : DF_moves_of P w K mg base) (F : FN_moves_in K f fd) : FnOk P w K mg base CX0 6 f fd ["web", "row"] (sp_moves_in K) := by
  have nd := sc_moves_in.nd
  refine F.ok sc_moves_in (fun vs H Q E h => len_moves_in h) (fun cdv A outer s H vs Q E hr h => ⟨t_moves_in K, PSs.nox ?_, r_moves_in vs H Q E h⟩)
  exact (pss_cons (ps_expr (pe_cd D_need_game (hr.mono (by decide)) (by rfl) (pa_cons (pv 0) pa_nil)))
      (pss_cons (ps_expr (pe_cd D_need_row (hr.mono (by decide)) (by rfl) (pa_cons (pv 0) (pa_cons (pv 1) pa_nil))))
      (pss_one (ps_ret (pe_cd D_moves_of (hr.mono (by decide)) (by rfl) (pa_cons (pv 0) (pa_cons (pv 1) pa_nil)))))))
theorem df_moves_in {P : Program} {w : World} {K : PySem.W.Frag} {mg : Str → Option Value} {base : Heap} {f : Addr} {fd : FuncData} (B : Blt mg) (T : XT exNs K mg) (D_need_game : DF_need_game P w K mg base) (D_need_row : DF_need_row P w K mg base) (D_moves_of : DF_moves_of P w K mg base) (F : FN_moves_in K f fd) (g : mg "moves_in" = some (.ref f)) : DF_moves_in P w K mg base :=
  ⟨f, fd, ok_moves_in B T D_need_game D_need_row D_moves_of F, g, F.kp, F.bindsN fun _ _ _ _ _ _ us hl => match us, hl with | [_, _], _ => rfl⟩
/-! _law_moves_are -/
abbrev s__law_moves_are : Stmt := topS 31
theorem sc__law_moves_are : FnScope N__law_moves_are ["_law_found", "_law_due_here"] (defScope s__law_moves_are) := ⟨rfl, rfl, rfl, by decide +kernel, rfl, by decide +kernel, by decide +kernel⟩
abbrev FN__law_moves_are (K : PySem.W.Frag) (f : Addr) (fd : FuncData) : Prop := FunD K "_law_moves_are" "_law_moves_are" (defArgs s__law_moves_are) (defBody s__law_moves_are) (defScope s__law_moves_are) [] [] f fd
abbrev DF__law_moves_are (P : Program) (w : World) (K : PySem.W.Frag) (mg : Str → Option Value) (base : Heap) : Prop := Df P w K mg base 1 "_law_moves_are" ["_law_found", "_law_due_here"] (sp__law_moves_are K)
theorem len__law_moves_are {K : PySem.W.Frag} {vs : List V} {H : Hp} {Q : VK} {E : XK} (h : sp__law_moves_are K vs H Q E) : vs.length = 2 := by
  unfold sp__law_moves_are at h
  repeat (first | (obtain ⟨rfl, _⟩ := h; rfl) | obtain ⟨_, h⟩ := h)
theorem ok__law_moves_are {P : Program} {w : World} {K : PySem.W.Frag} {mg : Str → Option Value} {base : Heap} {f : Addr} {fd : FuncData} (B : Blt mg) (T : XT exNs K mg) (F : FN__law_moves_are K f fd) : FnOk P w K mg base CX0 1 f fd ["_law_found", "_law_due_here"] (sp__law_moves_are K) := by
  have nd := sc__law_moves_are.nd
  refine F.ok sc__law_moves_are (fun vs H Q E h => len__law_moves_are h) (fun cdv A outer s H vs Q E hr h => ⟨t__law_moves_are K, PSs.nox ?_, r__law_moves_are vs H Q E h⟩)
  exact (pss_cons (ps_if (PW.pt (pw_or (pt_not (pt_val (pe_callB call_isi (by rfl) B.isinstance (by decide +kernel) (pa_cons (pv 0) (pa_cons (pe_bltn (v := .ty "list") (by rfl) B.list (by decide +kernel) rfl) pa_nil))))) (pw_or1 (pt_cmpR (op_neD hr.units) (pv 0) (pv 1) (nomark _))))) (pss_one (ps_ret pe_bl)) pss_nil)
      (pss_cons (ps_for PassesOwn.never rfl (pi_list (pv 0)) (pg_name (i := 2) nd rfl (.inl rfl)) (pss_cons (ps_if (PW.pt (pw_or (pt_not (pt_val (pe_callB call_isi (by rfl) B.isinstance (by decide +kernel) (pa_cons (pv 2) (pa_cons (pe_bltn (v := .ty "tuple") (by rfl) B.tuple (by decide +kernel) rfl) pa_nil))))) (pw_or (pt_not (pt_val (pe_callB call_isi (by rfl) B.isinstance (by decide +kernel) (pa_cons (pe_ix ix_tup (pv 2) pe_int (fun _ _ => rfl)) (pa_cons (pe_bltn (v := .ty "int") (by rfl) B.int (by decide +kernel) rfl) pa_nil))))) (pw_or1 (pt_val (pe_callB call_isi (by rfl) B.isinstance (by decide +kernel) (pa_cons (pe_ix ix_tup (pv 2) pe_int (fun _ _ => rfl)) (pa_cons (pe_bltn (v := .ty "bool") (by rfl) B.bool (by decide +kernel) rfl) pa_nil)))))))) (pss_one (ps_ret pe_bl)) pss_nil)
      (pss_one (ps_if (PW.pt (pw_or (pt_not (pt_val (pe_callB call_isi (by rfl) B.isinstance (by decide +kernel) (pa_cons (pe_ix ix_tup (pv 2) pe_int (fun _ _ => rfl)) (pa_cons (pe_bltn (v := .ty "int") (by rfl) B.int (by decide +kernel) rfl) pa_nil))))) (pw_or1 (pt_val (pe_callB call_isi (by rfl) B.isinstance (by decide +kernel) (pa_cons (pe_ix ix_tup (pv 2) pe_int (fun _ _ => rfl)) (pa_cons (pe_bltn (v := .ty "bool") (by rfl) B.bool (by decide +kernel) rfl) pa_nil))))))) (pss_one (ps_ret pe_bl)) pss_nil))))
      (pss_one (ps_ret pe_bl))))
theorem df__law_moves_are {P : Program} {w : World} {K : PySem.W.Frag} {mg : Str → Option Value} {base : Heap} {f : Addr} {fd : FuncData} (B : Blt mg) (T : XT exNs K mg) (F : FN__law_moves_are K f fd) (g : mg "_law_moves_are" = some (.ref f)) : DF__law_moves_are P w K mg base :=
  ⟨f, fd, ok__law_moves_are B T F, g, F.kp, F.bindsN fun _ _ _ _ _ _ us hl => match us, hl with | [_, _], _ => rfl⟩
/-! is_move -/
abbrev s_is_move : Stmt := topS 19
theorem sc_is_move : FnScope N_is_move ["web", "row", "move"] (defScope s_is_move) := ⟨rfl, rfl, rfl, by decide +kernel, rfl, by decide +kernel, by decide +kernel⟩
abbrev FN_is_move (K : PySem.W.Frag) (f : Addr) (fd : FuncData) : Prop := FunD K "is_move" "is_move" (defArgs s_is_move) (defBody s_is_move) (defScope s_is_move) [] [] f fd
abbrev DF_is_move (P : Program) (w : World) (K : PySem.W.Frag) (mg : Str → Option Value) (base : Heap) : Prop := Df P w K mg base 2 "is_move" ["web", "row", "move"] (sp_is_move K)
theorem len_is_move {K : PySem.W.Frag} {vs : List V} {H : Hp} {Q : VK} {E : XK} (h : sp_is_move K vs H Q E) : vs.length = 3 := by
  unfold sp_is_move at h
  repeat (first | (obtain ⟨rfl, _⟩ := h; rfl) | obtain ⟨_, h⟩ := h)
theorem ok_is_move {P : Program} {w : World} {K : PySem.W.Frag} {mg : Str → Option Value} {base : Heap} {f : Addr} {fd : FuncData} (B : Blt mg) (T : XT exNs K mg) (D_is_number : DF_is_number P w K mg base) (F : FN_is_move K f fd) : FnOk P w K mg base CX0 2 f fd ["web", "row", "move"] (sp_is_move K) := by
  have nd := sc_is_move.nd
  refine F.ok sc_is_move (fun vs H Q E h => len_is_move h) (fun cdv A outer s H vs Q E hr h => ⟨t_is_move K, PSs.nox ?_, r_is_move vs H Q E h⟩)
  exact (pss_cons (ps_if (PW.pt (pw_or (pt_not (pt_val (pe_callB call_isi (by rfl) B.isinstance (by decide +kernel) (pa_cons (pv 2) (pa_cons (pe_bltn (v := .ty "tuple") (by rfl) B.tuple (by decide +kernel) rfl) pa_nil))))) (pw_or1 (pt_cmpR op_ne (pe_callB call_len_seq (by rfl) B.len PySem.boot_len (pa_cons (pv 2) pa_nil)) pe_int (nomark _))))) (pss_one (ps_ret pe_bl)) pss_nil)
      (pss_cons (ps_if (PW.pt (pw_or (pt_not (pt_val (pe_cd D_is_number (hr.mono (by decide)) (by rfl) (pa_cons (pe_ix ix_tup (pv 2) pe_int (fun _ _ => rfl)) (pa_cons (pe_op op_sub (pe_callB call_len_seq (by rfl) B.len PySem.boot_len (pa_cons (pv 1) pa_nil)) pe_int) pa_nil))))) (pw_or1 (pt_not (pt_val (pe_cd D_is_number (hr.mono (by decide)) (by rfl) (pa_cons (pe_ix ix_tup (pv 2) pe_int (fun _ _ => rfl)) (pa_cons (pe_op op_sub (pe_callB call_len_seq (by rfl) B.len PySem.boot_len (pa_cons (pv 0) pa_nil)) pe_int) pa_nil)))))))) (pss_one (ps_ret pe_bl)) pss_nil)
      (pss_one (ps_ret (pe_cmpR op_in_seq (pe_ix ix_tup (pv 2) pe_int (fun _ _ => rfl)) (pe_ix ix_list (pv 0) (pe_ix ix_list (pv 1) (pe_ix ix_tup (pv 2) pe_int (fun _ _ => rfl)) (fun _ _ => rfl)) (fun _ _ => rfl)) (by rfl))))))
theorem df_is_move {P : Program} {w : World} {K : PySem.W.Frag} {mg : Str → Option Value} {base : Heap} {f : Addr} {fd : FuncData} (B : Blt mg) (T : XT exNs K mg) (D_is_number : DF_is_number P w K mg base) (F : FN_is_move K f fd) (g : mg "is_move" = some (.ref f)) : DF_is_move P w K mg base :=
  ⟨f, fd, ok_is_move B T D_is_number F, g, F.kp, F.bindsN fun _ _ _ _ _ _ us hl => match us, hl with | [_, _, _], _ => rfl⟩
/-! behind -/
abbrev s_behind : Stmt := topS 20
theorem sc_behind : FnScope N_behind ["row", "move"] (defScope s_behind) := ⟨rfl, rfl, rfl, by decide +kernel, rfl, by decide +kernel, by decide +kernel⟩
abbrev FN_behind (K : PySem.W.Frag) (f : Addr) (fd : FuncData) : Prop := FunD K "behind" "behind" (defArgs s_behind) (defBody s_behind) (defScope s_behind) [] [] f fd
abbrev DF_behind (P : Program) (w : World) (K : PySem.W.Frag) (mg : Str → Option Value) (base : Heap) : Prop := Df P w K mg base 1 "behind" ["row", "move"] (sp_behind K)
theorem len_behind {K : PySem.W.Frag} {vs : List V} {H : Hp} {Q : VK} {E : XK} (h : sp_behind K vs H Q E) : vs.length = 2 := by
  unfold sp_behind at h
  repeat (first | (obtain ⟨rfl, _⟩ := h; rfl) | obtain ⟨_, h⟩ := h)
theorem ok_behind {P : Program} {w : World} {K : PySem.W.Frag} {mg : Str → Option Value} {base : Heap} {f : Addr} {fd : FuncData} (B : Blt mg) (T : XT exNs K mg) (F : FN_behind K f fd) : FnOk P w K mg base CX0 1 f fd ["row", "move"] (sp_behind K) := by
  have nd := sc_behind.nd
  refine F.ok sc_behind (fun vs H Q E h => len_behind h) (fun cdv A outer s H vs Q E hr h => ⟨t_behind K, PSs.nox ?_, r_behind vs H Q E h⟩)
  exact (pss_one (ps_ret (pe_op op_cat (pe_op op_cat (pe_slice sl_list (pv 0) po_none (po_some (pe_ix ix_tup (pv 1) pe_int (fun _ _ => rfl)))) (pe_lst (pa_cons (pe_ix ix_tup (pv 1) pe_int (fun _ _ => rfl)) pa_nil))) (pe_slice sl_list (pv 0) (po_some (pe_op op_add (pe_ix ix_tup (pv 1) pe_int (fun _ _ => rfl)) pe_int)) po_none))))
theorem df_behind {P : Program} {w : World} {K : PySem.W.Frag} {mg : Str → Option Value} {base : Heap} {f : Addr} {fd : FuncData} (B : Blt mg) (T : XT exNs K mg) (F : FN_behind K f fd) (g : mg "behind" = some (.ref f)) : DF_behind P w K mg base :=
  ⟨f, fd, ok_behind B T F, g, F.kp, F.bindsN fun _ _ _ _ _ _ us hl => match us, hl with | [_, _], _ => rfl⟩
/-! played -/
abbrev s_played : Stmt := topS 21
theorem sc_played : FnScope N_played ["web", "row", "move"] (defScope s_played) := ⟨rfl, rfl, rfl, by decide +kernel, rfl, by decide +kernel, by decide +kernel⟩
abbrev FN_played (K : PySem.W.Frag) (f : Addr) (fd : FuncData) : Prop := FunD K "played" "played" (defArgs s_played) (defBody s_played) (defScope s_played) [] [] f fd
abbrev DF_played (P : Program) (w : World) (K : PySem.W.Frag) (mg : Str → Option Value) (base : Heap) : Prop := DfX P w K mg base 6 "played" ["web", "row", "move"] (sp_played K)
theorem len_played {K : PySem.W.Frag} {vs : List V} {H : Hp} {Q : VK} {E : XK} (h : sp_played K vs H Q E) : vs.length = 3 := by
  unfold sp_played at h
  repeat (first | (obtain ⟨rfl, _⟩ := h; rfl) | obtain ⟨_, h⟩ := h)
theorem ok_played {P : Program} {w : World} {K : PySem.W.Frag} {mg : Str → Option Value} {base : Heap} {f : Addr} {fd : FuncData} (B : Blt mg) (T : XT exNs K mg) (D_need_game : DF_need_game P w K mg base) (D_need_row : DF_need_row P w K mg base) (D_is_move : DF_is_move P w K mg base) (D_behind : DF_behind P w K mg base) (F : FN_played K f fd) : FnOk P w K mg base (L2.CX P w) 6 f fd ["web", "row", "move"] (sp_played K) := by
  have nd := sc_played.nd
  refine F.ok sc_played (fun vs H Q E h => len_played h) (fun cdv A outer s H vs Q E hr h => ⟨t_played K E, ?_, r_played vs H Q E h⟩)
  exact (pss_cons (ps_expr (pe_cd D_need_game (hr.mono (by decide)) (by rfl) (pa_cons (pv 0) pa_nil)))
      (pss_cons (ps_expr (pe_cd D_need_row (hr.mono (by decide)) (by rfl) (pa_cons (pv 0) (pa_cons (pv 1) pa_nil))))
      (pss_cons (ps_if (pt_not (pt_val (pe_cd D_is_move (hr.mono (by decide)) (by rfl) (pa_cons (pv 0) (pa_cons (pv 1) (pa_cons (pv 2) pa_nil)))))) (pss_one (ps_raiseC T (x := "NoMove") (by decide) rfl (takes_of rfl rfl rfl rfl) (by rfl))) pss_nil)
      (pss_one (ps_ret (pe_cd D_behind (hr.mono (by decide)) (by rfl) (pa_cons (pv 1) (pa_cons (pv 2) pa_nil))))))))
theorem df_played {P : Program} {w : World} {K : PySem.W.Frag} {mg : Str → Option Value} {base : Heap} {f : Addr} {fd : FuncData} (B : Blt mg) (T : XT exNs K mg) (D_need_game : DF_need_game P w K mg base) (D_need_row : DF_need_row P w K mg base) (D_is_move : DF_is_move P w K mg base) (D_behind : DF_behind P w K mg base) (F : FN_played K f fd) (g : mg "played" = some (.ref f)) : DF_played P w K mg base :=
  ⟨f, fd, ok_played B T D_need_game D_need_row D_is_move D_behind F, g, F.kp, F.bindsN fun _ _ _ _ _ _ us hl => match us, hl with | [_, _, _], _ => rfl⟩
/-! _law_ints_are -/
abbrev s__law_ints_are : Stmt := topS 28
theorem sc__law_ints_are : FnScope N__law_ints_are ["_law_found", "_law_due_here"] (defScope s__law_ints_are) := ⟨rfl, rfl, rfl, by decide +kernel, rfl, by decide +kernel, by decide +kernel⟩
abbrev FN__law_ints_are (K : PySem.W.Frag) (f : Addr) (fd : FuncData) : Prop := FunD K "_law_ints_are" "_law_ints_are" (defArgs s__law_ints_are) (defBody s__law_ints_are) (defScope s__law_ints_are) [] [] f fd
abbrev DF__law_ints_are (P : Program) (w : World) (K : PySem.W.Frag) (mg : Str → Option Value) (base : Heap) : Prop := Df P w K mg base 1 "_law_ints_are" ["_law_found", "_law_due_here"] (sp__law_ints_are K)
theorem len__law_ints_are {K : PySem.W.Frag} {vs : List V} {H : Hp} {Q : VK} {E : XK} (h : sp__law_ints_are K vs H Q E) : vs.length = 2 := by
  unfold sp__law_ints_are at h
  repeat (first | (obtain ⟨rfl, _⟩ := h; rfl) | obtain ⟨_, h⟩ := h)
theorem ok__law_ints_are {P : Program} {w : World} {K : PySem.W.Frag} {mg : Str → Option Value} {base : Heap} {f : Addr} {fd : FuncData} (B : Blt mg) (T : XT exNs K mg) (F : FN__law_ints_are K f fd) : FnOk P w K mg base CX0 1 f fd ["_law_found", "_law_due_here"] (sp__law_ints_are K) := by
  have nd := sc__law_ints_are.nd
  refine F.ok sc__law_ints_are (fun vs H Q E h => len__law_ints_are h) (fun cdv A outer s H vs Q E hr h => ⟨t__law_ints_are K, PSs.nox ?_, r__law_ints_are vs H Q E h⟩)
  exact (pss_cons (ps_if (PW.pt (pw_or (pt_not (pt_val (pe_callB call_isi (by rfl) B.isinstance (by decide +kernel) (pa_cons (pv 0) (pa_cons (pe_bltn (v := .ty "list") (by rfl) B.list (by decide +kernel) rfl) pa_nil))))) (pw_or1 (pt_cmpR (op_neD hr.units) (pv 0) (pv 1) (nomark _))))) (pss_one (ps_ret pe_bl)) pss_nil)
      (pss_one (ps_ret (pe_callB (cr_all rfl) (by rfl) B.all (by decide +kernel) (pa_cons (pe_lc (own := [("_law_one", 2)]) (g := gName 2) rfl nd (pi_list (pv 0)) (blkOk_by (N := N__law_ints_are) (sc := defScope s__law_ints_are) (by decide +kernel)) (fun _ _ _ _ _ => pg_name (i := 2) nd rfl (.inl rfl)) (fun _ _ _ _ _ => pts_nil) (fun _ _ _ _ _ => (pe_and (pe_callB call_isi (by rfl) B.isinstance (by decide +kernel) (pa_cons (pv 2) (pa_cons (pe_bltn (v := .ty "int") (by rfl) B.int (by decide +kernel) rfl) pa_nil))) (pe_one (pe_not (pe_callB call_isi (by rfl) B.isinstance (by decide +kernel) (pa_cons (pv 2) (pa_cons (pe_bltn (v := .ty "bool") (by rfl) B.bool (by decide +kernel) rfl) pa_nil)))))))) pa_nil)))))
theorem df__law_ints_are {P : Program} {w : World} {K : PySem.W.Frag} {mg : Str → Option Value} {base : Heap} {f : Addr} {fd : FuncData} (B : Blt mg) (T : XT exNs K mg) (F : FN__law_ints_are K f fd) (g : mg "_law_ints_are" = some (.ref f)) : DF__law_ints_are P w K mg base :=
  ⟨f, fd, ok__law_ints_are B T F, g, F.kp, F.bindsN fun _ _ _ _ _ _ us hl => match us, hl with | [_, _], _ => rfl⟩
/-! _law_refused -/
abbrev s__law_refused : Stmt := topS 32
theorem sc__law_refused : FnScope N__law_refused ["_law_web", "_law_row_here", "_law_move"] (defScope s__law_refused) := ⟨rfl, rfl, rfl, by decide +kernel, rfl, by decide +kernel, by decide +kernel⟩
abbrev FN__law_refused (K : PySem.W.Frag) (f : Addr) (fd : FuncData) : Prop := FunD K "_law_refused" "_law_refused" (defArgs s__law_refused) (defBody s__law_refused) (defScope s__law_refused) [] [] f fd
abbrev DF__law_refused (P : Program) (w : World) (K : PySem.W.Frag) (mg : Str → Option Value) (base : Heap) : Prop := Df P w K mg base 7 "_law_refused" ["_law_web", "_law_row_here", "_law_move"] (sp__law_refused K)
theorem len__law_refused {K : PySem.W.Frag} {vs : List V} {H : Hp} {Q : VK} {E : XK} (h : sp__law_refused K vs H Q E) : vs.length = 3 := by
  unfold sp__law_refused at h
  repeat (first | (obtain ⟨rfl, _⟩ := h; rfl) | obtain ⟨_, h⟩ := h)
theorem ok__law_refused {P : Program} {w : World} {K : PySem.W.Frag} {mg : Str → Option Value} {base : Heap} {f : Addr} {fd : FuncData} (B : Blt mg) (T : XT exNs K mg) (D_played : DF_played P w K mg base) (F : FN__law_refused K f fd) : FnOk P w K mg base CX0 7 f fd ["_law_web", "_law_row_here", "_law_move"] (sp__law_refused K) := by
  have nd := sc__law_refused.nd
  refine F.ok sc__law_refused (fun vs H Q E h => len__law_refused h) (fun cdv A outer s H vs Q E hr h => ⟨t__law_refused K, PSs.nox ?_, r__law_refused T.xf vs H Q E h⟩)
  exact (pss_cons (ps_try_as (i := 3) (tb := fun W => tDrop (tCallS (sp_played K) (WE W) (tCons (tVar 0) (tCons (tVar 1) (tCons (tVar 2) (tNil)))))) (ts := fun a cls d => tSeq (tIfS (tOr (tB (tCB (rIsX K a cls d) (tCons (tVar 3) (tCons (tC (.ref (He.ga K "NoWeb"))) (tNil))))) (tOr (tB (tCB (rIsX K a cls d) (tCons (tVar 3) (tCons (tC (.ref (He.ga K "NoRow"))) (tNil))))) (tB (tCB (rIsX K a cls d) (tCons (tVar 3) (tCons (tC (.ref (He.ga K "Ringed"))) (tNil))))))) (tRet (tC (.bl false))) (tNext))
    (tRet (tAndV (tCB (rIsX K a cls d) (tCons (tVar 3) (tCons (tC (.ref (He.ga K "NoMove"))) (tNil)))) (tCB (rIsX K a cls d) (tCons (tVar 3) (tCons (tC (.ty "ValueError")) (tNil))))))) (Wout := fun _ _ _ _ => False) rfl rfl nd rfl rfl ⟨rfl, by decide, .inl T.gE⟩ takes0 (fun W pn xe tk _ => (pss_one (ps_expr (pe_cdS D_played tk (hr.mono (by decide)) (by rfl) (pa_cons (pv 0) (pa_cons (pv 1) (pa_cons (pv 2) pa_nil))))))) (fun a oe cls d pn hz hf => (pss_cons (ps_if (PW.pt (pw_or (pt_val (pe_callB (call_isX hz hf) (by rfl) B.isinstance (by decide +kernel) (pa_cons (pv 3) (pa_cons (pe_glob (by rfl) (T.gl "NoWeb" (by decide)) rfl) pa_nil)))) (pw_or (pt_val (pe_callB (call_isX hz hf) (by rfl) B.isinstance (by decide +kernel) (pa_cons (pv 3) (pa_cons (pe_glob (by rfl) (T.gl "NoRow" (by decide)) rfl) pa_nil)))) (pw_or1 (pt_val (pe_callB (call_isX hz hf) (by rfl) B.isinstance (by decide +kernel) (pa_cons (pv 3) (pa_cons (pe_glob (by rfl) (T.gl "Ringed" (by decide)) rfl) pa_nil)))))))) (pss_one (ps_ret pe_bl)) pss_nil)
      (pss_one (ps_ret (pe_and (pe_callB (call_isX hz hf) (by rfl) B.isinstance (by decide +kernel) (pa_cons (pv 3) (pa_cons (pe_glob (by rfl) (T.gl "NoMove" (by decide)) rfl) pa_nil))) (pe_one (pe_callB (call_isX hz hf) (by rfl) B.isinstance (by decide +kernel) (pa_cons (pv 3) (pa_cons (pe_bltn (v := .ty "ValueError") (by rfl) T.vE (by decide +kernel) rfl) pa_nil))))))))))
      (pss_one (ps_ret pe_bl)))
theorem df__law_refused {P : Program} {w : World} {K : PySem.W.Frag} {mg : Str → Option Value} {base : Heap} {f : Addr} {fd : FuncData} (B : Blt mg) (T : XT exNs K mg) (D_played : DF_played P w K mg base) (F : FN__law_refused K f fd) (g : mg "_law_refused" = some (.ref f)) : DF__law_refused P w K mg base :=
  ⟨f, fd, ok__law_refused B T D_played F, g, F.kp, F.bindsN fun _ _ _ _ _ _ us hl => match us, hl with | [_, _, _], _ => rfl⟩
/-! law -/
abbrev s_law : Stmt := topS 33
theorem sc_law : FnScope N_law ["_law_script"] (defScope s_law) := ⟨rfl, rfl, rfl, by decide +kernel, rfl, by decide +kernel, by decide +kernel⟩
abbrev FN_law (K : PySem.W.Frag) (f : Addr) (fd : FuncData) : Prop := FunD K "law" "law" (defArgs s_law) (defBody s_law) (defScope s_law) [] [] f fd
abbrev DF_law (P : Program) (w : World) (K : PySem.W.Frag) (mg : Str → Option Value) (base : Heap) : Prop := Df P w K mg base 8 "law" ["_law_script"] (sp_law K)
theorem len_law {K : PySem.W.Frag} {vs : List V} {H : Hp} {Q : VK} {E : XK} (h : sp_law K vs H Q E) : vs.length = 1 := by
  unfold sp_law at h
  repeat (first | (obtain ⟨rfl, _⟩ := h; rfl) | obtain ⟨_, h⟩ := h)
theorem ok_law {P : Program} {w : World} {K : PySem.W.Frag} {mg : Str → Option Value} {base : Heap} {f : Addr} {fd : FuncData} (B : Blt mg) (T : XT exNs K mg) (D__law_web_by : DF__law_web_by P w K mg base) (D__law_row : DF__law_row P w K mg base) (D__law_due : DF__law_due P w K mg base) (D__law_copied : DF__law_copied P w K mg base) (D_moves_in : DF_moves_in P w K mg base) (D__law_moves_are : DF__law_moves_are P w K mg base) (D__law_cell_at : DF__law_cell_at P w K mg base) (D_played : DF_played P w K mg base) (D__law_ints_are : DF__law_ints_are P w K mg base) (D__law_refused : DF__law_refused P w K mg base) (F : FN_law K f fd) : FnOk P w K mg base CX0 8 f fd ["_law_script"] (sp_law K) := by
  have nd := sc_law.nd
  refine F.ok sc_law (fun vs H Q E h => len_law h) (fun cdv A outer s H vs Q E hr h => ⟨t_law K, PSs.nox ?_, r_law vs H Q E h⟩)
  exact (pss_cons (ps_set (i := 1) nd rfl (.inl rfl) (pe_cd D__law_web_by (hr.mono (by decide)) (by rfl) (pa_cons (pv 0) (pa_cons pe_int pa_nil))))
      (pss_cons (ps_set (i := 2) nd rfl (.inl rfl) (pe_cd D__law_row (hr.mono (by decide)) (by rfl) (pa_cons (pv 0) (pa_cons (pe_callB call_len_seq (by rfl) B.len PySem.boot_len (pa_cons (pv 1) pa_nil)) pa_nil))))
      (pss_cons (ps_set (i := 3) nd rfl (.inl rfl) (pe_cd D__law_due (hr.mono (by decide)) (by rfl) (pa_cons (pv 1) (pa_cons (pv 2) pa_nil))))
      (pss_cons (ps_set (i := 4) nd rfl (.inl rfl) (pe_lst (pa_cons (pe_cd D__law_copied (hr.mono (by decide)) (by rfl) (pa_cons (pv 1) pa_nil)) (pa_cons (pe_callTy call_list_of (by rfl) B.list (by decide +kernel) (pa_cons (pv 2) pa_nil)) pa_nil))))
      (pss_cons (ps_set (i := 5) nd rfl (.inl rfl) (pe_cd D_moves_in (hr.mono (by decide)) (by rfl) (pa_cons (pe_ix ix_list (pv 4) pe_int (fun _ _ => rfl)) (pa_cons (pe_ix ix_list (pv 4) pe_int (fun _ _ => rfl)) pa_nil))))
      (pss_cons (ps_if (PW.pt (pw_or (pt_not (pt_val (pe_cd D__law_moves_are (hr.mono (by decide)) (by rfl) (pa_cons (pv 5) (pa_cons (pv 3) pa_nil))))) (pw_or1 (pt_cmpR (op_neD hr.units) (pv 4) (pe_lst (pa_cons (pv 1) (pa_cons (pv 2) pa_nil))) (nomark _))))) (pss_one (ps_ret pe_bl)) pss_nil)
      (pss_cons (ps_expr (pe_bm PySem.F.plainAttrs_list PySem.F.slot_list_append PySem.F.type_list_append mt_append (pv 5) (pa_cons (pe_tup (pa_cons pe_int (pa_cons pe_int pa_nil))) pa_nil)))
      (pss_cons (ps_for PassesOwn.never rfl (pi_range1 (by rfl) B.range (pa_cons (pe_callB (call_min2 rfl) (by rfl) B.min (by decide +kernel) (pa_cons pe_int (pa_cons (pe_callB call_len_seq (by rfl) B.len PySem.boot_len (pa_cons (pv 3) pa_nil)) pa_nil))) pa_nil)) (pg_name (i := 6) nd rfl (.inl rfl)) (pss_cons (ps_set (i := 7) nd rfl (.inl rfl) (pe_ix ix_list (pv 3) (pe_op op_mod (pe_op op_add (pe_cd D__law_cell_at (hr.mono (by decide)) (by rfl) (pa_cons (pv 0) (pa_cons pe_int pa_nil))) (pe_op op_mul pe_int (pv 6))) (pe_callB call_len_seq (by rfl) B.len PySem.boot_len (pa_cons (pv 3) pa_nil))) (fun _ _ => rfl)))
      (pss_cons (ps_set (i := 8) nd rfl (.inl rfl) (pe_cdX D_played (hr.mono (by decide)) (by rfl) (pa_cons (pe_ix ix_list (pv 4) pe_int (fun _ _ => rfl)) (pa_cons (pe_ix ix_list (pv 4) pe_int (fun _ _ => rfl)) (pa_cons (pv 7) pa_nil)))))
      (pss_cons (ps_set (i := 9) nd rfl (.inl rfl) (pe_op op_cat (pe_op op_cat (pe_slice sl_list (pv 2) po_none (po_some (pe_ix ix_tup (pv 7) pe_int (fun _ _ => rfl)))) (pe_lst (pa_cons (pe_ix ix_tup (pv 7) pe_int (fun _ _ => rfl)) pa_nil))) (pe_slice sl_list (pv 2) (po_some (pe_op op_add (pe_ix ix_tup (pv 7) pe_int (fun _ _ => rfl)) pe_int)) po_none)))
      (pss_cons (ps_if (PW.pt (pw_or (pt_not (pt_val (pe_cd D__law_ints_are (hr.mono (by decide)) (by rfl) (pa_cons (pv 8) (pa_cons (pv 9) pa_nil))))) (pw_or1 (pt_cmpR (op_neD hr.units) (pv 4) (pe_lst (pa_cons (pv 1) (pa_cons (pv 2) pa_nil))) (nomark _))))) (pss_one (ps_ret pe_bl)) pss_nil)
      (pss_one (ps_expr (pe_bm PySem.F.plainAttrs_list PySem.F.slot_list_append PySem.F.type_list_append mt_append (pv 8) (pa_cons pe_int pa_nil)))))))))
      (pss_cons (ps_for PassesOwn.never rfl (pi_range1 (by rfl) B.range (pa_cons (pe_callB (call_min2 rfl) (by rfl) B.min (by decide +kernel) (pa_cons pe_int (pa_cons (pe_callB call_len_seq (by rfl) B.len PySem.boot_len (pa_cons (pv 2) pa_nil)) pa_nil))) pa_nil)) (pg_name (i := 10) nd rfl (.inl rfl)) (pss_one (ps_for PassesOwn.never rfl (pi_range1 (by rfl) B.range (pa_cons (pe_callB (call_min2 rfl) (by rfl) B.min (by decide +kernel) (pa_cons pe_int (pa_cons (pe_callB call_len_seq (by rfl) B.len PySem.boot_len (pa_cons (pv 1) pa_nil)) pa_nil))) pa_nil)) (pg_name (i := 11) nd rfl (.inl rfl)) (pss_one (ps_if (PW.pt (pw_and (pt_cmpR op_notIn_seq (pv 11) (pe_ix ix_list (pv 1) (pe_ix ix_list (pv 2) (pv 10) (fun _ _ => rfl)) (fun _ _ => rfl)) (by rfl)) (pw_and1 (pt_not (pt_val (pe_cd D__law_refused (hr.mono (by decide)) (by rfl) (pa_cons (pe_ix ix_list (pv 4) pe_int (fun _ _ => rfl)) (pa_cons (pe_ix ix_list (pv 4) pe_int (fun _ _ => rfl)) (pa_cons (pe_tup (pa_cons (pv 10) (pa_cons (pv 11) pa_nil))) pa_nil))))))))) (pss_one (ps_ret pe_bl)) pss_nil)))))
      (pss_one (ps_ret (pe_and (pe_cd D__law_moves_are (hr.mono (by decide)) (by rfl) (pa_cons (pe_cd D_moves_in (hr.mono (by decide)) (by rfl) (pa_cons (pe_ix ix_list (pv 4) pe_int (fun _ _ => rfl)) (pa_cons (pe_ix ix_list (pv 4) pe_int (fun _ _ => rfl)) pa_nil))) (pa_cons (pv 3) pa_nil))) (pe_one (pe_cmpR (op_eqD hr.units) (pv 4) (pe_lst (pa_cons (pv 1) (pa_cons (pv 2) pa_nil))) (nomark _)))))))))))))))
/-! ### the head -/
def dd__law_cell_at : He.DefD := ⟨("_law_cell_at", none), "_law_cell_at", "_law_cell_at", defArgs s__law_cell_at, defBody s__law_cell_at, defScope s__law_cell_at, [], []⟩
def dd__law_mixed : He.DefD := ⟨("_law_mixed", none), "_law_mixed", "_law_mixed", defArgs s__law_mixed, defBody s__law_mixed, defScope s__law_mixed, [], []⟩
def dd__law_order_by : He.DefD := ⟨("_law_order_by", none), "_law_order_by", "_law_order_by", defArgs s__law_order_by, defBody s__law_order_by, defScope s__law_order_by, [], []⟩
def dd__law_web_by : He.DefD := ⟨("_law_web_by", none), "_law_web_by", "_law_web_by", defArgs s__law_web_by, defBody s__law_web_by, defScope s__law_web_by, [], []⟩
def dd__law_row : He.DefD := ⟨("_law_row", none), "_law_row", "_law_row", defArgs s__law_row, defBody s__law_row, defScope s__law_row, [], []⟩
def dd__law_due : He.DefD := ⟨("_law_due", none), "_law_due", "_law_due", defArgs s__law_due, defBody s__law_due, defScope s__law_due, [], []⟩
def dd__law_copied : He.DefD := ⟨("_law_copied", none), "_law_copied", "_law_copied", defArgs s__law_copied, defBody s__law_copied, defScope s__law_copied, [], []⟩
def dd_is_number : He.DefD := ⟨("is_number", none), "is_number", "is_number", defArgs s_is_number, defBody s_is_number, defScope s_is_number, [], []⟩
def dd_is_spot : He.DefD := ⟨("is_spot", none), "is_spot", "is_spot", defArgs s_is_spot, defBody s_is_spot, defScope s_is_spot, [], []⟩
def dd_is_web : He.DefD := ⟨("is_web", none), "is_web", "is_web", defArgs s_is_web, defBody s_is_web, defScope s_is_web, [], []⟩
def dd_need_form : He.DefD := ⟨("need_form", none), "need_form", "need_form", defArgs s_need_form, defBody s_need_form, defScope s_need_form, [], []⟩
def dd_play_order : He.DefD := ⟨("play_order", none), "play_order", "play_order", defArgs s_play_order, defBody s_play_order, defScope s_play_order, [], []⟩
def dd_need_game : He.DefD := ⟨("need_game", none), "need_game", "need_game", defArgs s_need_game, defBody s_need_game, defScope s_need_game, [], []⟩
def dd_need_row : He.DefD := ⟨("need_row", none), "need_row", "need_row", defArgs s_need_row, defBody s_need_row, defScope s_need_row, [], []⟩
def dd_moves_of : He.DefD := ⟨("moves_of", none), "moves_of", "moves_of", defArgs s_moves_of, defBody s_moves_of, defScope s_moves_of, [], []⟩
def dd_moves_in : He.DefD := ⟨("moves_in", none), "moves_in", "moves_in", defArgs s_moves_in, defBody s_moves_in, defScope s_moves_in, [], []⟩
def dd__law_moves_are : He.DefD := ⟨("_law_moves_are", none), "_law_moves_are", "_law_moves_are", defArgs s__law_moves_are, defBody s__law_moves_are, defScope s__law_moves_are, [], []⟩
def dd_is_move : He.DefD := ⟨("is_move", none), "is_move", "is_move", defArgs s_is_move, defBody s_is_move, defScope s_is_move, [], []⟩
def dd_behind : He.DefD := ⟨("behind", none), "behind", "behind", defArgs s_behind, defBody s_behind, defScope s_behind, [], []⟩
def dd_played : He.DefD := ⟨("played", none), "played", "played", defArgs s_played, defBody s_played, defScope s_played, [], []⟩
def dd__law_ints_are : He.DefD := ⟨("_law_ints_are", none), "_law_ints_are", "_law_ints_are", defArgs s__law_ints_are, defBody s__law_ints_are, defScope s__law_ints_are, [], []⟩
def dd__law_refused : He.DefD := ⟨("_law_refused", none), "_law_refused", "_law_refused", defArgs s__law_refused, defBody s__law_refused, defScope s__law_refused, [], []⟩
def dd_law : He.DefD := ⟨("law", none), "law", "law", defArgs s_law, defBody s_law, defScope s_law, [], []⟩
def hfn : List He.DefD := [dd__law_cell_at, dd__law_mixed, dd__law_order_by, dd__law_web_by, dd__law_row, dd__law_due, dd__law_copied, dd_is_number, dd_is_spot, dd_is_web, dd_need_form, dd_play_order, dd_need_game, dd_need_row, dd_moves_of, dd_moves_in, dd__law_moves_are, dd_is_move, dd_behind, dd_played, dd__law_ints_are, dd__law_refused, dd_law]
def hfa : List He.Fa := [.glo "_law_cell_at", .glo "_law_mixed", .glo "_law_order_by", .glo "_law_web_by", .glo "_law_row", .glo "_law_due", .glo "_law_copied", .glo "is_number", .glo "is_spot", .glo "is_web", .glo "need_form", .glo "play_order", .glo "need_game", .glo "need_row", .glo "moves_of", .glo "moves_in", .glo "_law_moves_are", .glo "is_move", .glo "behind", .glo "played", .glo "_law_ints_are", .glo "_law_refused", .glo "law", .free "len", .free "range", .free "list", .free "sum", .free "all", .free "any", .free "max", .free "min", .free "isinstance", .free "int", .free "bool", .free "tuple", .free "sorted", .free "enumerate", .free "set", .int "MOST_GAMES" 24, .int "MOST_SPOTS" 200, .glo "NoWeb", .glo "Ringed", .glo "NoRow", .glo "NoMove", .glo "GameError", .free "ValueError"]
def looseN : List Str := (["MOST_SPOTS", "MOST_GAMES", "GameError", "NoWeb", "Ringed", "NoRow", "NoMove", "is_number", "is_spot", "is_web", "need_form", "play_order", "need_game", "need_row", "moves_of", "moves_in", "is_move", "behind", "played", "_law_cell_at", "_law_mixed", "_law_order_by", "_law_web_by", "_law_copied", "_law_ints_are", "_law_row", "_law_due", "_law_moves_are", "_law_refused"] : List Str)
abbrev HR : PySem.W.OpenRow := PySem.W.OpenLaw.row PySem.Challenge.rw_spotsums_k07_moves_in_rows
abbrev hhk : PySem.W.Hook := hookX 4 hfa hfn (xfB exNs)
def hob (s : PySem.W.SharedT) : AlX := obsXG 4 hfa hfn (xfB exNs) (HandSHeadRun.getT s)
theorem hob_eq (s : PySem.W.SharedT) : hob s = hhk.obs s.abs := obsXG_eq (HandSHeadRun.getT_eq s)
theorem hrun (w : World) : HandSHeadRun.RunEq HR (PySem.W.view HR.prog [33]) hhk hob 3000 looseN w := by
  intro os
  kernel_rfl
theorem hfacts {P : Program} {w : World} {K : PySem.W.Frag} {h : Heap} {mg : Str → Option Value} {f : Addr} (X : K.In h) (G : h.Ns mainGlobals mg) (hlaw : mg ("law" : Str) = some (.ref f)) (cx : SaysX hfa hfn (xfB exNs) K) :
    ∃ fd : FuncData, (∀ (s : Shared) (v : Value), BindsTo s fd ⟨[v], []⟩ [("_law_script", v)]) ∧ ∀ base : Heap, K.In base → base.Ns mainGlobals mg → FnOk P w K mg base CX0 8 f fd ["_law_script"] (sp_law K) := by
  have c := cx.d
  have gl : ∀ x ∈ exNs, mg x = some (.ref (He.ga K x)) := by
    intro x hx
    rcases List.mem_cons.mp hx with e | hx
    · subst e
      exact He.glo_ok X G (c.fact 40 (f := .glo "NoWeb") rfl)
    rcases List.mem_cons.mp hx with e | hx
    · subst e
      exact He.glo_ok X G (c.fact 41 (f := .glo "Ringed") rfl)
    rcases List.mem_cons.mp hx with e | hx
    · subst e
      exact He.glo_ok X G (c.fact 42 (f := .glo "NoRow") rfl)
    rcases List.mem_cons.mp hx with e | hx
    · subst e
      exact He.glo_ok X G (c.fact 43 (f := .glo "NoMove") rfl)
    cases hx
  have T : XT exNs K mg := ⟨xfB_ok cx.ex, gl, He.glo_ok X G (c.fact 44 (f := .glo "GameError") rfl), He.free_ok X G (c.fact 45 (f := .free "ValueError") rfl)⟩
  have B : Blt mg := ⟨He.free_ok X G (c.fact 23 (f := .free "len") rfl), He.free_ok X G (c.fact 24 (f := .free "range") rfl), He.free_ok X G (c.fact 25 (f := .free "list") rfl), He.free_ok X G (c.fact 26 (f := .free "sum") rfl), He.free_ok X G (c.fact 27 (f := .free "all") rfl), He.free_ok X G (c.fact 28 (f := .free "any") rfl), He.free_ok X G (c.fact 29 (f := .free "max") rfl), He.free_ok X G (c.fact 30 (f := .free "min") rfl), He.free_ok X G (c.fact 31 (f := .free "isinstance") rfl), He.free_ok X G (c.fact 32 (f := .free "int") rfl), He.free_ok X G (c.fact 33 (f := .free "bool") rfl), He.free_ok X G (c.fact 34 (f := .free "tuple") rfl), He.free_ok X G (c.fact 35 (f := .free "sorted") rfl), He.free_ok X G (c.fact 36 (f := .free "enumerate") rfl), He.free_ok X G (c.fact 37 (f := .free "set") rfl)⟩
  obtain ⟨fd__law_cell_at, F__law_cell_at⟩ := c.def_ 0 (d := dd__law_cell_at) rfl
  have g__law_cell_at := He.glo_ok X G (c.fact 0 (f := .glo "_law_cell_at") rfl)
  obtain ⟨fd__law_mixed, F__law_mixed⟩ := c.def_ 1 (d := dd__law_mixed) rfl
  have g__law_mixed := He.glo_ok X G (c.fact 1 (f := .glo "_law_mixed") rfl)
  obtain ⟨fd__law_order_by, F__law_order_by⟩ := c.def_ 2 (d := dd__law_order_by) rfl
  have g__law_order_by := He.glo_ok X G (c.fact 2 (f := .glo "_law_order_by") rfl)
  obtain ⟨fd__law_web_by, F__law_web_by⟩ := c.def_ 3 (d := dd__law_web_by) rfl
  have g__law_web_by := He.glo_ok X G (c.fact 3 (f := .glo "_law_web_by") rfl)
  obtain ⟨fd__law_row, F__law_row⟩ := c.def_ 4 (d := dd__law_row) rfl
  have g__law_row := He.glo_ok X G (c.fact 4 (f := .glo "_law_row") rfl)
  obtain ⟨fd__law_due, F__law_due⟩ := c.def_ 5 (d := dd__law_due) rfl
  have g__law_due := He.glo_ok X G (c.fact 5 (f := .glo "_law_due") rfl)
  obtain ⟨fd__law_copied, F__law_copied⟩ := c.def_ 6 (d := dd__law_copied) rfl
  have g__law_copied := He.glo_ok X G (c.fact 6 (f := .glo "_law_copied") rfl)
  obtain ⟨fd_is_number, F_is_number⟩ := c.def_ 7 (d := dd_is_number) rfl
  have g_is_number := He.glo_ok X G (c.fact 7 (f := .glo "is_number") rfl)
  obtain ⟨fd_is_spot, F_is_spot⟩ := c.def_ 8 (d := dd_is_spot) rfl
  have g_is_spot := He.glo_ok X G (c.fact 8 (f := .glo "is_spot") rfl)
  obtain ⟨fd_is_web, F_is_web⟩ := c.def_ 9 (d := dd_is_web) rfl
  have g_is_web := He.glo_ok X G (c.fact 9 (f := .glo "is_web") rfl)
  obtain ⟨fd_need_form, F_need_form⟩ := c.def_ 10 (d := dd_need_form) rfl
  have g_need_form := He.glo_ok X G (c.fact 10 (f := .glo "need_form") rfl)
  obtain ⟨fd_play_order, F_play_order⟩ := c.def_ 11 (d := dd_play_order) rfl
  have g_play_order := He.glo_ok X G (c.fact 11 (f := .glo "play_order") rfl)
  obtain ⟨fd_need_game, F_need_game⟩ := c.def_ 12 (d := dd_need_game) rfl
  have g_need_game := He.glo_ok X G (c.fact 12 (f := .glo "need_game") rfl)
  obtain ⟨fd_need_row, F_need_row⟩ := c.def_ 13 (d := dd_need_row) rfl
  have g_need_row := He.glo_ok X G (c.fact 13 (f := .glo "need_row") rfl)
  obtain ⟨fd_moves_of, F_moves_of⟩ := c.def_ 14 (d := dd_moves_of) rfl
  have g_moves_of := He.glo_ok X G (c.fact 14 (f := .glo "moves_of") rfl)
  obtain ⟨fd_moves_in, F_moves_in⟩ := c.def_ 15 (d := dd_moves_in) rfl
  have g_moves_in := He.glo_ok X G (c.fact 15 (f := .glo "moves_in") rfl)
  obtain ⟨fd__law_moves_are, F__law_moves_are⟩ := c.def_ 16 (d := dd__law_moves_are) rfl
  have g__law_moves_are := He.glo_ok X G (c.fact 16 (f := .glo "_law_moves_are") rfl)
  obtain ⟨fd_is_move, F_is_move⟩ := c.def_ 17 (d := dd_is_move) rfl
  have g_is_move := He.glo_ok X G (c.fact 17 (f := .glo "is_move") rfl)
  obtain ⟨fd_behind, F_behind⟩ := c.def_ 18 (d := dd_behind) rfl
  have g_behind := He.glo_ok X G (c.fact 18 (f := .glo "behind") rfl)
  obtain ⟨fd_played, F_played⟩ := c.def_ 19 (d := dd_played) rfl
  have g_played := He.glo_ok X G (c.fact 19 (f := .glo "played") rfl)
  obtain ⟨fd__law_ints_are, F__law_ints_are⟩ := c.def_ 20 (d := dd__law_ints_are) rfl
  have g__law_ints_are := He.glo_ok X G (c.fact 20 (f := .glo "_law_ints_are") rfl)
  obtain ⟨fd__law_refused, F__law_refused⟩ := c.def_ 21 (d := dd__law_refused) rfl
  have g__law_refused := He.glo_ok X G (c.fact 21 (f := .glo "_law_refused") rfl)
  obtain ⟨fd_law, F_law⟩ := c.def_ 22 (d := dd_law) rfl
  obtain ⟨tk_MOST_GAMES, c_MOST_GAMES⟩ := He.int_ok X G (c.fact 38 (f := .int "MOST_GAMES" 24) rfl)
  obtain ⟨tk_MOST_SPOTS, c_MOST_SPOTS⟩ := He.int_ok X G (c.fact 39 (f := .int "MOST_SPOTS" 200) rfl)
  have e := hlaw.symm.trans (He.glo_ok X G (c.fact 22 (f := .glo "law") rfl))
  cases e
  have b := FunD.bindsA (ps := ["_law_script"]) F_law fun _ _ _ _ _ _ us hl => match us, hl with | [_], _ => rfl
  refine ⟨fd_law, fun s v => b s [v] rfl, fun base _ _ => ?_⟩
  have D__law_cell_at : DF__law_cell_at P w K mg base := df__law_cell_at B T F__law_cell_at g__law_cell_at
  have D__law_mixed : DF__law_mixed P w K mg base := df__law_mixed B T F__law_mixed g__law_mixed
  have D__law_order_by : DF__law_order_by P w K mg base := df__law_order_by B T D__law_mixed F__law_order_by g__law_order_by
  have D__law_web_by : DF__law_web_by P w K mg base := df__law_web_by B T D__law_cell_at D__law_order_by D__law_mixed F__law_web_by g__law_web_by
  have D__law_row : DF__law_row P w K mg base := df__law_row B T D__law_cell_at D__law_mixed F__law_row g__law_row
  have D__law_due : DF__law_due P w K mg base := df__law_due B T F__law_due g__law_due
  have D__law_copied : DF__law_copied P w K mg base := df__law_copied B T F__law_copied g__law_copied
  have D_is_number : DF_is_number P w K mg base := df_is_number B T F_is_number g_is_number
  have D_is_spot : DF_is_spot P w K mg base := df_is_spot B T D_is_number F_is_spot g_is_spot
  have D_is_web : DF_is_web P w K mg base := df_is_web B T c_MOST_SPOTS D_is_spot F_is_web g_is_web
  have D_need_form : DF_need_form P w K mg base := df_need_form B T D_is_web F_need_form g_need_form
  have D_play_order : DF_play_order P w K mg base := df_play_order B T F_play_order g_play_order
  have D_need_game : DF_need_game P w K mg base := df_need_game B T D_need_form D_play_order F_need_game g_need_game
  have D_need_row : DF_need_row P w K mg base := df_need_row B T c_MOST_GAMES D_is_number F_need_row g_need_row
  have D_moves_of : DF_moves_of P w K mg base := df_moves_of B T F_moves_of g_moves_of
  have D_moves_in : DF_moves_in P w K mg base := df_moves_in B T D_need_game D_need_row D_moves_of F_moves_in g_moves_in
  have D__law_moves_are : DF__law_moves_are P w K mg base := df__law_moves_are B T F__law_moves_are g__law_moves_are
  have D_is_move : DF_is_move P w K mg base := df_is_move B T D_is_number F_is_move g_is_move
  have D_behind : DF_behind P w K mg base := df_behind B T F_behind g_behind
  have D_played : DF_played P w K mg base := df_played B T D_need_game D_need_row D_is_move D_behind F_played g_played
  have D__law_ints_are : DF__law_ints_are P w K mg base := df__law_ints_are B T F__law_ints_are g__law_ints_are
  have D__law_refused : DF__law_refused P w K mg base := df__law_refused B T D_played F__law_refused g__law_refused
  exact ok_law B T D__law_web_by D__law_row D__law_due D__law_copied D_moves_in D__law_moves_are D__law_cell_at D_played D__law_ints_are D__law_refused F_law
end Sp
open PySem PySem.W PySem.Calls PyProof.Rows
theorem PySem.Challenge.cw_spotsums_k07_moves_in_rows_holds : PySem.Challenge.rw_spotsums_k07_moves_in_rows.Holds := by
  w_on; o_law
  refine HandSHeadRun.head_any (r := OpenLaw.row PySem.Challenge.rw_spotsums_k07_moves_in_rows) (q := view (OpenLaw.row PySem.Challenge.rw_spotsums_k07_moves_in_rows).prog [33]) (H := Sp.hhk) (ob := Sp.hob) (M := 3000) (loose := Sp.looseN) (d := HandSHeadRun.topDef (OpenLaw.row PySem.Challenge.rw_spotsums_k07_moves_in_rows).prog 33) (kwd := []) Sp.hob_eq
    (by kernel_rfl) (fun s => by kernel_rfl) Sp.hrun (by kernel_rfl) (by kernel_rfl) (by kernel_rfl) (by rfl) (by first | assumption | decide +kernel) (by decide +kernel) ⟨rfl, rfl, rfl, rfl, rfl, by decide +kernel⟩ ?hw ?hc
  case hw => w_witness2
  case hc =>
    refine Sp.walk_bits (l := PySem.Challenge.rw_spotsums_k07_moves_in_rows) (n := 63) (k := 8) (x := "_law_script") (CX := L2.CX0) rfl (by decide) (by kernel_rfl) ⟨rfl, by decide, by decide⟩ ?F (fun _ _ _ _ z => z)
    intro w mg fa h Y G hmg0
    obtain ⟨K, KX, c⟩ := Y
    have hmg : mg ("law" : PySem.Str) = some (.ref fa) := by
      have e : (HandSHeadRun.topDef (OpenLaw.row PySem.Challenge.rw_spotsums_k07_moves_in_rows).prog 33).name = ("law" : PySem.Str) := by kernel_rfl
      rw [← e]
      exact hmg0
    obtain ⟨fd, hb, hF⟩ := Sp.hfacts (P := (PySem.Challenge.rw_spotsums_k07_moves_in_rows).prog) (w := w) KX G hmg c
    exact ⟨K, fd, Sp.sp_law K, KX, hb, fun H a ns hl hbits _ hS => ⟨a, ns, rfl, hS, hl, hbits, fun _ => rfl⟩, hF⟩
#print axioms PySem.Challenge.cw_spotsums_k07_moves_in_rows_holds
