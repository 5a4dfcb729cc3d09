import PyProof.Rows.All
import Wide.All
import OpenK.AllK
import Wide.FinOn
import KE.KStateDown
import Lean
import HandS.ForMost
import HandS.WordsExc
import HandS.IsInst
import HandS.Conv
import HandS.Wide
import HandS.SortInts
import HandS.TupLe
import HandS.Zip
import HandS.Defaults
import HandS.EndBits
import HandS.Head0
import HandS.Head1
import HandS.Head2
import HandS.HeadEnd
import HandS.HeadHook1
import HandS.HeadHook2
import PySem.Challenge.RW_spotsums_k06_laid_over
set_option Elab.async false
set_option linter.all false
set_option maxRecDepth 100000
set_option maxHeartbeats 0
namespace Sp
open PySem PySem.Spec PyProof.Rows L2
/-! ### readings by short names -/
abbrev rAdd : R2 := rI0 fun i j => .int (i + j)
abbrev rSub : R2 := rI0 fun i j => .int (i - j)
abbrev rMul : R2 := rI CMul fun i j => .int (i * j)
abbrev rMulB : R2 := rI IntMulOk fun i j => .int (i * j)
abbrev rDiv : R2 := rI CDiv fun i j => .int (i / j)
abbrev rDivW : R2 := rI CDivW fun i j => .int (i / j)
abbrev rMod : R2 := rI (fun _ j => 0 < j) fun i j => .int (i % j)
abbrev rPow : R2 := rI CPow fun i j => .int (i ^ j.toNat)
abbrev rLt : R2 := rI0 fun i j => .bl (decide (i < j))
abbrev rLe : R2 := rI0 fun i j => .bl (decide (i ≤ j))
abbrev rGt : R2 := rI0 fun i j => .bl (decide (j < i))
abbrev rGe : R2 := rI0 fun i j => .bl (decide (j ≤ i))
abbrev rIsN : R2 := fun x y H Q => y = .non ∧ Q (.bl (decide (x = .non))) H
abbrev rNotN : R2 := fun x y H Q => y = .non ∧ Q (.bl (!decide (x = .non))) H
abbrev rLen (K : PySem.W.Frag) : List V → Hp → VK → Prop := fun xs H Q => ∃ p ys, xs = [.ref p] ∧ (SqL K H p ys ∨ SqT K H p ys) ∧ Q (.int ys.length) H
abbrev rList (K : PySem.W.Frag) : List V → Hp → VK → Prop := fun xs H Q => ∃ p ys, xs = [.ref p] ∧ (SqL K H p ys ∨ SqT K H p ys) ∧ ∀ l, H l = none → Q (.ref l) (upd H l (.lst ys))
abbrev rTuple (K : PySem.W.Frag) : List V → Hp → VK → Prop := fun xs H Q => ∃ p ys, xs = [.ref p] ∧ ((SqL K H p ys ∧ ∀ l, H l = none → Q (.ref l) (upd H l (.tup ys))) ∨ (SqT K H p ys ∧ Q (.ref p) H))
abbrev rMax2 : List V → Hp → VK → Prop := fun xs H Q => ∃ i j, xs = [.int i, .int j] ∧ Q (.int (if j > i then j else i)) H
abbrev rMin2 : List V → Hp → VK → Prop := fun xs H Q => ∃ i j, xs = [.int i, .int j] ∧ Q (.int (if j < i then j else i)) H
theorem op_mulB {X : Cx} : OpR X (binaryOp .Mult) rMulB := opI fun _ _ _ _ _ _ _ hc q => mul_int q hc
/-! ### a def as a caller takes it -/
structure Df (P : Program) (w : World) (K : PySem.W.Frag) (mg : Str → Option Value) (base : Heap) (k : Nat) (x : Str) (ps : List Str) (sp : Sp) : Prop where
  ex : ∃ (f : Addr) (fd : FuncData), FnOk P w K mg base CX0 k f fd ps sp ∧ mg x = some (.ref f) ∧ PySem.W.keepIn K (.ref f) = true ∧ Binds K fd ps []
theorem pe_cd {X : Cx} {k : Nat} {x : Str} {ps : List Str} {sp : Sp} {e : Expr} {es : List Expr} {t : TA} {p pos : Pos} (D : Df X.prog X.w X.K X.mg X.base k x ps sp) (hr : Room k X.A) (hg : Gl X x) (ha : PA X (e :: es) t)
    (hdb : (x == ("__debug__" : Str)) = false := by decide) (he : starEach (e :: es) X.env = (false, eval e X.env) :: starEach es X.env := by rfl) (hpl : (backTo pos (starEach es X.env)).any (·.1) = false := by rfl) :
    PE X (.Call (.Name x p) (e :: es) [] pos) (tCall sp [] E0 t) := by
  obtain ⟨f, fd, F, g, kp, b⟩ := D.ex
  exact pe_call F hr hg g kp b .nil pass0 ha hdb he hpl
/-- the built-in names that no name of the module hides -/
structure Blt (mg : Str → Option Value) : Prop where
  len : mg "len" = none
  range : mg "range" = none
  list : mg "list" = none
  sum : mg "sum" = none
  all : mg "all" = none
  any : mg "any" = none
  max : mg "max" = none
  min : mg "min" = none
  isinstance : mg "isinstance" = none
  int : mg "int" = none
  bool : mg "bool" = none
  tuple : mg "tuple" = none
  sorted : mg "sorted" = none
  enumerate : mg "enumerate" = none
  set : mg "set" = none
/-! ### a word between two statements -/
def tMid (t u : TS) : TS := fun D σ H => ∃ M : L2.St → Hp → Prop, t { D with nx := M } σ H ∧ ∀ σ' H', M σ' H' → u D σ' H'
theorem pss_mid {X : Cx} {st : Stmt} {rest : List Stmt} {t u : TS} (h1 : PS X st t) (h2 : PSs X rest u) : PSs X (st :: rest) (tMid t u) := by
  refine ⟨fun pins s σ H D I h => ?_⟩
  obtain ⟨M, hm, hu⟩ := h
  have run := h1.run pins s σ H { D with nx := M } I hm
  refine wpAny_execs_cons (thn run fun f s1 q => ?_)
  cases f with
  | next =>
    obtain ⟨σ1, H1, I1, q1⟩ := q
    exact h2.run pins s1 σ1 H1 D I1 (hu σ1 H1 q1)
  | brk => exact q
  | cont => exact q
  | ret v => exact q
/-- a law's end by the head's facts, the script's bits told -/
theorem walk_bits {l : PySem.W.OpenLaw} {n k : Nat} {q : Program} {loose : List Str} {XP : (Str → Option Value) → Heap → Prop} {YP : World → Heap → Prop} {d : DefRec} {CX : CXT} {x : Str}
    (hn : l.most = some n) (hn2 : n ≤ sizeLine) (hdf : d.params.defaults = []) (hr : Room k callerA)
    (F : ∀ (w : World) (mg : Str → Option Value) (fa : Addr) (h : Heap), YP w h → h.Ns mainGlobals mg → mg d.name = some (.ref fa) →
      ∃ (K : PySem.W.Frag) (fd : FuncData) (sp : Sp), K.In h ∧ (∀ (s : Shared) (u : Value), BindsTo s fd ⟨[u], []⟩ [(x, u)]) ∧
        (∀ (H : Hp) (a : Addr) (ns : List Int), ns.length ≤ n → (∀ z ∈ ns, Builtin.Int.intBits z ≤ 1048576) → Only H → SqL K H a (ns.map V.int) → sp [.ref a] H (fun v _ => v = .bl true) fun _ _ _ => False) ∧
        ∀ base : Heap, K.In base → base.Ns mainGlobals mg → FnOk l.prog w K mg base CX k fa fd [x] sp)
    (hCX : ∀ (H : Hp) (s : Shared) (e : Value) (s' : Shared), CX [] H s (fun _ _ _ => False) e s' → False) :
    PySem.W.WalkO q loose XP YP l.row.toRowW d [] (fun f vs => PySem.call f vs) := by
  refine Att.attach_callB hn hdf fun w _ s1 mg _ fa _ _ _ _ a vs ns G Y _ _ _ hmg hobj hints hlen hbits hg => ?_
  obtain ⟨K, fd, sp, KX, hb, hsp, hF⟩ := F w mg fa s1.heap Y G.T.g hmg
  exact law_call KX G.T.g G.T.b G.T.builtins G.T.nolimit hg hobj hints (Nat.le_trans hlen hn2) hr hF hb (fun H hO hS => hsp H a ns hlen hbits hO hS) fun H e s' z => hCX H s1 e s' z
/-! ### heaps -/
theorem same_new {H : Hp} {p : Addr} {o : HO} (h : H p = none) : Same H (upd H p o) := fun b x e => by
  rw [upd_ne (ne_of_none e h)]
  exact e
theorem _root_.L2.Same.new {H H1 : Hp} {p : Addr} {o : HO} (s : Same H H1) (h : H1 p = none) : Same H (upd H1 p o) := s.trans (same_new h)
/-- what H doesn't know may change -/
theorem _root_.L2.Same.mut {H H1 : Hp} {p : Addr} {o : HO} (s : Same H H1) (h : H p = none) : Same H (upd H1 p o) := fun b x e => by
  rw [upd_ne (ne_of_none e h)]
  exact s b x e
theorem line_le {n : Nat} (h : n ≤ 100000) : n ≤ sizeLine := Nat.le_trans h (by rw [sizeLine_eq]; decide)
theorem line_lt {n : Nat} (h : n < 100000) : n < sizeLine := Nat.lt_of_lt_of_le h (by rw [sizeLine_eq]; decide)
/-! ### numbers as values -/
abbrev nv (n : Nat) : V := .int (n : Int)
def nvs (l : List Nat) : List V := l.map nv
theorem nvs_int (l : List Nat) : nvs l = (l.map fun n : Nat => (n : Int)).map V.int := by
  rw [List.map_map]
  rfl
theorem nvs_length (l : List Nat) : (nvs l).length = l.length := List.length_map ..
theorem nvs_append (l m : List Nat) : nvs (l ++ m) = nvs l ++ nvs m := List.map_append
theorem nvs_get {l : List Nat} {i n : Nat} (h : l[i]? = some n) : (nvs l)[i]? = some (nv n) := by
  unfold nvs
  rw [List.getElem?_map, h]
  rfl
theorem nvs_at {l : List Nat} {i n : Nat} (h : l[i]? = some n) : atI (nvs l) (i : Int) = some (nv n) := atI_nat (nvs_get h)
theorem nv_inj {a b : Nat} (h : nv a = nv b) : a = b := Int.ofNat.inj (V.int.inj h)
theorem inV_int (x : Int) (xs : List Int) : inV (.int x) (xs.map V.int) = decide (x ∈ xs) := by
  unfold inV
  rw [List.any_map]
  rw [Bool.eq_iff_iff, List.any_eq_true, decide_eq_true_iff]
  constructor
  · rintro ⟨y, hy, e⟩
    have e2 : (y == x) = true := e
    rw [beq_iff_eq] at e2
    rw [← e2]
    exact hy
  · intro h
    exact ⟨x, h, show (x == x) = true from beq_self_eq_true x⟩
theorem inV_nv (x : Nat) (xs : List Nat) : inV (nv x) (nvs xs) = decide (x ∈ xs) := by
  rw [nvs_int, inV_int]
  rw [Bool.eq_iff_iff, decide_eq_true_iff, decide_eq_true_iff]
  constructor
  · intro h
    obtain ⟨y, hy, e⟩ := List.mem_map.mp h
    rw [← Int.ofNat.inj e]
    exact hy
  · exact fun h => List.mem_map.mpr ⟨x, h, rfl⟩
theorem flat_nvs (l : List Nat) : (nvs l).all flatV = true := by
  rw [List.all_eq_true]
  intro v hv
  obtain ⟨n, _, rfl⟩ := List.mem_map.mp hv
  rfl
theorem sum_nat (l : List Nat) : (l.map fun n : Nat => (n : Int)).sum = ((l.sum : Nat) : Int) := by
  induction l with
  | nil => rfl
  | cons a r ih =>
    rw [List.map_cons, List.sum_cons, List.sum_cons, ih]
    omega
/-! ### comprehensions -/
section
variable {K : PySem.W.Frag} {α : Type} {tt : TT} {te : TE} {σ : L2.St} {H : Hp} {j : Nat} {P : Addr → Hp → Prop}
theorem wipe1 (σ : L2.St) (j : Nat) (x : V) : wipe ((wipe σ [j]).set j (some x)) [j] = wipe σ [j] := by
  show ((σ.set j none).set j (some x)).set j none = σ.set j none
  rw [List.set_set, List.set_set]
theorem wipe1b (σ : L2.St) (j : Nat) (x : V) : (wipe σ [j]).set j (some x) = σ.set j (some x) := by
  show (σ.set j none).set j (some x) = σ.set j (some x)
  rw [List.set_set]
/-- [e for x in xs if t]: values, the source a list -/
theorem lcL {a : Addr} (ds : List α) (enc : α → V) (f : α → Bool) (v : α → V) (hs : SqL K H a (ds.map enc)) (hz : ds.length ≤ 40000)
    (step : ∀ d ∈ ds, ∀ (H1 : Hp) (Qy : VK) (Qf : Hp → Prop), Same H H1 → (f d = true → ∀ H2, Same H1 H2 → Qy (v d) H2) → (f d = false → ∀ H2, Same H1 H2 → Qf H2) →
      tt (σ.set j (some (enc d))) H1 fun b H2 => if b = true then te (σ.set j (some (enc d))) H2 Qy else Qf H2)
    (done : ∀ D H1, H D = none → Same H H1 → H1 D = some (.lst ((ds.filter f).map v)) → P D H1) :
    ∀ D, H D = none → ∃ W : Nat → Nat → Hp → Prop, (∃ m, W 0 m (upd H D (.lst []))) ∧ ∀ i m H, W i m H →
      ((Itl K a).stop i H ∧ P D H) ∨ ((Itl K a).go i H ∧ ∃ Nx : Hp → Prop, (∀ H', Nx H' → ∃ m', m' < m ∧ W (i + 1) m' H') ∧ ∀ x H', (Itl K a).yld i H x H' → gName j x (wipe σ [j]) H' fun σ2 H2 => wipe σ2 [j] = wipe σ [j] ∧ tt σ2 H2 fun b H3 =>
        if b = true then te σ2 H3 fun y H4 => ∃ acc, H4 D = some (.lst acc) ∧ acc.length < sizeLine ∧ Nx (upd H4 D (.lst (acc ++ [y]))) else Nx H3) := by
  intro D hD
  refine lc_list (xs := ds.map enc) (fun i H' => Same H H' ∧ H' D = some (.lst (((ds.take i).filter f).map v))) ⟨same_new hD, upd_same⟩ (fun i H' _ p => p.1.seq hs) (fun i x H' hi p => ?_) (fun H' p => ?_)
  · rw [List.getElem?_map] at hi
    cases hd : ds[i]? with
    | none => rw [hd] at hi; cases hi
    | some d =>
      rw [hd] at hi
      have ex : enc d = x := Option.some.inj hi
      subst ex
      show wipe ((wipe σ [j]).set j (some (enc d))) [j] = wipe σ [j] ∧ tt ((wipe σ [j]).set j (some (enc d))) H' _
      refine ⟨wipe1 _ _ _, ?_⟩
      rw [wipe1b]
      have et : ds.take (i + 1) = ds.take i ++ [d] := by
        rw [List.take_add_one, hd]
        rfl
      refine step d (List.mem_of_getElem? hd) H' _ _ p.1 (fun hf H2 s2 => ?_) (fun hf H2 s2 => ?_)
      · refine ⟨_, s2 D _ p.2, line_lt ?_, (p.1.trans s2).mut hD, ?_⟩
        · rw [List.length_map]
          have h1 := List.length_filter_le f (ds.take i)
          have h2 : (ds.take i).length ≤ ds.length := by rw [List.length_take]; omega
          omega
        · rw [upd_same, et, List.filter_append, List.map_append, List.filter_cons, if_pos hf]
          rfl
      · refine ⟨p.1.trans s2, ?_⟩
        rw [et, List.filter_append, List.filter_cons, if_neg (by rw [hf]; exact Bool.false_ne_true), List.filter_nil, List.append_nil]
        exact s2 D _ p.2
  · rw [List.length_map, List.take_length] at p
    exact done D H' hD p.1 p.2
/-- the same, the source a range from 0 -/
theorem lcR {n : Nat} (f : Nat → Bool) (v : Nat → V) (hz : n ≤ 40000)
    (step : ∀ i < n, ∀ (H1 : Hp) (Qy : VK) (Qf : Hp → Prop), Same H H1 → (f i = true → ∀ H2, Same H1 H2 → Qy (v i) H2) → (f i = false → ∀ H2, Same H1 H2 → Qf H2) →
      tt (σ.set j (some (nv i))) H1 fun b H2 => if b = true then te (σ.set j (some (nv i))) H2 Qy else Qf H2)
    (done : ∀ D H1, H D = none → Same H H1 → H1 D = some (.lst (((List.range n).filter f).map v)) → P D H1) :
    ∀ D, H D = none → ∃ W : Nat → Nat → Hp → Prop, (∃ m, W 0 m (upd H D (.lst []))) ∧ ∀ i m H, W i m H →
      ((Itr 0 n).stop i H ∧ P D H) ∨ ((Itr 0 n).go i H ∧ ∃ Nx : Hp → Prop, (∀ H', Nx H' → ∃ m', m' < m ∧ W (i + 1) m' H') ∧ ∀ x H', (Itr 0 n).yld i H x H' → gName j x (wipe σ [j]) H' fun σ2 H2 => wipe σ2 [j] = wipe σ [j] ∧ tt σ2 H2 fun b H3 =>
        if b = true then te σ2 H3 fun y H4 => ∃ acc, H4 D = some (.lst acc) ∧ acc.length < sizeLine ∧ Nx (upd H4 D (.lst (acc ++ [y]))) else Nx H3) := by
  intro D hD
  refine lc_range (fun i H' => Same H H' ∧ H' D = some (.lst (((List.range i).filter f).map v))) ⟨same_new hD, upd_same⟩ (fun i H' hi p => ?_) (fun H' p => done D H' hD p.1 p.2)
  show wipe ((wipe σ [j]).set j (some (.int ((0 : Int) + (i : Int))))) [j] = wipe σ [j] ∧ tt ((wipe σ [j]).set j (some (.int ((0 : Int) + (i : Int))))) H' _
  rw [Int.zero_add]
  refine ⟨wipe1 _ _ _, ?_⟩
  rw [wipe1b]
  refine step i hi H' _ _ p.1 (fun hf H2 s2 => ?_) (fun hf H2 s2 => ?_)
  · refine ⟨_, s2 D _ p.2, line_lt ?_, (p.1.trans s2).mut hD, ?_⟩
    · rw [List.length_map]
      have h1 := List.length_filter_le f (List.range i)
      rw [List.length_range] at h1
      omega
    · rw [upd_same, List.range_succ, List.filter_append, List.map_append, List.filter_cons, if_pos hf]
      rfl
  · refine ⟨p.1.trans s2, ?_⟩
    rw [List.range_succ, List.filter_append, List.filter_cons, if_neg (by rw [hf]; exact Bool.false_ne_true), List.filter_nil, List.append_nil]
    exact s2 D _ p.2
end
/-! ### lists of lists -/
/-- ps: lists of their own, of these contents -/
structure Rows (H : Hp) (ps : List Addr) (cs : List (List V)) : Prop where
  len : ps.length = cs.length
  at_ : ∀ (i : Nat) (p : Addr) (c : List V), ps[i]? = some p → cs[i]? = some c → H p = some (.lst c)
theorem Rows.same {H H1 : Hp} {ps : List Addr} {cs : List (List V)} (r : Rows H ps cs) (s : Same H H1) : Rows H1 ps cs := ⟨r.len, fun i p c h1 h2 => s p _ (r.at_ i p c h1 h2)⟩
theorem Rows.get {H : Hp} {ps : List Addr} {cs : List (List V)} (r : Rows H ps cs) {i : Nat} {c : List V} (h : cs[i]? = some c) : ∃ p, ps[i]? = some p ∧ H p = some (.lst c) := by
  have h1 : i < cs.length := (List.getElem?_eq_some_iff.mp h).1
  have h2 : i < ps.length := by rw [r.len]; exact h1
  exact ⟨ps[i], List.getElem?_eq_getElem h2, r.at_ i _ c (List.getElem?_eq_getElem h2) h⟩
/-- a web (a list of lists) of these rows: it stands at a -/
def Lol (H : Hp) (a : Addr) (cs : List (List V)) : Prop := ∃ ps : List Addr, H a = some (.lst (ps.map V.ref)) ∧ Rows H ps cs
theorem Lol.same {H H1 : Hp} {a : Addr} {cs : List (List V)} (r : Lol H a cs) (s : Same H H1) : Lol H1 a cs := let ⟨ps, h, q⟩ := r; ⟨ps, s _ _ h, q.same s⟩
/-- the same, every list of its own and new to H0 -/
def LolN (H0 H : Hp) (a : Addr) (cs : List (List V)) : Prop := ∃ ps : List Addr, H a = some (.lst (ps.map V.ref)) ∧ Rows H ps cs ∧ ps.Nodup ∧ a ∉ ps ∧ H0 a = none ∧ ∀ p ∈ ps, H0 p = none
theorem LolN.lol {H0 H : Hp} {a : Addr} {cs : List (List V)} (r : LolN H0 H a cs) : Lol H a cs := let ⟨ps, h, q, _⟩ := r; ⟨ps, h, q⟩
theorem LolN.same {H0 H H1 : Hp} {a : Addr} {cs : List (List V)} (r : LolN H0 H a cs) (s : Same H H1) : LolN H0 H1 a cs := let ⟨ps, h, q, x⟩ := r; ⟨ps, s _ _ h, q.same s, x⟩
theorem Lol.at_ {H : Hp} {a : Addr} {cs : List (List V)} (r : Lol H a cs) {i : Nat} {c : List V} (h : cs[i]? = some c) {ps : List Addr} (e : H a = some (.lst (ps.map V.ref))) : ∃ p, ps[i]? = some p ∧ H p = some (.lst c) := by
  obtain ⟨qs, e2, R⟩ := r
  rw [e] at e2
  have e3 : ps = qs := List.map_inj_right (fun _ _ z => V.ref.inj z) |>.mp (HO.lst.inj (Option.some.inj e2))
  subst e3
  exact R.get h
section
variable {K : PySem.W.Frag} {α : Type} {te : TE} {σ : L2.St} {H : Hp} {j : Nat} {P : Addr → Hp → Prop}
theorem rows_add {H H1 : Hp} {ps : List Addr} {cs : List (List V)} {p : Addr} {c : List V} (r : Rows H ps cs) (s : ∀ q ∈ ps, ∀ o, H q = some o → H1 q = some o) (hp : H1 p = some (.lst c)) : Rows H1 (ps ++ [p]) (cs ++ [c]) := by
  refine ⟨by rw [List.length_append, List.length_append, r.len]; rfl, fun i q d h1 h2 => ?_⟩
  by_cases hi : i < ps.length
  · rw [List.getElem?_append_left hi] at h1
    rw [List.getElem?_append_left (by rw [← r.len]; exact hi)] at h2
    exact s q (List.mem_of_getElem? h1) _ (r.at_ i q d h1 h2)
  · rw [List.getElem?_append_right (by omega)] at h1
    rw [List.getElem?_append_right (by rw [← r.len]; omega)] at h2
    rw [r.len] at h1
    cases e : i - cs.length with
    | zero =>
      rw [e] at h1 h2
      have e1 : p = q := Option.some.inj h1
      have e2 : c = d := Option.some.inj h2
      rw [← e1, ← e2]
      exact hp
    | succ k => rw [e] at h1; cases h1
/-- the turn of a comprehension that makes a new list each time -/
theorem lcN_turn {D : Addr} {H' H2 : Hp} {ps : List Addr} {cs : List (List V)} {p : Addr} {c : List V} (hD : H D = none) (s1 : Same H H') (hl : H' D = some (.lst (ps.map V.ref))) (R : Rows H' ps cs) (nd : ps.Nodup) (na : D ∉ ps) (hn : ∀ q ∈ ps, H q = none)
    (np : H' p = none) (s2 : Same H' H2) (hp : H2 p = some (.lst c)) :
    Same H (upd H2 D (.lst (ps.map V.ref ++ [V.ref p]))) ∧ upd H2 D (.lst (ps.map V.ref ++ [V.ref p])) D = some (.lst ((ps ++ [p]).map V.ref)) ∧ Rows (upd H2 D (.lst (ps.map V.ref ++ [V.ref p]))) (ps ++ [p]) (cs ++ [c]) ∧ (ps ++ [p]).Nodup ∧ D ∉ ps ++ [p] ∧ ∀ q ∈ ps ++ [p], H q = none := by
  have pD : p ≠ D := fun e => by rw [e, hl] at np; cases np
  have pps : p ∉ ps := fun h => by
    obtain ⟨i, hi⟩ := List.mem_iff_getElem?.mp h
    have h1 : i < cs.length := by rw [← R.len]; exact (List.getElem?_eq_some_iff.mp hi).1
    have := R.at_ i p _ hi (List.getElem?_eq_getElem h1)
    rw [np] at this
    cases this
  refine ⟨(s1.trans s2).mut hD, ?_, ?_, ?_, ?_, ?_⟩
  · rw [upd_same, List.map_append]
    rfl
  · refine rows_add R (fun q hq o e => ?_) ?_
    · have qD : q ≠ D := fun e => na (e ▸ hq)
      rw [upd_ne qD]
      exact s2 q o e
    · rw [upd_ne pD]
      exact hp
  · refine List.nodup_append.mpr ⟨nd, List.nodup_cons.mpr ⟨List.not_mem_nil, List.nodup_nil⟩, fun x hx y hy e => ?_⟩
    rw [List.mem_singleton.mp hy] at e
    exact pps (e ▸ hx)
  · intro h
    rcases List.mem_append.mp h with h | h
    · exact na h
    · exact pD (List.mem_singleton.mp h).symm
  · intro q hq
    rcases List.mem_append.mp hq with h | h
    · exact hn q h
    · rw [List.mem_singleton.mp h]
      exact s1.free np
/-- [<a new list> for x in xs] -/
theorem lcLN {a : Addr} (ds : List α) (enc : α → V) (c : α → List V) (hs : SqL K H a (ds.map enc)) (hz : ds.length ≤ 40000)
    (step : ∀ d ∈ ds, ∀ (H1 : Hp) (Qy : VK), Same H H1 → (∀ p H2, H1 p = none → Same H1 H2 → H2 p = some (.lst (c d)) → Qy (.ref p) H2) → te (σ.set j (some (enc d))) H1 Qy)
    (done : ∀ D H1, Same H H1 → LolN H H1 D (ds.map c) → P D H1) :
    ∀ D, H D = none → ∃ W : Nat → Nat → Hp → Prop, (∃ m, W 0 m (upd H D (.lst []))) ∧ ∀ i m H, W i m H →
      ((Itl K a).stop i H ∧ P D H) ∨ ((Itl K a).go i H ∧ ∃ Nx : Hp → Prop, (∀ H', Nx H' → ∃ m', m' < m ∧ W (i + 1) m' H') ∧ ∀ x H', (Itl K a).yld i H x H' → gName j x (wipe σ [j]) H' fun σ2 H2 => wipe σ2 [j] = wipe σ [j] ∧ tYes σ2 H2 fun b H3 =>
        if b = true then te σ2 H3 fun y H4 => ∃ acc, H4 D = some (.lst acc) ∧ acc.length < sizeLine ∧ Nx (upd H4 D (.lst (acc ++ [y]))) else Nx H3) := by
  intro D hD
  refine lc_list (xs := ds.map enc) (fun i H' => Same H H' ∧ ∃ ps : List Addr, H' D = some (.lst (ps.map V.ref)) ∧ Rows H' ps ((ds.take i).map c) ∧ ps.Nodup ∧ D ∉ ps ∧ ∀ q ∈ ps, H q = none)
    ⟨same_new hD, [], upd_same, ⟨rfl, fun i p c h => by cases h⟩, List.nodup_nil, List.not_mem_nil, fun q h => by cases h⟩ (fun i H' _ p => p.1.seq hs) (fun i x H' hi p => ?_) (fun H' p => ?_)
  · rw [List.getElem?_map] at hi
    cases hd : ds[i]? with
    | none => rw [hd] at hi; cases hi
    | some d =>
      rw [hd] at hi
      have ex : enc d = x := Option.some.inj hi
      subst ex
      refine ⟨wipe1 _ _ _, ?_⟩
      show te ((wipe σ [j]).set j (some (enc d))) H' _
      rw [wipe1b]
      obtain ⟨s1, ps, hl, R, nd, na, hn⟩ := p
      have et : (ds.take (i + 1)).map c = (ds.take i).map c ++ [c d] := by
        rw [List.take_add_one, hd, List.map_append]
        rfl
      refine step d (List.mem_of_getElem? hd) H' _ s1 (fun p H2 np s2 hp => ⟨_, s2 D _ hl, line_lt ?_, ?_⟩)
      · rw [List.length_map, R.len, List.length_map, List.length_take]
        omega
      · obtain ⟨z1, z2, z3, z4, z5, z6⟩ := lcN_turn hD s1 hl R nd na hn np s2 hp
        exact ⟨z1, ps ++ [p], z2, by rw [et]; exact z3, z4, z5, z6⟩
  · obtain ⟨s1, ps, hl, R, nd, na, hn⟩ := p
    rw [List.length_map, List.take_length] at R
    exact done D H' s1 ⟨ps, hl, R, nd, na, hD, hn⟩
/-- the same over a range from 0 -/
theorem lcRN {n : Nat} (c : Nat → List V) (hz : n ≤ 40000)
    (step : ∀ i < n, ∀ (H1 : Hp) (Qy : VK), Same H H1 → (∀ p H2, H1 p = none → Same H1 H2 → H2 p = some (.lst (c i)) → Qy (.ref p) H2) → te (σ.set j (some (nv i))) H1 Qy)
    (done : ∀ D H1, Same H H1 → LolN H H1 D ((List.range n).map c) → P D H1) :
    ∀ D, H D = none → ∃ W : Nat → Nat → Hp → Prop, (∃ m, W 0 m (upd H D (.lst []))) ∧ ∀ i m H, W i m H →
      ((Itr 0 n).stop i H ∧ P D H) ∨ ((Itr 0 n).go i H ∧ ∃ Nx : Hp → Prop, (∀ H', Nx H' → ∃ m', m' < m ∧ W (i + 1) m' H') ∧ ∀ x H', (Itr 0 n).yld i H x H' → gName j x (wipe σ [j]) H' fun σ2 H2 => wipe σ2 [j] = wipe σ [j] ∧ tYes σ2 H2 fun b H3 =>
        if b = true then te σ2 H3 fun y H4 => ∃ acc, H4 D = some (.lst acc) ∧ acc.length < sizeLine ∧ Nx (upd H4 D (.lst (acc ++ [y]))) else Nx H3) := by
  intro D hD
  refine lc_range (fun i H' => Same H H' ∧ ∃ ps : List Addr, H' D = some (.lst (ps.map V.ref)) ∧ Rows H' ps ((List.range i).map c) ∧ ps.Nodup ∧ D ∉ ps ∧ ∀ q ∈ ps, H q = none)
    ⟨same_new hD, [], upd_same, ⟨rfl, fun i p c h => by cases h⟩, List.nodup_nil, List.not_mem_nil, fun q h => by cases h⟩ (fun i H' hi p => ?_) (fun H' p => ?_)
  · refine ⟨wipe1 _ _ _, ?_⟩
    show te ((wipe σ [j]).set j (some (.int ((0 : Int) + (i : Int))))) H' _
    rw [Int.zero_add, wipe1b]
    obtain ⟨s1, ps, hl, R, nd, na, hn⟩ := p
    have et : (List.range (i + 1)).map c = (List.range i).map c ++ [c i] := by
      rw [List.range_succ, List.map_append]
      rfl
    refine step i hi H' _ s1 (fun p H2 np s2 hp => ⟨_, s2 D _ hl, line_lt ?_, ?_⟩)
    · rw [List.length_map, R.len, List.length_map, List.length_range]
      omega
    · obtain ⟨z1, z2, z3, z4, z5, z6⟩ := lcN_turn hD s1 hl R nd na hn np s2 hp
      exact ⟨z1, ps ++ [p], z2, by rw [et]; exact z3, z4, z5, z6⟩
  · obtain ⟨s1, ps, hl, R, nd, na, hn⟩ := p
    exact done D H' s1 ⟨ps, hl, R, nd, na, hD, hn⟩
end
end Sp

namespace Sp
/-! ### numbers laid over one another -/
def xo : List Nat → Nat
  | [] => 0
  | a :: r => a ^^^ xo r
theorem xo_append : ∀ l m : List Nat, xo (l ++ m) = xo l ^^^ xo m
  | [], m => (Nat.zero_xor _).symm
  | a :: r, m => by
    show a ^^^ xo (r ++ m) = (a ^^^ xo r) ^^^ xo m
    rw [xo_append r m, Nat.xor_assoc]
theorem xo_perm {l m : List Nat} (h : l.Perm m) : xo l = xo m := by
  induction h with
  | nil => rfl
  | cons a _ ih => show a ^^^ xo _ = a ^^^ xo _; rw [ih]
  | swap a b r =>
    show b ^^^ (a ^^^ xo r) = a ^^^ (b ^^^ xo r)
    rw [← Nat.xor_assoc, ← Nat.xor_assoc, Nat.xor_comm b a]
  | trans _ _ h1 h2 => exact h1.trans h2
theorem xo_reverse (l : List Nat) : xo l.reverse = xo l := xo_perm (List.reverse_perm l)
theorem xo_single (a : Nat) : xo [a] = a := Nat.xor_zero a
theorem xo_twice (l : List Nat) : xo (l ++ l.reverse) = 0 := by rw [xo_append, xo_reverse, Nat.xor_self]
theorem xo_with (l : List Nat) : xo (l ++ [xo l]) = 0 := by rw [xo_append, xo_single, Nat.xor_self]
theorem xor_mod_two (a b : Nat) : (a ^^^ b) % 2 = (a % 2 + b % 2) % 2 := by
  have h := @Nat.xor_mod_two_pow a b 1
  rw [Nat.pow_one] at h
  rw [h]
  have ha : a % 2 = 0 ∨ a % 2 = 1 := by omega
  have hb : b % 2 = 0 ∨ b % 2 = 1 := by omega
  rcases ha with e | e <;> rcases hb with f | f <;> rw [e, f] <;> rfl
theorem xo_mod_two : ∀ l : List Nat, xo l % 2 = (l.map (· % 2)).sum % 2
  | [] => rfl
  | a :: r => by
    show (a ^^^ xo r) % 2 = _
    rw [xor_mod_two, xo_mod_two r, List.map_cons, List.sum_cons]
    omega
theorem xo_half : ∀ l : List Nat, xo ((l.filter fun n => decide (1 < n)).map (· / 2)) = xo l / 2
  | [] => rfl
  | a :: r => by
    show _ = (a ^^^ xo r) / 2
    rw [Nat.xor_div_two, ← xo_half r, List.filter_cons]
    by_cases h : 1 < a
    · rw [if_pos (decide_eq_true h)]
      rfl
    · rw [if_neg (by simpa using h)]
      have e : a / 2 = 0 := by omega
      rw [e, Nat.zero_xor]
theorem xo_lt : ∀ {l : List Nat} {k : Nat}, (∀ x ∈ l, x < 2 ^ k) → xo l < 2 ^ k
  | [], k, _ => Nat.two_pow_pos k
  | a :: r, k, h => Nat.xor_lt_two_pow (h a (List.mem_cons_self ..)) (xo_lt fun x hx => h x (List.mem_cons_of_mem _ hx))
theorem bit_of (x k : Nat) : x / 2 ^ k % 2 = if x.testBit k then 1 else 0 := by
  rw [Nat.testBit_eq_decide_div_mod_eq]
  by_cases h : x / 2 ^ k % 2 = 1
  · rw [if_pos (decide_eq_true h), h]
  · rw [if_neg (by simpa using h)]
    omega
theorem xor_bit (a b k : Nat) : (a ^^^ b) / 2 ^ k % 2 = (a / 2 ^ k % 2 + b / 2 ^ k % 2) % 2 := by
  rw [bit_of, bit_of, bit_of, Nat.testBit_xor]
  cases a.testBit k <;> cases b.testBit k <;> rfl
theorem xo_bit : ∀ (l : List Nat) (k : Nat), xo l / 2 ^ k % 2 = (l.filter fun n => decide (n / 2 ^ k % 2 = 1)).length % 2
  | [], k => by
    show 0 / 2 ^ k % 2 = 0
    rw [Nat.zero_div]
  | a :: r, k => by
    show (a ^^^ xo r) / 2 ^ k % 2 = _
    rw [xor_bit, xo_bit r k, List.filter_cons]
    by_cases h : a / 2 ^ k % 2 = 1
    · rw [if_pos (decide_eq_true h), List.length_cons, h]
      omega
    · rw [if_neg (by simpa using h)]
      have e : a / 2 ^ k % 2 = 0 := by omega
      rw [e]
      omega
theorem mod_step (x k : Nat) : x % 2 ^ (k + 1) = x % 2 ^ k + 2 ^ k * (x / 2 ^ k % 2) := Nat.mod_pow_succ
end Sp

namespace Sp
open PySem PySem.Spec PyProof.Rows L2
/-! ### data: lists of numbers, webs, moves -/
def dNs (l : List Nat) : PyData := .list (l.map fun n : Nat => .int (n : Int))
def dWeb (W : List (List Nat)) : PyData := .list (W.map dNs)
/-- data of one depth below d that can be laid -/
theorem lay_all {α : Type} (f : α → PyData) : ∀ l : List α, (∀ x ∈ l, (f x).canLay0 = true) → PyData.canLayAll0 (l.map f) = true
  | [], _ => rfl
  | a :: r, h => by
    show ((f a).canLay0 && PyData.canLayAll0 (r.map f)) = true
    rw [h a (List.mem_cons_self ..), lay_all f r fun x hx => h x (List.mem_cons_of_mem _ hx)]
    rfl
theorem depth_all {α : Type} (f : α → PyData) (d : Nat) : ∀ l : List α, (∀ x ∈ l, (f x).depth ≤ d) → PyData.depthAll (l.map f) ≤ d
  | [], _ => Nat.zero_le _
  | a :: r, h => by
    show max (f a).depth (PyData.depthAll (r.map f)) ≤ d
    exact Nat.max_le.mpr ⟨h a (List.mem_cons_self ..), depth_all f d r fun x hx => h x (List.mem_cons_of_mem _ hx)⟩
/-- data that can be compared, d deep -/
def Flt (d : Nat) (x : PyData) : Prop := x.canLay0 = true ∧ x.depth ≤ d
theorem Flt.shaped {d : Nat} {x : PyData} (h : Flt d x) (hd : d ≤ 64) : SeqAt.shaped x = true := by
  unfold SeqAt.shaped
  rw [h.1, decide_eq_true (Nat.le_trans h.2 hd)]
  rfl
theorem Flt.refl {d : Nat} {x : PyData} (h : Flt d x) : PyData.eqv x x = true := SeqAt.eqv_refl x h.1
theorem flt_int (n : Int) : Flt 1 (.int n) := ⟨rfl, Nat.le_of_ble_eq_true rfl⟩
theorem flt_bool (n : Bool) : Flt 1 (.bool n) := ⟨rfl, Nat.le_of_ble_eq_true rfl⟩
theorem flt_list {α : Type} {d : Nat} (f : α → PyData) (l : List α) (h : ∀ x ∈ l, Flt d (f x)) : Flt (d + 1) (.list (l.map f)) := by
  refine ⟨lay_all f l fun x hx => (h x hx).1, ?_⟩
  have h1 := depth_all f d l fun x hx => (h x hx).2
  show PyData.depthAll (l.map f) + 1 ≤ d + 1
  omega
theorem flt_tup {α : Type} {d : Nat} (f : α → PyData) (l : List α) (h : ∀ x ∈ l, Flt d (f x)) : Flt (d + 1) (.tuple (l.map f)) := by
  refine ⟨lay_all f l fun x hx => (h x hx).1, ?_⟩
  have h1 := depth_all f d l fun x hx => (h x hx).2
  show PyData.depthAll (l.map f) + 1 ≤ d + 1
  omega
theorem flt_ns (l : List Nat) : Flt 2 (dNs l) := flt_list _ l fun n _ => flt_int n
theorem flt_web (W : List (List Nat)) : Flt 3 (dWeb W) := flt_list _ W fun r _ => flt_ns r
theorem eqv_all {α : Type} [DecidableEq α] (f : α → PyData) (hf : ∀ a b, PyData.eqv (f a) (f b) = decide (a = b)) : ∀ l m : List α, PyData.eqvAll (l.map f) (m.map f) = decide (l = m)
  | [], [] => rfl
  | [], b :: m => rfl
  | a :: l, [] => rfl
  | a :: l, b :: m => by
    show (PyData.eqv (f a) (f b) && PyData.eqvAll (l.map f) (m.map f)) = _
    rw [hf, eqv_all f hf l m, Bool.eq_iff_iff, Bool.and_eq_true, decide_eq_true_iff, decide_eq_true_iff, decide_eq_true_iff, List.cons.injEq]
theorem eqv_ns (l m : List Nat) : PyData.eqv (dNs l) (dNs m) = decide (l = m) :=
  eqv_all (fun n : Nat => PyData.int (n : Int)) (fun a b => by
    show ((a : Int) == (b : Int)) = decide (a = b)
    rw [Bool.eq_iff_iff, beq_iff_eq, decide_eq_true_iff]
    exact Int.ofNat_inj) l m
theorem eqv_web (l m : List (List Nat)) : PyData.eqv (dWeb l) (dWeb m) = decide (l = m) := eqv_all dNs eqv_ns l m
section
variable {K : PySem.W.Frag} {H : Hp} {a b : Addr} {Q : VK}
theorem dpAll_map {α : Type} (e : α → V) (f : α → PyData) : ∀ l : List α, (∀ x ∈ l, Dp K H (e x) (f x)) → DpAll K H (l.map e) (l.map f)
  | [], _ => .nil
  | x :: r, h => .cons (h x (List.mem_cons_self ..)) (dpAll_map e f r fun y hy => h y (List.mem_cons_of_mem _ hy))
theorem dp_ns {l : List Nat} (h : SqL K H a (nvs l)) : Dp K H (.ref a) (dNs l) := .lst h (dpAll_map nv _ l fun n _ => .int n)
theorem dpAll_rows : ∀ {ps : List Addr} {W : List (List Nat)}, Rows H ps (W.map nvs) → DpAll K H (ps.map V.ref) (W.map dNs)
  | [], [], _ => .nil
  | [], _ :: _, r => by have := r.len; simp at this
  | _ :: _, [], r => by have := r.len; simp at this
  | p :: ps, w :: W, r => by
    refine .cons (dp_ns (.of (r.at_ 0 p _ rfl rfl))) (dpAll_rows ⟨?_, fun i q c h1 h2 => r.at_ (i + 1) q c h1 h2⟩)
    have := r.len
    simpa using this
theorem dp_web {W : List (List Nat)} (h : Lol H a (W.map nvs)) : Dp K H (.ref a) (dWeb W) := let ⟨ps, e, r⟩ := h; .lst (.of e) (dpAll_rows r)
theorem eq_dp {d : Nat} {x y : V} {dx dy : PyData} (hx : Dp K H x dx) (hy : Dp K H y dy) (fx : Flt d dx) (fy : Flt d dy) (hd : d ≤ 64) (q : Q (.bl (PyData.eqv dx dy)) H) : rEqD K x y H Q := ⟨dx, dy, hx, hy, fx.shaped hd, fy.shaped hd, q⟩
theorem ne_dp {d : Nat} {x y : V} {dx dy : PyData} (hx : Dp K H x dx) (hy : Dp K H y dy) (fx : Flt d dx) (fy : Flt d dy) (hd : d ≤ 64) (q : Q (.bl (!PyData.eqv dx dy)) H) : rNeD K x y H Q := ⟨dx, dy, hx, hy, fx.shaped hd, fy.shaped hd, q⟩
theorem ne_ns {l m : List Nat} (ha : SqL K H a (nvs l)) (hb : SqL K H b (nvs m)) (q : Q (.bl (!decide (l = m))) H) : rNeD K (.ref a) (.ref b) H Q := ne_dp (dp_ns ha) (dp_ns hb) (flt_ns l) (flt_ns m) (by decide) (by rw [eqv_ns]; exact q)
theorem eq_ns {l m : List Nat} (ha : SqL K H a (nvs l)) (hb : SqL K H b (nvs m)) (q : Q (.bl (decide (l = m))) H) : rEqD K (.ref a) (.ref b) H Q := eq_dp (dp_ns ha) (dp_ns hb) (flt_ns l) (flt_ns m) (by decide) (by rw [eqv_ns]; exact q)
theorem ne_web {l m : List (List Nat)} (ha : Lol H a (l.map nvs)) (hb : Lol H b (m.map nvs)) (q : Q (.bl (!decide (l = m))) H) : rNeD K (.ref a) (.ref b) H Q := ne_dp (dp_web ha) (dp_web hb) (flt_web l) (flt_web m) (by decide) (by rw [eqv_web]; exact q)
theorem eq_web {l m : List (List Nat)} (ha : Lol H a (l.map nvs)) (hb : Lol H b (m.map nvs)) (q : Q (.bl (decide (l = m))) H) : rEqD K (.ref a) (.ref b) H Q := eq_dp (dp_web ha) (dp_web hb) (flt_web l) (flt_web m) (by decide) (by rw [eqv_web]; exact q)
/-! ### isinstance: the kinds -/
theorem kII : kitB "int" "int" = some true := by decide +kernel
theorem kIB : kitB "int" "bool" = some false := by decide +kernel
theorem kIL : kitB "int" "list" = some false := by decide +kernel
theorem kBB : kitB "bool" "bool" = some true := by decide +kernel
theorem kBI : kitB "bool" "int" = some true := by decide +kernel
theorem kLL : kitB "list" "list" = some true := by decide +kernel
theorem kTT : kitB "tuple" "tuple" = some true := by decide +kernel
theorem sh_ns (l : List Nat) : SeqAt.shaped (dNs l) = true := (flt_ns l).shaped (by decide)
theorem sh_web (l : List (List Nat)) : SeqAt.shaped (dWeb l) = true := (flt_web l).shaped (by decide)
theorem ns_refl (l : List Nat) : PyData.eqv (dNs l) (dNs l) = true := (flt_ns l).refl
theorem web_refl (l : List (List Nat)) : PyData.eqv (dWeb l) (dWeb l) = true := (flt_web l).refl
theorem notT {b : Bool} (h : b = true) : V.bl (!b) = V.bl false := by rw [h]; rfl
theorem blT {b : Bool} (h : b = true) : V.bl b = V.bl true := by rw [h]
end
/-! ### slices -/
theorem cut_map {α : Type} (f : α → V) (l : List α) (lo hi : Option Int) : cutV (l.map f) lo hi = ((l.drop (HT.sIx l.length 0 lo)).take (HT.sIx l.length l.length hi - HT.sIx l.length 0 lo)).map f := by
  unfold cutV
  rw [List.length_map, ← List.map_drop, ← List.map_take]
theorem cut_to {α : Type} (f : α → V) (l : List α) (k : Nat) : cutV (l.map f) none (some (k : Int)) = (l.take k).map f := by
  rw [cut_map, HT.sIx_none, HT.sIx_nat, List.drop_zero, Nat.sub_zero]
  congr 1
  by_cases h : k ≤ l.length
  · rw [Nat.min_eq_left h]
  · rw [Nat.min_eq_right (by omega), List.take_length, List.take_of_length_le (by omega)]
theorem cut_from {α : Type} (f : α → V) (l : List α) (k : Nat) : cutV (l.map f) (some (k : Int)) none = (l.drop k).map f := by
  rw [cut_map, HT.sIx_none, HT.sIx_nat]
  congr 1
  by_cases h : k ≤ l.length
  · rw [Nat.min_eq_left h]
    exact List.take_of_length_le (by rw [List.length_drop]; omega)
  · rw [Nat.min_eq_right (by omega), List.drop_length, List.drop_of_length_le (by omega), List.take_nil]
theorem cut_mid {α : Type} (f : α → V) (l : List α) (i k : Nat) (h : i ≤ k) : cutV (l.map f) (some (i : Int)) (some (k : Int)) = ((l.drop i).take (k - i)).map f := by
  rw [cut_map, HT.sIx_nat, HT.sIx_nat]
  congr 1
  by_cases h1 : k ≤ l.length
  · rw [Nat.min_eq_left h1, Nat.min_eq_left (by omega)]
  · by_cases h2 : i ≤ l.length
    · rw [Nat.min_eq_right (by omega), Nat.min_eq_left h2, List.take_of_length_le (by rw [List.length_drop]; omega), List.take_of_length_le (by rw [List.length_drop]; omega)]
    · rw [Nat.min_eq_right (by omega), Nat.min_eq_right (by omega), List.drop_of_length_le (Nat.le_refl _), List.drop_of_length_le (by omega), List.take_nil, List.take_nil]
end Sp

namespace Sp
open PySem PySem.Spec PyProof.Rows L2
/-! ### laid_over -/
def sp_laid_over (K : PySem.W.Frag) : Sp := fun vs H Q _ => ∃ (a : Addr) (l : List Nat), vs = [.ref a] ∧ SqL K H a (nvs l) ∧ l.length ≤ 10000 ∧ (∀ x ∈ l, x < 2 ^ 400) ∧ ∀ H', Same H H' → Q (nv (xo l)) H'
/-- slots: 0 numbers, 1 found, 2 power, 3 left, 4 number -/
def N_laid_over : List Str := ["numbers", "found", "power", "left", "number"]
def t_laid_over (K : PySem.W.Frag) : TS :=
    tSeq (tAsg (tC (.int 0)) (gName 1))
    (tSeq (tAsg (tC (.int 1)) (gName 2))
    (tSeq (tAsg (tCB (rList K) (tCons (tVar 0) (tNil))) (gName 3))
    (tSeq (tWhile (tTest (tOp rGt (tCB (rLen K) (tCons (tVar 3) (tNil))) (tC (.int 0)))) (tSeq (tAsg (tOp rAdd (tVar 1) (tOp rMul (tOp rMod (tCB (rSum K) (tCons (tLc (iList K (tVar 3)) (gName 4) (tYes) (tOp rMod (tVar 4) (tC (.int 2))) [4]) (tNil))) (tC (.int 2))) (tVar 2))) (gName 1))
    (tSeq (tAsg (tOp rMul (tVar 2) (tC (.int 2))) (gName 2))
    (tAsg (tLc (iList K (tVar 3)) (gName 4) (tTest (tOp rGt (tVar 4) (tC (.int 1)))) (tOp rDiv (tVar 4) (tC (.int 2))) [4]) (gName 3)))))
    (tRet (tVar 1)))))
theorem r_laid_over {K : PySem.W.Frag} (vs : List V) (H : Hp) (Q : VK) (E : XK) (h : sp_laid_over K vs H Q E) : t_laid_over K { nx := fun _ H' => Q .non H', rt := Q } (start N_laid_over vs) H := by
  obtain ⟨a, l, rfl, hl, hz, hx, q⟩ := h
  -- left = list(numbers)
  refine ⟨.ref a, rfl, a, _, rfl, .inl hl, fun p np => ?_⟩
  -- while len(left) > 0
  refine ⟨fun m σ H1 => ∃ (r : Addr) (l' : List Nat) (f k : Nat) (y : Option V), σ = [some (.ref a), some (nv f), some (nv (2 ^ k)), some (.ref r), y] ∧ Same H H1 ∧ SqL K H1 r (nvs l') ∧ l'.length ≤ 10000 ∧ (∀ x ∈ l', x < 2 ^ m) ∧ (l' = [] ∨ 1 ≤ m) ∧ f + 2 ^ k * xo l' = xo l,
    ⟨400, p, l, 0, 0, none, rfl, same_new np, .of upd_same, hz, hx, .inr (by decide), by simp⟩, fun m σ H1 hW => ?_⟩
  obtain ⟨r, l', f, k, y, rfl, s1, hr, hz', hx', hm, e⟩ := hW
  refine ⟨.ref r, rfl, r, _, rfl, .inl hr, _, _, rfl, rfl, _, rfl, ite2 (fun c => ?_) (fun c => ?_)⟩
  · have hne : l' ≠ [] := by
      intro z
      subst z
      exact absurd c (by decide)
    have hm1 : 1 ≤ m := hm.resolve_left hne
    refine ⟨fun σ' H' => ∃ (r : Addr) (l' : List Nat) (f k : Nat) (y : Option V), σ' = [some (.ref a), some (nv f), some (nv (2 ^ k)), some (.ref r), y] ∧ Same H H' ∧ SqL K H' r (nvs l') ∧ l'.length ≤ 10000 ∧ (∀ x ∈ l', x < 2 ^ (m - 1)) ∧ (l' = [] ∨ 1 ≤ m - 1) ∧ f + 2 ^ k * xo l' = xo l,
      fun σ' H' hN => ⟨m - 1, by omega, hN⟩, ?_⟩
    -- found = found + sum([number % 2 for number in left]) % 2 * power
    refine ⟨nv f, rfl, .ref r, rfl, r, rfl, ⟨_, hr⟩, lcL l' nv (fun _ => true) (fun n => nv (n % 2)) hr (by omega) (fun d hd H2 Qy Qf s2 hy _ => ?_) (fun D H2 _ s2 hD => ?_)⟩
    · refine ⟨nv d, rfl, (d : Int), 2, rfl, rfl, (show (0 : Int) < 2 by decide), ?_⟩
      exact hy rfl H2 (Same.refl _)
    · have hD2 : SqL K H2 D ((l'.map fun n => ((n % 2 : Nat) : Int)).map V.int) := by
        have e1 : (l'.filter fun _ => true).map (fun n => nv (n % 2)) = (l'.map fun n => ((n % 2 : Nat) : Int)).map V.int := by
          rw [List.filter_eq_self.mpr (fun _ _ => rfl), List.map_map]
          rfl
        exact .of (by rw [← e1]; exact hD)
      have hsum : (l'.map fun n => ((n % 2 : Nat) : Int)).sum = (((l'.map (· % 2)).sum : Nat) : Int) := by
        rw [← sum_nat, List.map_map]
        rfl
      have hbit : (l'.map fun n => ((n % 2 : Nat) : Int)).sum % 2 = ((xo l' % 2 : Nat) : Int) := by
        rw [hsum, xo_mod_two]
        omega
      refine ⟨D, _, rfl, hD2, _, 2, rfl, rfl, (show (0 : Int) < 2 by decide), nv (2 ^ k), rfl, _, ((2 ^ k : Nat) : Int), rfl, rfl, .inl (by rw [hbit]; omega), (f : Int), _, rfl, rfl, ?_⟩
      -- power = power * 2
      refine ⟨nv (2 ^ k), rfl, ((2 ^ k : Nat) : Int), 2, rfl, rfl, .inr (by decide), ?_⟩
      -- left = [..]
      have hr2 : SqL K H2 r (nvs l') := s2.seq hr
      refine ⟨.ref r, rfl, r, rfl, ⟨_, hr2⟩, lcL l' nv (fun n => decide (1 < n)) (fun n => nv (n / 2)) hr2 (by omega) (fun d hd H3 Qy Qf s3 hy hf => ?_) (fun D3 H3 _ s3 hD3 => ?_)⟩
      · refine ⟨nv d, rfl, (d : Int), 1, rfl, rfl, _, rfl, ite2 (fun c2 => ?_) (fun c2 => ?_)⟩
        · refine ⟨nv d, rfl, (d : Int), 2, rfl, rfl, ⟨by decide, by decide⟩, ?_⟩
          have c3 : 1 < d := by
            have := of_decide_eq_true c2
            omega
          exact hy (decide_eq_true c3) H3 (Same.refl _)
        · have c3 : ¬ 1 < d := fun z => c2 (decide_eq_true (by omega))
          exact hf (decide_eq_false c3) H3 (Same.refl _)
      · refine ⟨D3, (l'.filter fun n => decide (1 < n)).map (· / 2), f + xo l' % 2 * 2 ^ k, k + 1, y, ?_, s1.trans (s2.trans s3), .of ?_, ?_, ?_, ?_, ?_⟩
        · rw [hbit]
          show [some (V.ref a), some (V.int ((f : Int) + ((xo l' % 2 : Nat) : Int) * ((2 ^ k : Nat) : Int))), some (V.int (((2 ^ k : Nat) : Int) * 2)), some (V.ref D3), y] = _
          have e5 : (f : Int) + ((xo l' % 2 : Nat) : Int) * ((2 ^ k : Nat) : Int) = ((f + xo l' % 2 * 2 ^ k : Nat) : Int) := by
            rw [Int.natCast_add, Int.natCast_mul]
          have e6 : ((2 ^ k : Nat) : Int) * 2 = ((2 ^ (k + 1) : Nat) : Int) := by
            rw [Nat.pow_succ, Int.natCast_mul]
            rfl
          rw [e5, e6]
        · rw [hD3]
          unfold nvs
          rw [List.map_map]
          rfl
        · rw [List.length_map]
          exact Nat.le_trans (List.length_filter_le _ _) hz'
        · intro x hx2
          obtain ⟨n, hn, rfl⟩ := List.mem_map.mp hx2
          have h1 := hx' n (List.mem_filter.mp hn).1
          have e2 : 2 ^ m = 2 ^ (m - 1) * 2 := by rw [← Nat.pow_succ]; congr 1; omega
          rw [e2] at h1
          show n / 2 < 2 ^ (m - 1)
          omega
        · by_cases h1 : 1 ≤ m - 1
          · exact .inr h1
          · refine .inl ?_
            have e2 : m = 1 := by omega
            subst e2
            rw [List.map_eq_nil_iff, List.filter_eq_nil_iff]
            intro n hn
            have := hx' n hn
            simp
            omega
        · rw [xo_half]
          have e3 : xo l' = 2 * (xo l' / 2) + xo l' % 2 := by omega
          rw [← e, Nat.pow_succ]
          generalize xo l' / 2 = u at *
          generalize xo l' % 2 = v at *
          rw [e3, Nat.mul_add, ← Nat.mul_assoc, Nat.mul_comm v]
          omega
  · -- return found
    have h0 : l' = [] := by
      cases l' with
      | nil => rfl
      | cons x t => exact absurd (decide_eq_true (by rw [nvs_length, List.length_cons]; omega)) c
    subst h0
    refine ⟨nv f, rfl, ?_⟩
    have e2 : f = xo l := by
      rw [← e]
      simp [xo]
    rw [e2]
    exact q H1 s1
end Sp

namespace Sp
open PySem PySem.Spec PyProof.Rows L2
/-! ### _law_cell_at: some number -/
def sp__law_cell_at (K : PySem.W.Frag) : Sp := fun vs H Q _ => ∃ (a : Addr) (ns : List Int) (k : Int), vs = [.ref a, .int k] ∧ SqL K H a (ns.map V.int) ∧ 0 ≤ k ∧ ∀ c : Int, Q (.int c) H
/-- slots: 0 _law_script, 1 _law_k -/
def N__law_cell_at : List Str := ["_law_script", "_law_k"]
def t__law_cell_at (K : PySem.W.Frag) : TS :=
    tSeq (tIfS (tTest (tOp rLt (tVar 1) (tCB (rLen K) (tCons (tVar 0) (tNil))))) (tRet (tOp (rIxL K) (tVar 0) (tVar 1))) (tNext))
    (tRet (tC (.int 0)))
theorem r__law_cell_at {K : PySem.W.Frag} (vs : List V) (H : Hp) (Q : VK) (E : XK) (h : sp__law_cell_at K vs H Q E) : t__law_cell_at K { nx := fun _ H' => Q .non H', rt := Q } (start N__law_cell_at vs) H := by
  obtain ⟨a, ns, k, rfl, hs, h0, q⟩ := h
  refine ⟨.int k, rfl, .ref a, rfl, a, _, rfl, .inl hs, k, _, rfl, rfl, _, rfl, ite2 (fun c => ?_) (fun _ => q 0)⟩
  have c1 : k < ((ns.map V.int).length : Int) := of_decide_eq_true c
  rw [List.length_map] at c1
  have h1 : k.toNat < ns.length := by omega
  have h2 : (ns.map V.int)[k.toNat]? = some (.int ns[k.toNat]) := by
    rw [List.getElem?_map, List.getElem?_eq_getElem h1]
    rfl
  exact ⟨.ref a, rfl, .int k, rfl, a, _, k, _, rfl, rfl, hs, at_of (j := k.toNat) (by omega) h2, q _⟩
end Sp

namespace Sp
open PySem PySem.Spec PyProof.Rows L2
/-! ### _law_laid: the same number by the powers -/
def sp__law_laid (K : PySem.W.Frag) : Sp := fun vs H Q _ => ∃ (a : Addr) (l : List Nat), vs = [.ref a] ∧ SqL K H a (nvs l) ∧ l.length ≤ 10000 ∧ (∀ x ∈ l, x < 2 ^ 400) ∧ ∀ H', Same H H' → Q (nv (xo l)) H'
/-- slots: 0 _law_numbers, 1 _law_found, 2 _law_power, 3 _law_number -/
def N__law_laid : List Str := ["_law_numbers", "_law_found", "_law_power", "_law_number"]
def t__law_laid (K : PySem.W.Frag) : TS :=
    tSeq (tAsg (tC (.int 0)) (gName 1))
    (tSeq (tAsg (tC (.int 1)) (gName 2))
    (tSeq (tWhile (tB (tCB (rAny K) (tCons (tLc (iList K (tVar 0)) (gName 3) (tYes) (tOp rGe (tVar 3) (tVar 2)) [3]) (tNil)))) (tMid (tIfS (tTest (tOp rEq (tOp rMod (tCB (rLen K) (tCons (tLc (iList K (tVar 0)) (gName 3) (tTest (tOp rEq (tOp rMod (tOp rDivW (tVar 3) (tVar 2)) (tC (.int 2))) (tC (.int 1)))) (tVar 3) [3]) (tNil))) (tC (.int 2))) (tC (.int 1)))) (tAsg (tOp rAdd (tVar 1) (tVar 2)) (gName 1)) (tNext))
    (tAsg (tOp rMul (tVar 2) (tC (.int 2))) (gName 2))))
    (tRet (tVar 1))))
theorem r__law_laid {K : PySem.W.Frag} (vs : List V) (H : Hp) (Q : VK) (E : XK) (h : sp__law_laid K vs H Q E) : t__law_laid K { nx := fun _ H' => Q .non H', rt := Q } (start N__law_laid vs) H := by
  obtain ⟨a, l, rfl, hl, hz, hx, q⟩ := h
  refine ⟨fun m σ H1 => ∃ (k : Nat) (y : Option V), σ = [some (.ref a), some (nv (xo l % 2 ^ k)), some (nv (2 ^ k)), y] ∧ Same H H1 ∧ m = 401 - k ∧ k ≤ 400, ⟨401, 0, none, ?_, Same.refl _, rfl, by decide⟩, fun m σ H1 hW => ?_⟩
  · show _ = [some (V.ref a), some (nv (xo l % 1)), _, _]
    rw [Nat.mod_one]
    rfl
  obtain ⟨k, y, rfl, s1, em, hk⟩ := hW
  have hl1 : SqL K H1 a (nvs l) := s1.seq hl
  refine ⟨.ref a, rfl, a, rfl, ⟨_, hl1⟩, lcL l nv (fun _ => true) (fun n => .bl (decide (2 ^ k ≤ n))) hl1 (by omega) (fun d hd H2 Qy Qf s2 hy _ => ?_) (fun D H2 _ s2 hD => ?_)⟩
  · refine ⟨nv d, rfl, nv (2 ^ k), rfl, (d : Int), ((2 ^ k : Nat) : Int), rfl, rfl, ?_⟩
    have e1 : decide (((2 ^ k : Nat) : Int) ≤ (d : Int)) = decide (2 ^ k ≤ d) := by
      rw [Bool.eq_iff_iff, decide_eq_true_iff, decide_eq_true_iff]
      omega
    show Qy (.bl (decide (((2 ^ k : Nat) : Int) ≤ (d : Int)))) H2
    rw [e1]
    exact hy rfl H2 (Same.refl _)
  · rw [List.filter_eq_self.mpr (fun _ _ => rfl)] at hD
    have hD2 : SqL K H2 D ((l.map fun n => decide (2 ^ k ≤ n)).map V.bl) := .of (by rw [List.map_map]; exact hD)
    have s12 := s1.trans s2
    refine ⟨D, _, rfl, hD2, _, rfl, ite2 (fun c => ?_) (fun c => ?_)⟩
    · have hk4 : k < 400 := by
        rw [List.any_map, List.any_eq_true] at c
        obtain ⟨x, hx1, hx2⟩ := c
        have h1 : 2 ^ k ≤ x := of_decide_eq_true hx2
        have h2 := hx x hx1
        have h3 : 2 ^ k < 2 ^ 400 := Nat.lt_of_le_of_lt h1 h2
        exact (Nat.pow_lt_pow_iff_right (by decide)).mp h3
      refine ⟨fun σ' H' => ∃ (y : Option V), σ' = [some (.ref a), some (nv (xo l % 2 ^ (k + 1))), some (nv (2 ^ (k + 1))), y] ∧ Same H H', fun σ' H' hN => ?_, ?_⟩
      · obtain ⟨y', e1, e2⟩ := hN
        exact ⟨401 - (k + 1), by omega, k + 1, y', e1, e2, rfl, by omega⟩
      -- the if, with the word: found is the rest by the next power
      refine ⟨fun σ' H' => σ' = [some (.ref a), some (nv (xo l % 2 ^ (k + 1))), some (nv (2 ^ k)), y] ∧ Same H H', ?_, ?_⟩
      · have hl2 : SqL K H2 a (nvs l) := s12.seq hl
        refine ⟨.ref a, rfl, a, rfl, ⟨_, hl2⟩, lcL l nv (fun n => decide (n / 2 ^ k % 2 = 1)) nv hl2 (by omega) (fun d hd H3 Qy Qf s3 hy hf => ?_) (fun D3 H3 _ s3 hD3 => ?_)⟩
        · have hdv : CDivW (d : Int) ((2 ^ k : Nat) : Int) := wide_div (b := k + 1) (Int.natCast_pos.mpr (Nat.two_pow_pos k)) (by
            rw [Int.natAbs_natCast]
            exact Nat.pow_lt_pow_of_lt (by decide) (Nat.lt_succ_self k)) (by omega) (by omega)
          refine ⟨nv d, rfl, nv (2 ^ k), rfl, (d : Int), ((2 ^ k : Nat) : Int), rfl, rfl, hdv, (d : Int) / ((2 ^ k : Nat) : Int), 2, rfl, rfl, (show (0 : Int) < 2 by decide), rfl, _, rfl, ?_⟩
          have e1 : (d : Int) / ((2 ^ k : Nat) : Int) % 2 = ((d / 2 ^ k % 2 : Nat) : Int) := by
            rw [← Int.natCast_ediv]
            omega
          show if decide (V.int ((d : Int) / ((2 ^ k : Nat) : Int) % 2) = V.int 1) = true then tVar 3 _ H3 Qy else Qf H3
          rw [e1]
          refine ite2 (fun c2 => ?_) (fun c2 => ?_)
          · have c3 : d / 2 ^ k % 2 = 1 := by
              have := V.int.inj (of_decide_eq_true c2)
              omega
            exact ⟨nv d, rfl, hy (decide_eq_true c3) H3 (Same.refl _)⟩
          · have c3 : ¬ d / 2 ^ k % 2 = 1 := fun z => c2 (decide_eq_true (by rw [z]; rfl))
            exact hf (decide_eq_false c3) H3 (Same.refl _)
        · refine ⟨D3, _, rfl, .inl (.of hD3), _, 2, rfl, rfl, (show (0 : Int) < 2 by decide), rfl, _, rfl, ?_⟩
          have eb := xo_bit l k
          have es := mod_step (xo l) k
          have hlen : (((l.filter fun n => decide (n / 2 ^ k % 2 = 1)).map nv).length : Int) % 2 = ((xo l / 2 ^ k % 2 : Nat) : Int) := by
            rw [List.length_map, eb]
            omega
          refine ite2 (fun c2 => ?_) (fun c2 => ?_)
          · have c3 : xo l / 2 ^ k % 2 = 1 := by
              have := V.int.inj (of_decide_eq_true c2)
              rw [hlen] at this
              omega
            refine ⟨nv (xo l % 2 ^ k), rfl, nv (2 ^ k), rfl, _, _, rfl, rfl, ?_, s12.trans s3⟩
            rw [es, c3, Nat.mul_one]
            rfl
          · have c3 : xo l / 2 ^ k % 2 = 0 := by
              have : ¬ xo l / 2 ^ k % 2 = 1 := fun z => c2 (decide_eq_true (congrArg V.int (by rw [hlen, z]; rfl)))
              omega
            refine ⟨?_, s12.trans s3⟩
            rw [es, c3, Nat.mul_zero, Nat.add_zero]
      · rintro σ' H' ⟨rfl, s3⟩
        refine ⟨nv (2 ^ k), rfl, ((2 ^ k : Nat) : Int), 2, rfl, rfl, .inr (by decide), y, ?_, s3⟩
        have e6 : ((2 ^ k : Nat) : Int) * 2 = ((2 ^ (k + 1) : Nat) : Int) := by
          rw [Nat.pow_succ, Int.natCast_mul]
          rfl
        dsimp only
        rw [e6]
        rfl
    · have hall : ∀ x ∈ l, x < 2 ^ k := fun x hx1 => by
        refine Nat.lt_of_not_le fun h => c ?_
        rw [List.any_map, List.any_eq_true]
        exact ⟨x, hx1, decide_eq_true h⟩
      refine ⟨nv (xo l % 2 ^ k), rfl, ?_⟩
      rw [Nat.mod_eq_of_lt (xo_lt hall)]
      exact q H2 s12
end Sp

namespace Sp
open PySem PySem.Spec PyProof.Rows L2
/-! ### _law_number_by -/
def numBy (c : Int) : Nat := (if c % 3 = 1 then c * ((10 : Int) ^ (59 : Int).toNat + 7) % (10 : Int) ^ (60 : Int).toNat else c / 3 % 70).toNat
theorem big1 : Builtin.Int.intBits ((10 : Int) ^ (59 : Int).toNat + 7) ≤ 400 := by decide +kernel
theorem big2 : (0 : Int) < (10 : Int) ^ (60 : Int).toNat := by decide +kernel
theorem big3 : ((10 : Int) ^ (60 : Int).toNat) ≤ ((2 ^ 400 : Nat) : Int) := by decide +kernel
theorem big4 : 70 ≤ 2 ^ 400 := by decide +kernel
def sp__law_number_by (K : PySem.W.Frag) : Sp := fun vs H Q _ => ∃ (c : Int), vs = [.int c] ∧ Builtin.Int.intBits c ≤ 1048576 ∧ Q (nv (numBy c)) H
/-- slots: 0 _law_cell -/
def N__law_number_by : List Str := ["_law_cell"]
def t__law_number_by (K : PySem.W.Frag) : TS :=
    tSeq (tIfS (tTest (tOp rEq (tOp rMod (tVar 0) (tC (.int 3))) (tC (.int 1)))) (tRet (tOp rMod (tOp rMulB (tVar 0) (tOp rAdd (tOp rPow (tC (.int 10)) (tC (.int 59))) (tC (.int 7)))) (tOp rPow (tC (.int 10)) (tC (.int 60))))) (tNext))
    (tRet (tOp rMod (tOp rDiv (tVar 0) (tC (.int 3))) (tC (.int 70))))
theorem r__law_number_by {K : PySem.W.Frag} (vs : List V) (H : Hp) (Q : VK) (E : XK) (h : sp__law_number_by K vs H Q E) : t__law_number_by K { nx := fun _ H' => Q .non H', rt := Q } (start N__law_number_by vs) H := by
  obtain ⟨c, rfl, hb, q⟩ := h
  refine ⟨.int c, rfl, c, 3, rfl, rfl, (show (0 : Int) < 3 by decide), rfl, _, rfl, ite2 (fun c1 => ?_) (fun c1 => ?_)⟩
  · have c2 : c % 3 = 1 := V.int.inj (of_decide_eq_true c1)
    have hb2 : ∀ y : Int, Builtin.Int.intBits y ≤ 400 → IntMulOk c y := fun y hy => by
      have eb : bitsLine = 134217728 := by decide
      unfold IntMulOk
      intro z
      rw [Bool.and_eq_true] at z
      have z2 := z.2
      unfold Builtin.Int.intTooBig at z2
      have z3 := of_decide_eq_true z2
      rw [eb] at z3
      omega
    refine ⟨.int c, rfl, 10, 59, rfl, rfl, ⟨by decide, by decide, by decide⟩, _, 7, rfl, rfl, c, _, rfl, rfl, hb2 _ big1, 10, 60, rfl, rfl, ⟨by decide, by decide, by decide⟩, _, _, rfl, rfl, big2, ?_⟩
    have e : V.int (c * ((10 : Int) ^ (59 : Int).toNat + 7) % (10 : Int) ^ (60 : Int).toNat) = nv (numBy c) := by
      unfold numBy
      rw [if_pos c2]
      have := Int.emod_nonneg (c * ((10 : Int) ^ (59 : Int).toNat + 7)) (Int.ne_of_gt big2)
      generalize c * ((10 : Int) ^ (59 : Int).toNat + 7) % (10 : Int) ^ (60 : Int).toNat = x at *
      exact congrArg V.int (Int.toNat_of_nonneg this).symm
    show Q (V.int (c * ((10 : Int) ^ (59 : Int).toNat + 7) % (10 : Int) ^ (60 : Int).toNat)) H
    rw [e]
    exact q
  · have c2 : ¬ c % 3 = 1 := fun z => c1 (decide_eq_true (congrArg V.int z))
    refine ⟨.int c, rfl, c, 3, rfl, rfl, ⟨by decide, by decide⟩, c / 3, 70, rfl, rfl, (show (0 : Int) < 70 by decide), ?_⟩
    have e : ((numBy c : Nat) : Int) = c / 3 % 70 := by
      unfold numBy
      rw [if_neg c2]
      omega
    dsimp only
    rw [← e]
    exact q
theorem numBy_lt (c : Int) : numBy c < 2 ^ 400 := by
  unfold numBy
  split
  · have h1 := Int.emod_lt_of_pos (c * ((10 : Int) ^ (59 : Int).toNat + 7)) big2
    have h2 := Int.emod_nonneg (c * ((10 : Int) ^ (59 : Int).toNat + 7)) (Int.ne_of_gt big2)
    have h3 := big3
    generalize c * ((10 : Int) ^ (59 : Int).toNat + 7) % (10 : Int) ^ (60 : Int).toNat = x at *
    generalize (2 ^ 400 : Nat) = y at *
    generalize (10 : Int) ^ (60 : Int).toNat = z at *
    omega
  · have h3 : (c / 3 % 70).toNat < 70 := by omega
    exact Nat.lt_of_lt_of_le h3 big4
end Sp

namespace Sp
open PySem PySem.Spec PyProof.Rows L2
/-! ### the law -/
def sp_law (K : PySem.W.Frag) : Sp := fun vs H Q _ => ∃ (a : Addr) (ns : List Int), vs = [.ref a] ∧ SqL K H a (ns.map V.int) ∧ ns.length ≤ 63 ∧ (∀ z ∈ ns, Builtin.Int.intBits z ≤ 1048576) ∧ ∀ H', Q (.bl true) H'
/-- slots: 0 _law_script, 1 _law_numbers, 2 _law_handed, 3 _law_found, 4 _law_cell -/
def N_law : List Str := ["_law_script", "_law_numbers", "_law_handed", "_law_found", "_law_cell"]
def t_law (K : PySem.W.Frag) : TS :=
    tSeq (tAsg (tLc (iList K (tSl (rSlL K) (tVar 0) (tPart (tC (.int 1))) (tPart (tC (.int 13))))) (gName 4) (tYes) (tCall (sp__law_number_by K) [] E0 (tCons (tVar 4) (tNil))) [4]) (gName 1))
    (tMid (tIfS (tTest (tOp rEq (tOp rMod (tCall (sp__law_cell_at K) [] E0 (tCons (tVar 0) (tCons (tC (.int 0)) (tNil)))) (tC (.int 3))) (tC (.int 1)))) (tAsg (tOp rCat (tVar 1) (tSl (rSlL K) (tVar 1) (tNoPart) (tPart (tOp rMod (tOp rDiv (tCall (sp__law_cell_at K) [] E0 (tCons (tVar 0) (tCons (tC (.int 0)) (tNil)))) (tC (.int 3))) (tOp rAdd (tCB (rLen K) (tCons (tVar 1) (tNil))) (tC (.int 1))))))) (gName 1)) (tNext))
    (tSeq (tAsg (tCB (rList K) (tCons (tVar 1) (tNil))) (gName 2))
    (tSeq (tAsg (tCall (sp_laid_over K) [] E0 (tCons (tVar 2) (tNil))) (gName 3))
    (tSeq (tIfS (tOr (tNot (tB (tCB (rIsi K) (tCons (tVar 3) (tCons (tC (.ty "int")) (tNil)))))) (tOr (tB (tCB (rIsi K) (tCons (tVar 3) (tCons (tC (.ty "bool")) (tNil))))) (tOr (tTest (tOp rNe (tVar 3) (tCall (sp__law_laid K) [] E0 (tCons (tVar 1) (tNil))))) (tTest (tOp (rNeD K) (tVar 2) (tVar 1)))))) (tRet (tC (.bl false))) (tNext))
    (tSeq (tDrop (tBM0 K "list" rReverse (tVar 2)))
    (tSeq (tIfS (tOr (tTest (tOp rNe (tCall (sp_laid_over K) [] E0 (tCons (tVar 2) (tNil))) (tVar 3))) (tTest (tOp rNe (tCall (sp_laid_over K) [] E0 (tCons (tOp rCat (tVar 1) (tVar 2)) (tNil))) (tC (.int 0))))) (tRet (tC (.bl false))) (tNext))
    (tRet (tAndV (tOp rEq (tCall (sp_laid_over K) [] E0 (tCons (tLst (tNil)) (tNil))) (tC (.int 0))) (tOp rEq (tCall (sp_laid_over K) [] E0 (tCons (tOp rCat (tVar 1) (tLst (tCons (tVar 3) (tNil)))) (tNil))) (tC (.int 0)))))))))))
theorem r_law {K : PySem.W.Frag} (vs : List V) (H : Hp) (Q : VK) (E : XK) (h : sp_law K vs H Q E) : t_law K { nx := fun _ H' => Q .non H', rt := Q } (start N_law vs) H := by
  obtain ⟨a, ns, rfl, hs, hn, hb, q⟩ := h
  -- numbers
  refine ⟨.ref a, rfl, 1, rfl, 13, rfl, a, _, rfl, hs, fun p np => ?_⟩
  have hp : SqL K (upd H p (.lst (cutV (ns.map V.int) (some 1) (some 13)))) p (((ns.drop 1).take 12).map V.int) := .of (by rw [upd_same]; exact congrArg (fun z => some (HO.lst z)) (cut_mid V.int ns 1 13 (by decide)))
  refine ⟨p, rfl, ⟨_, hp⟩, lcL ((ns.drop 1).take 12) V.int (fun _ => true) (fun c => nv (numBy c)) hp (by rw [List.length_take]; omega) (fun d hd H1 Qy Qf s1 hy _ => ?_) (fun D H1 _ s1 hD => ?_)⟩
  · refine ⟨.int d, rfl, d, rfl, hb d (List.mem_of_mem_drop (List.mem_of_mem_take hd)), ?_⟩
    exact hy rfl H1 (Same.refl _)
  · rw [List.filter_eq_self.mpr (fun _ _ => rfl)] at hD
    have hD1 : H1 D = some (.lst (nvs (((ns.drop 1).take 12).map numBy))) := by rw [hD, nvs, List.map_map]; rfl
    have sH : Same H H1 := (same_new np).trans s1
    have hs1 : SqL K H1 a (ns.map V.int) := sH.seq hs
    refine ⟨fun σ' H' => ∃ (r : Addr) (l : List Nat), σ' = [some (.ref a), some (.ref r), none, none, none] ∧ Same H H' ∧ H' r = some (.lst (nvs l)) ∧ l.length ≤ 24 ∧ ∀ x ∈ l, x < 2 ^ 400, ?_, ?_⟩
    · have hlen : (((ns.drop 1).take 12).map numBy).length ≤ 12 := by rw [List.length_map, List.length_take]; omega
      have hall : ∀ x ∈ ((ns.drop 1).take 12).map numBy, x < 2 ^ 400 := fun x hx => by
        obtain ⟨c, _, rfl⟩ := List.mem_map.mp hx
        exact numBy_lt c
      generalize ((ns.drop 1).take 12).map numBy = l at hD1 hlen hall
      refine ⟨.ref a, rfl, a, ns, 0, rfl, hs1, Int.le_refl _, fun c => ⟨c, 3, rfl, rfl, (show (0 : Int) < 3 by decide), rfl, _, rfl, ite2 (fun _ => ?_) (fun _ => ?_)⟩⟩
      · refine ⟨.ref D, rfl, .ref D, rfl, .ref a, rfl, a, ns, 0, rfl, hs1, Int.le_refl _, fun c2 => ⟨c2, 3, rfl, rfl, ⟨by decide, by decide⟩, .ref D, rfl, D, _, rfl, .inl (.of hD1), _, 1, rfl, rfl, _, _, rfl, rfl, ?_, _, rfl, ?_⟩⟩
        · show (0 : Int) < ((nvs l).length : Int) + 1
          omega
        · dsimp only
          have hpos : (0 : Int) < ((nvs l).length : Int) + 1 := by omega
          have h0 := Int.emod_nonneg (c2 / 3) (Int.ne_of_gt hpos)
          generalize (c2 / 3) % (((nvs l).length : Int) + 1) = k at h0
          obtain ⟨k, rfl⟩ := Int.eq_ofNat_of_zero_le h0
          refine ⟨D, _, rfl, .of hD1, fun p2 np2 => ⟨D, p2, _, _, rfl, rfl, (same_new np2) _ _ hD1, upd_same, ?_, fun p3 np3 => ⟨p3, l ++ l.take k, rfl, ?_, ?_, ?_, ?_⟩⟩⟩
          · refine line_le ?_
            have := cutV_length (nvs l) none (some (k : Int))
            rw [nvs_length] at *
            omega
          · exact (sH.new np2).new np3
          · rw [upd_same, nvs_append]
            exact congrArg (fun z => some (HO.lst (nvs l ++ z))) (cut_to nv l k)
          · rw [List.length_append, List.length_take]
            omega
          · intro x hx
            rcases List.mem_append.mp hx with h | h
            · exact hall x h
            · exact hall x (List.mem_of_mem_take h)
      · exact ⟨D, l, rfl, sH, hD1, by omega, hall⟩
    · rintro σ' H2 ⟨r, l, rfl, s2, hr, hl, hx⟩
      -- handed = list(numbers)
      refine ⟨.ref r, rfl, r, _, rfl, .inl (.of hr), fun g ng => ?_⟩
      have hr2 : (upd H2 g (.lst (nvs l))) r = some (.lst (nvs l)) := same_new ng _ _ hr
      have rg : r ≠ g := ne_of_none hr ng
      -- found = laid_over(handed)
      refine ⟨.ref g, rfl, g, l, rfl, .of upd_same, by omega, hx, fun H3 s3 => ?_⟩
      have hg3 : H3 g = some (.lst (nvs l)) := s3 _ _ upd_same
      have hr3 : H3 r = some (.lst (nvs l)) := s3 _ _ hr2
      -- the tests
      refine ⟨nv (xo l), rfl, ⟨_, _, _, _, _, rfl, .ty _, .base (.int _), kit_ty kII, true, rfl, iteF ⟨nv (xo l), rfl, ⟨_, _, _, _, _, rfl, .ty _, .base (.int _), kit_ty kIB, false, rfl, iteF ⟨nv (xo l), rfl, .ref r, rfl, r, l, rfl, .of hr3, by omega, hx, fun H4 s4 => ?_⟩⟩⟩⟩⟩
      have hg4 : H4 g = some (.lst (nvs l)) := s4 _ _ hg3
      have hr4 : H4 r = some (.lst (nvs l)) := s4 _ _ hr3
      refine ⟨rfl, _, rfl, iteNS rfl ⟨.ref g, rfl, .ref r, rfl, ⟨dNs l, dNs l, dp_ns (.of hg4), dp_ns (.of hr4), sh_ns l, sh_ns l, false, notT (ns_refl l), iteF ?_⟩⟩⟩
      -- handed.reverse()
      refine ⟨.ref g, rfl, .inl ⟨rfl, _, .of hg4⟩, g, _, rfl, rfl, hg4, ?_⟩
      generalize e5 : upd H4 g (.lst (nvs l).reverse) = H5
      have hg5 : H5 g = some (.lst (nvs l.reverse)) := by rw [← e5, upd_same, nvs, nvs, List.map_reverse]
      have hr5 : H5 r = some (.lst (nvs l)) := by rw [← e5, upd_ne rg]; exact hr4
      refine ⟨.ref g, rfl, g, l.reverse, rfl, .of hg5, by rw [List.length_reverse]; omega, fun x h => hx x (List.mem_reverse.mp h), fun H6 s6 => ?_⟩
      refine ⟨nv (xo l), rfl, rfl, _, rfl, ?_⟩
      rw [xo_reverse]
      refine iteNS rfl ?_
      have hg6 := s6 _ _ hg5
      have hr6 := s6 _ _ hr5
      refine ⟨.ref r, rfl, .ref g, rfl, r, g, _, _, rfl, rfl, hr6, hg6, line_le (by rw [nvs_length, nvs_length, List.length_reverse]; omega), fun p7 np7 => ?_⟩
      refine ⟨p7, l ++ l.reverse, rfl, .of (by rw [upd_same, nvs_append]), by rw [List.length_append, List.length_reverse]; omega, fun x h => ?_, fun H8 s8 => ?_⟩
      · rcases List.mem_append.mp h with h | h
        · exact hx x h
        · exact hx x (List.mem_reverse.mp h)
      rw [xo_twice]
      refine ⟨rfl, _, rfl, iteNS rfl ?_⟩
      have hr8 := s8 _ _ (same_new (o := .lst (nvs l ++ nvs l.reverse)) np7 _ _ hr6)
      -- the last row
      refine ⟨Nat.zero_le _, fun p9 np9 => ⟨p9, [], rfl, .of upd_same, Nat.zero_le _, fun x h => (by cases h), fun H10 s10 => ⟨rfl, _, rfl, iteT ?_⟩⟩⟩
      have hr10 := s10 _ _ (same_new (o := .lst []) np9 _ _ hr8)
      refine ⟨.ref r, rfl, nv (xo l), rfl, line_le (Nat.le_of_ble_eq_true rfl), fun p11 np11 => ⟨r, p11, _, _, rfl, rfl, same_new np11 _ _ hr10, upd_same, line_le (by rw [nvs_length]; show l.length + 1 ≤ 100000; omega), fun p12 np12 => ?_⟩⟩
      refine ⟨p12, l ++ [xo l], rfl, .of (by rw [upd_same, nvs_append]; rfl), by rw [List.length_append]; show l.length + 1 ≤ 10000; omega, fun x h => ?_, fun H13 s13 => ?_⟩
      · rcases List.mem_append.mp h with h | h
        · exact hx x h
        · rw [List.mem_singleton.mp h]
          exact xo_lt hx
      rw [xo_with]
      exact ⟨rfl, q _⟩
end Sp

namespace Sp
open PySem PySem.Spec PyProof.Rows L2
/-! ### the text -/
def topS (i : Nat) : Stmt := PySem.Challenge.pw_spotsums_k06_laid_over.main.body.getD i (.Pass ⟨0, 0, 0, 0⟩)
/-! _law_number_by -/
abbrev s__law_number_by : Stmt := topS 5
theorem sc__law_number_by : FnScope N__law_number_by ["_law_cell"] (defScope s__law_number_by) := ⟨rfl, rfl, rfl, by decide +kernel, rfl, by decide +kernel, by decide +kernel⟩
abbrev FN__law_number_by (K : PySem.W.Frag) (f : Addr) (fd : FuncData) : Prop := FunD K "_law_number_by" "_law_number_by" (defArgs s__law_number_by) (defBody s__law_number_by) (defScope s__law_number_by) [] [] f fd
abbrev DF__law_number_by (P : Program) (w : World) (K : PySem.W.Frag) (mg : Str → Option Value) (base : Heap) : Prop := Df P w K mg base 1 "_law_number_by" ["_law_cell"] (sp__law_number_by K)
theorem len__law_number_by {K : PySem.W.Frag} {vs : List V} {H : Hp} {Q : VK} {E : XK} (h : sp__law_number_by K vs H Q E) : vs.length = 1 := by
  unfold sp__law_number_by at h
  repeat (first | (obtain ⟨rfl, _⟩ := h; rfl) | obtain ⟨_, h⟩ := h)
theorem ok__law_number_by {P : Program} {w : World} {K : PySem.W.Frag} {mg : Str → Option Value} {base : Heap} {f : Addr} {fd : FuncData} (B : Blt mg) (F : FN__law_number_by K f fd) : FnOk P w K mg base CX0 1 f fd ["_law_cell"] (sp__law_number_by K) := by
  have nd := sc__law_number_by.nd
  refine F.ok sc__law_number_by (fun vs H Q E h => len__law_number_by h) (fun cdv A outer s H vs Q E hr h => ⟨t__law_number_by K, PSs.nox ?_, r__law_number_by vs H Q E h⟩)
  exact (pss_cons (ps_if (pt_cmpR op_eq (pe_op op_mod (pv 0) pe_int) pe_int (nomark _)) (pss_one (ps_ret (pe_op op_mod (pe_op op_mulB (pv 0) (pe_op op_add (pe_op op_pow pe_int pe_int) pe_int)) (pe_op op_pow pe_int pe_int)))) pss_nil)
      (pss_one (ps_ret (pe_op op_mod (pe_op op_fdiv (pv 0) pe_int) pe_int))))
theorem df__law_number_by {P : Program} {w : World} {K : PySem.W.Frag} {mg : Str → Option Value} {base : Heap} {f : Addr} {fd : FuncData} (B : Blt mg) (F : FN__law_number_by K f fd) (g : mg "_law_number_by" = some (.ref f)) : DF__law_number_by P w K mg base :=
  ⟨f, fd, ok__law_number_by B F, g, F.kp, F.bindsN fun _ _ _ _ _ _ us hl => match us, hl with | [_], _ => rfl⟩
/-! _law_cell_at -/
abbrev s__law_cell_at : Stmt := topS 3
theorem sc__law_cell_at : FnScope N__law_cell_at ["_law_script", "_law_k"] (defScope s__law_cell_at) := ⟨rfl, rfl, rfl, by decide +kernel, rfl, by decide +kernel, by decide +kernel⟩
abbrev FN__law_cell_at (K : PySem.W.Frag) (f : Addr) (fd : FuncData) : Prop := FunD K "_law_cell_at" "_law_cell_at" (defArgs s__law_cell_at) (defBody s__law_cell_at) (defScope s__law_cell_at) [] [] f fd
abbrev DF__law_cell_at (P : Program) (w : World) (K : PySem.W.Frag) (mg : Str → Option Value) (base : Heap) : Prop := Df P w K mg base 1 "_law_cell_at" ["_law_script", "_law_k"] (sp__law_cell_at K)
theorem len__law_cell_at {K : PySem.W.Frag} {vs : List V} {H : Hp} {Q : VK} {E : XK} (h : sp__law_cell_at K vs H Q E) : vs.length = 2 := by
  unfold sp__law_cell_at at h
  repeat (first | (obtain ⟨rfl, _⟩ := h; rfl) | obtain ⟨_, h⟩ := h)
theorem ok__law_cell_at {P : Program} {w : World} {K : PySem.W.Frag} {mg : Str → Option Value} {base : Heap} {f : Addr} {fd : FuncData} (B : Blt mg) (F : FN__law_cell_at K f fd) : FnOk P w K mg base CX0 1 f fd ["_law_script", "_law_k"] (sp__law_cell_at K) := by
  have nd := sc__law_cell_at.nd
  refine F.ok sc__law_cell_at (fun vs H Q E h => len__law_cell_at h) (fun cdv A outer s H vs Q E hr h => ⟨t__law_cell_at K, PSs.nox ?_, r__law_cell_at vs H Q E h⟩)
  exact (pss_cons (ps_if (pt_cmpR op_lt (pv 1) (pe_callB call_len_seq (by rfl) B.len PySem.boot_len (pa_cons (pv 0) pa_nil)) (nomark _)) (pss_one (ps_ret (pe_ix ix_list (pv 0) (pv 1) (fun _ _ => rfl)))) pss_nil)
      (pss_one (ps_ret pe_int)))
theorem df__law_cell_at {P : Program} {w : World} {K : PySem.W.Frag} {mg : Str → Option Value} {base : Heap} {f : Addr} {fd : FuncData} (B : Blt mg) (F : FN__law_cell_at K f fd) (g : mg "_law_cell_at" = some (.ref f)) : DF__law_cell_at P w K mg base :=
  ⟨f, fd, ok__law_cell_at B F, g, F.kp, F.bindsN fun _ _ _ _ _ _ us hl => match us, hl with | [_, _], _ => rfl⟩
/-! laid_over -/
abbrev s_laid_over : Stmt := topS 1
theorem sc_laid_over : FnScope N_laid_over ["numbers"] (defScope s_laid_over) := ⟨rfl, rfl, rfl, by decide +kernel, rfl, by decide +kernel, by decide +kernel⟩
abbrev FN_laid_over (K : PySem.W.Frag) (f : Addr) (fd : FuncData) : Prop := FunD K "laid_over" "laid_over" (defArgs s_laid_over) (defBody s_laid_over) (defScope s_laid_over) [] [] f fd
abbrev DF_laid_over (P : Program) (w : World) (K : PySem.W.Frag) (mg : Str → Option Value) (base : Heap) : Prop := Df P w K mg base 1 "laid_over" ["numbers"] (sp_laid_over K)
theorem len_laid_over {K : PySem.W.Frag} {vs : List V} {H : Hp} {Q : VK} {E : XK} (h : sp_laid_over K vs H Q E) : vs.length = 1 := by
  unfold sp_laid_over at h
  repeat (first | (obtain ⟨rfl, _⟩ := h; rfl) | obtain ⟨_, h⟩ := h)
theorem ok_laid_over {P : Program} {w : World} {K : PySem.W.Frag} {mg : Str → Option Value} {base : Heap} {f : Addr} {fd : FuncData} (B : Blt mg) (F : FN_laid_over K f fd) : FnOk P w K mg base CX0 1 f fd ["numbers"] (sp_laid_over K) := by
  have nd := sc_laid_over.nd
  refine F.ok sc_laid_over (fun vs H Q E h => len_laid_over h) (fun cdv A outer s H vs Q E hr h => ⟨t_laid_over K, PSs.nox ?_, r_laid_over vs H Q E h⟩)
  exact (pss_cons (ps_set (i := 1) nd rfl (.inl rfl) pe_int)
      (pss_cons (ps_set (i := 2) nd rfl (.inl rfl) pe_int)
      (pss_cons (ps_set (i := 3) nd rfl (.inl rfl) (pe_callTy call_list_of (by rfl) B.list (by decide +kernel) (pa_cons (pv 0) pa_nil)))
      (pss_cons (ps_while PassesOwn.never (pt_cmpR op_gt (pe_callB call_len_seq (by rfl) B.len PySem.boot_len (pa_cons (pv 3) pa_nil)) pe_int (nomark _)) (pss_cons (ps_set (i := 1) nd rfl (.inl rfl) (pe_op op_add (pv 1) (pe_op op_mul (pe_op op_mod (pe_callB (cr_sum rfl) (by rfl) B.sum (by decide +kernel) (pa_cons (pe_lc (own := [("number", 4)]) (g := gName 4) rfl nd (pi_list (pv 3)) (blkOk_by (N := N_laid_over) (sc := defScope s_laid_over) (by decide +kernel)) (fun _ _ _ _ _ => pg_name (i := 4) nd rfl (.inl rfl)) (fun _ _ _ _ _ => pts_nil) (fun _ _ _ _ _ => (pe_op op_mod (pv 4) pe_int))) pa_nil)) pe_int) (pv 2))))
      (pss_cons (ps_set (i := 2) nd rfl (.inl rfl) (pe_op op_mul (pv 2) pe_int))
      (pss_one (ps_setLc (i := 3) (own := [("number", 4)]) (g := gName 4) rfl nd rfl rfl (sw_true rfl rfl rfl (by decide +kernel)) (pi_list (pv 3)) (blkOk_by (N := N_laid_over) (sc := defScope s_laid_over) (by decide +kernel)) (fun _ _ _ _ _ => pg_name (i := 4) nd rfl (.inl rfl)) (fun _ _ _ _ _ => (pts_one (pt_cmpR op_gt (pv 4) pe_int (nomark _)))) (fun _ _ _ _ _ => (pe_op op_fdiv (pv 4) pe_int)))))))
      (pss_one (ps_ret (pv 1)))))))
theorem df_laid_over {P : Program} {w : World} {K : PySem.W.Frag} {mg : Str → Option Value} {base : Heap} {f : Addr} {fd : FuncData} (B : Blt mg) (F : FN_laid_over K f fd) (g : mg "laid_over" = some (.ref f)) : DF_laid_over P w K mg base :=
  ⟨f, fd, ok_laid_over B F, g, F.kp, F.bindsN fun _ _ _ _ _ _ us hl => match us, hl with | [_], _ => rfl⟩
/-! _law_laid -/
abbrev s__law_laid : Stmt := topS 4
theorem sc__law_laid : FnScope N__law_laid ["_law_numbers"] (defScope s__law_laid) := ⟨rfl, rfl, rfl, by decide +kernel, rfl, by decide +kernel, by decide +kernel⟩
abbrev FN__law_laid (K : PySem.W.Frag) (f : Addr) (fd : FuncData) : Prop := FunD K "_law_laid" "_law_laid" (defArgs s__law_laid) (defBody s__law_laid) (defScope s__law_laid) [] [] f fd
abbrev DF__law_laid (P : Program) (w : World) (K : PySem.W.Frag) (mg : Str → Option Value) (base : Heap) : Prop := Df P w K mg base 1 "_law_laid" ["_law_numbers"] (sp__law_laid K)
theorem len__law_laid {K : PySem.W.Frag} {vs : List V} {H : Hp} {Q : VK} {E : XK} (h : sp__law_laid K vs H Q E) : vs.length = 1 := by
  unfold sp__law_laid at h
  repeat (first | (obtain ⟨rfl, _⟩ := h; rfl) | obtain ⟨_, h⟩ := h)
theorem ok__law_laid {P : Program} {w : World} {K : PySem.W.Frag} {mg : Str → Option Value} {base : Heap} {f : Addr} {fd : FuncData} (B : Blt mg) (F : FN__law_laid K f fd) : FnOk P w K mg base CX0 1 f fd ["_law_numbers"] (sp__law_laid K) := by
  have nd := sc__law_laid.nd
  refine F.ok sc__law_laid (fun vs H Q E h => len__law_laid h) (fun cdv A outer s H vs Q E hr h => ⟨t__law_laid K, PSs.nox ?_, r__law_laid vs H Q E h⟩)
  exact (pss_cons (ps_set (i := 1) nd rfl (.inl rfl) pe_int)
      (pss_cons (ps_set (i := 2) nd rfl (.inr rfl) pe_int)
      (pss_cons (ps_while PassesOwn.never (pt_val (pe_callB (cr_any rfl) (by rfl) B.any (by decide +kernel) (pa_cons (pe_lc (own := [("_law_number", 3)]) (g := gName 3) rfl nd (pi_list (pv 0)) (blkOk_by (N := N__law_laid) (sc := defScope s__law_laid) (by decide +kernel)) (fun _ _ _ _ _ => pg_name (i := 3) nd rfl (.inl rfl)) (fun _ _ _ _ _ => pts_nil) (fun _ _ _ _ _ => (pe_cmpR op_ge (pv 3) (pv 2) (nomark _)))) pa_nil))) (pss_mid (ps_if (pt_cmpR op_eq (pe_op op_mod (pe_callB call_len_seq (by rfl) B.len PySem.boot_len (pa_cons (pe_lc (own := [("_law_number", 3)]) (g := gName 3) rfl nd (pi_list (pv 0)) (blkOk_by (N := N__law_laid) (sc := defScope s__law_laid) (by decide +kernel)) (fun _ _ _ _ _ => pg_name (i := 3) nd rfl (.inl rfl)) (fun _ _ _ _ _ => (pts_one (pt_cmpR op_eq (pe_op op_mod (pe_op op_fdivW (pv 3) (pv 2)) pe_int) pe_int (nomark _)))) (fun _ _ _ _ _ => (pv 3))) pa_nil)) pe_int) pe_int (nomark _)) (pss_one (ps_set (i := 1) nd rfl (.inl rfl) (pe_op op_add (pv 1) (pv 2)))) pss_nil)
      (pss_one (ps_set (i := 2) nd rfl (.inr rfl) (pe_op op_mul (pv 2) pe_int)))))
      (pss_one (ps_ret (pv 1))))))
theorem df__law_laid {P : Program} {w : World} {K : PySem.W.Frag} {mg : Str → Option Value} {base : Heap} {f : Addr} {fd : FuncData} (B : Blt mg) (F : FN__law_laid K f fd) (g : mg "_law_laid" = some (.ref f)) : DF__law_laid P w K mg base :=
  ⟨f, fd, ok__law_laid B F, g, F.kp, F.bindsN fun _ _ _ _ _ _ us hl => match us, hl with | [_], _ => rfl⟩
/-! law -/
abbrev s_law : Stmt := topS 6
theorem sc_law : FnScope N_law ["_law_script"] (defScope s_law) := ⟨rfl, rfl, rfl, by decide +kernel, rfl, by decide +kernel, by decide +kernel⟩
abbrev FN_law (K : PySem.W.Frag) (f : Addr) (fd : FuncData) : Prop := FunD K "law" "law" (defArgs s_law) (defBody s_law) (defScope s_law) [] [] f fd
abbrev DF_law (P : Program) (w : World) (K : PySem.W.Frag) (mg : Str → Option Value) (base : Heap) : Prop := Df P w K mg base 2 "law" ["_law_script"] (sp_law K)
theorem len_law {K : PySem.W.Frag} {vs : List V} {H : Hp} {Q : VK} {E : XK} (h : sp_law K vs H Q E) : vs.length = 1 := by
  unfold sp_law at h
  repeat (first | (obtain ⟨rfl, _⟩ := h; rfl) | obtain ⟨_, h⟩ := h)
theorem ok_law {P : Program} {w : World} {K : PySem.W.Frag} {mg : Str → Option Value} {base : Heap} {f : Addr} {fd : FuncData} (B : Blt mg) (D__law_number_by : DF__law_number_by P w K mg base) (D__law_cell_at : DF__law_cell_at P w K mg base) (D_laid_over : DF_laid_over P w K mg base) (D__law_laid : DF__law_laid P w K mg base) (F : FN_law K f fd) : FnOk P w K mg base CX0 2 f fd ["_law_script"] (sp_law K) := by
  have nd := sc_law.nd
  refine F.ok sc_law (fun vs H Q E h => len_law h) (fun cdv A outer s H vs Q E hr h => ⟨t_law K, PSs.nox ?_, r_law vs H Q E h⟩)
  exact (pss_cons (ps_setLc (i := 1) (own := [("_law_cell", 4)]) (g := gName 4) rfl nd rfl rfl (sw_true rfl rfl rfl (by decide +kernel)) (pi_list (pe_slice sl_list (pv 0) (po_some pe_int) (po_some pe_int))) (blkOk_by (N := N_law) (sc := defScope s_law) (by decide +kernel)) (fun _ _ _ _ _ => pg_name (i := 4) nd rfl (.inl rfl)) (fun _ _ _ _ _ => pts_nil) (fun _ _ _ _ _ => (pe_cd D__law_number_by (hr.mono (by decide)) (by rfl) (pa_cons (pv 4) pa_nil))))
      (pss_mid (ps_if (pt_cmpR op_eq (pe_op op_mod (pe_cd D__law_cell_at (hr.mono (by decide)) (by rfl) (pa_cons (pv 0) (pa_cons pe_int pa_nil))) pe_int) pe_int (nomark _)) (pss_one (ps_set (i := 1) nd rfl (.inl rfl) (pe_op op_cat (pv 1) (pe_slice sl_list (pv 1) po_none (po_some (pe_op op_mod (pe_op op_fdiv (pe_cd D__law_cell_at (hr.mono (by decide)) (by rfl) (pa_cons (pv 0) (pa_cons pe_int pa_nil))) pe_int) (pe_op op_add (pe_callB call_len_seq (by rfl) B.len PySem.boot_len (pa_cons (pv 1) pa_nil)) pe_int))))))) pss_nil)
      (pss_cons (ps_set (i := 2) nd rfl (.inl rfl) (pe_callTy call_list_of (by rfl) B.list (by decide +kernel) (pa_cons (pv 1) pa_nil)))
      (pss_cons (ps_set (i := 3) nd rfl (.inl rfl) (pe_cd D_laid_over (hr.mono (by decide)) (by rfl) (pa_cons (pv 2) pa_nil)))
      (pss_cons (ps_if (PW.pt (pw_or (pt_not (pt_val (pe_callB call_isi (by rfl) B.isinstance (by decide +kernel) (pa_cons (pv 3) (pa_cons (pe_bltn (v := .ty "int") (by rfl) B.int (by decide +kernel) rfl) pa_nil))))) (pw_or (pt_val (pe_callB call_isi (by rfl) B.isinstance (by decide +kernel) (pa_cons (pv 3) (pa_cons (pe_bltn (v := .ty "bool") (by rfl) B.bool (by decide +kernel) rfl) pa_nil)))) (pw_or (pt_cmpR op_ne (pv 3) (pe_cd D__law_laid (hr.mono (by decide)) (by rfl) (pa_cons (pv 1) pa_nil)) (nomark _)) (pw_or1 (pt_cmpR (op_neD hr.units) (pv 2) (pv 1) (nomark _))))))) (pss_one (ps_ret pe_bl)) pss_nil)
      (pss_cons (ps_expr (pe_bm0 PySem.F.plainAttrs_list PySem.F.slot_list_reverse PySem.F.type_list_reverse mt_reverse (pv 2)))
      (pss_cons (ps_if (PW.pt (pw_or (pt_cmpR op_ne (pe_cd D_laid_over (hr.mono (by decide)) (by rfl) (pa_cons (pv 2) pa_nil)) (pv 3) (nomark _)) (pw_or1 (pt_cmpR op_ne (pe_cd D_laid_over (hr.mono (by decide)) (by rfl) (pa_cons (pe_op op_cat (pv 1) (pv 2)) pa_nil)) pe_int (nomark _))))) (pss_one (ps_ret pe_bl)) pss_nil)
      (pss_one (ps_ret (pe_and (pe_cmpR op_eq (pe_cd D_laid_over (hr.mono (by decide)) (by rfl) (pa_cons (pe_lst pa_nil) pa_nil)) pe_int (nomark _)) (pe_one (pe_cmpR op_eq (pe_cd D_laid_over (hr.mono (by decide)) (by rfl) (pa_cons (pe_op op_cat (pv 1) (pe_lst (pa_cons (pv 3) pa_nil))) pa_nil)) pe_int (nomark _)))))))))))))
/-! ### the head -/
def dd__law_number_by : He.DefD := ⟨("_law_number_by", none), "_law_number_by", "_law_number_by", defArgs s__law_number_by, defBody s__law_number_by, defScope s__law_number_by, [], []⟩
def dd__law_cell_at : He.DefD := ⟨("_law_cell_at", none), "_law_cell_at", "_law_cell_at", defArgs s__law_cell_at, defBody s__law_cell_at, defScope s__law_cell_at, [], []⟩
def dd_laid_over : He.DefD := ⟨("laid_over", none), "laid_over", "laid_over", defArgs s_laid_over, defBody s_laid_over, defScope s_laid_over, [], []⟩
def dd__law_laid : He.DefD := ⟨("_law_laid", none), "_law_laid", "_law_laid", defArgs s__law_laid, defBody s__law_laid, defScope s__law_laid, [], []⟩
def dd_law : He.DefD := ⟨("law", none), "law", "law", defArgs s_law, defBody s_law, defScope s_law, [], []⟩
def hfn : List He.DefD := [dd__law_number_by, dd__law_cell_at, dd_laid_over, dd__law_laid, dd_law]
def hfa : List He.Fa := [.glo "_law_number_by", .glo "_law_cell_at", .glo "laid_over", .glo "_law_laid", .glo "law", .free "len", .free "range", .free "list", .free "sum", .free "all", .free "any", .free "max", .free "min", .free "isinstance", .free "int", .free "bool", .free "tuple", .free "sorted", .free "enumerate", .free "set"]
def looseN : List Str := ["laid_over", "_law_cell_at", "_law_laid", "_law_number_by"]
abbrev HR : PySem.W.OpenRow := PySem.W.OpenLaw.row PySem.Challenge.rw_spotsums_k06_laid_over
abbrev hhk : PySem.W.Hook := He.hookD 4 hfa hfn
def hob (s : PySem.W.SharedT) : He.AlD := He.obsDG 4 hfa hfn (HandSHeadRun.getT s)
theorem hob_eq (s : PySem.W.SharedT) : hob s = hhk.obs s.abs := He.obsDG_eq (HandSHeadRun.getT_eq s)
theorem hrun (w : World) : HandSHeadRun.RunEq HR (PySem.W.view HR.prog [6]) hhk hob 3000 looseN w := by
  intro os
  kernel_rfl
theorem hfacts {P : Program} {w : World} {K : PySem.W.Frag} {h : Heap} {mg : Str → Option Value} {f : Addr} (X : K.In h) (G : h.Ns mainGlobals mg) (hlaw : mg ("law" : Str) = some (.ref f)) (c : He.SaysD hfa hfn K) :
    ∃ fd : FuncData, (∀ (s : Shared) (v : Value), BindsTo s fd ⟨[v], []⟩ [("_law_script", v)]) ∧ ∀ base : Heap, K.In base → base.Ns mainGlobals mg → FnOk P w K mg base CX0 2 f fd ["_law_script"] (sp_law K) := by
  have B : Blt mg := ⟨He.free_ok X G (c.fact 5 (f := .free "len") rfl), He.free_ok X G (c.fact 6 (f := .free "range") rfl), He.free_ok X G (c.fact 7 (f := .free "list") rfl), He.free_ok X G (c.fact 8 (f := .free "sum") rfl), He.free_ok X G (c.fact 9 (f := .free "all") rfl), He.free_ok X G (c.fact 10 (f := .free "any") rfl), He.free_ok X G (c.fact 11 (f := .free "max") rfl), He.free_ok X G (c.fact 12 (f := .free "min") rfl), He.free_ok X G (c.fact 13 (f := .free "isinstance") rfl), He.free_ok X G (c.fact 14 (f := .free "int") rfl), He.free_ok X G (c.fact 15 (f := .free "bool") rfl), He.free_ok X G (c.fact 16 (f := .free "tuple") rfl), He.free_ok X G (c.fact 17 (f := .free "sorted") rfl), He.free_ok X G (c.fact 18 (f := .free "enumerate") rfl), He.free_ok X G (c.fact 19 (f := .free "set") rfl)⟩
  obtain ⟨fd__law_number_by, F__law_number_by⟩ := c.def_ 0 (d := dd__law_number_by) rfl
  have g__law_number_by := He.glo_ok X G (c.fact 0 (f := .glo "_law_number_by") rfl)
  obtain ⟨fd__law_cell_at, F__law_cell_at⟩ := c.def_ 1 (d := dd__law_cell_at) rfl
  have g__law_cell_at := He.glo_ok X G (c.fact 1 (f := .glo "_law_cell_at") rfl)
  obtain ⟨fd_laid_over, F_laid_over⟩ := c.def_ 2 (d := dd_laid_over) rfl
  have g_laid_over := He.glo_ok X G (c.fact 2 (f := .glo "laid_over") rfl)
  obtain ⟨fd__law_laid, F__law_laid⟩ := c.def_ 3 (d := dd__law_laid) rfl
  have g__law_laid := He.glo_ok X G (c.fact 3 (f := .glo "_law_laid") rfl)
  obtain ⟨fd_law, F_law⟩ := c.def_ 4 (d := dd_law) rfl
  have e := hlaw.symm.trans (He.glo_ok X G (c.fact 4 (f := .glo "law") rfl))
  cases e
  have b := FunD.bindsA (ps := ["_law_script"]) F_law fun _ _ _ _ _ _ us hl => match us, hl with | [_], _ => rfl
  refine ⟨fd_law, fun s v => b s [v] rfl, fun base _ _ => ?_⟩
  have D__law_number_by : DF__law_number_by P w K mg base := df__law_number_by B F__law_number_by g__law_number_by
  have D__law_cell_at : DF__law_cell_at P w K mg base := df__law_cell_at B F__law_cell_at g__law_cell_at
  have D_laid_over : DF_laid_over P w K mg base := df_laid_over B F_laid_over g_laid_over
  have D__law_laid : DF__law_laid P w K mg base := df__law_laid B F__law_laid g__law_laid
  exact ok_law B D__law_number_by D__law_cell_at D_laid_over D__law_laid F_law
end Sp
open PySem PySem.W PySem.Calls PyProof.Rows
theorem PySem.Challenge.cw_spotsums_k06_laid_over_holds : PySem.Challenge.rw_spotsums_k06_laid_over.Holds := by
  w_on; o_law
  refine HandSHeadRun.head_any (r := OpenLaw.row PySem.Challenge.rw_spotsums_k06_laid_over) (q := view (OpenLaw.row PySem.Challenge.rw_spotsums_k06_laid_over).prog [6]) (H := Sp.hhk) (ob := Sp.hob) (M := 3000) (loose := Sp.looseN) (d := HandSHeadRun.topDef (OpenLaw.row PySem.Challenge.rw_spotsums_k06_laid_over).prog 6) (kwd := []) Sp.hob_eq
    (by kernel_rfl) (fun s => by kernel_rfl) Sp.hrun (by kernel_rfl) (by kernel_rfl) (by kernel_rfl) (by rfl) (by first | assumption | decide +kernel) (by decide +kernel) ⟨rfl, rfl, rfl, rfl, rfl, by decide +kernel⟩ ?hw ?hc
  case hw => w_witness2
  case hc =>
    refine Sp.walk_bits (l := PySem.Challenge.rw_spotsums_k06_laid_over) (n := 63) (k := 2) (x := "_law_script") (CX := L2.CX0) rfl (by decide) (by kernel_rfl) ⟨rfl, by decide, by decide⟩ ?F (fun _ _ _ _ z => z)
    intro w mg fa h Y G hmg0
    obtain ⟨K, KX, c⟩ := Y
    have hmg : mg ("law" : PySem.Str) = some (.ref fa) := by
      have e : (HandSHeadRun.topDef (OpenLaw.row PySem.Challenge.rw_spotsums_k06_laid_over).prog 6).name = ("law" : PySem.Str) := by kernel_rfl
      rw [← e]
      exact hmg0
    obtain ⟨fd, hb, hF⟩ := Sp.hfacts (P := (PySem.Challenge.rw_spotsums_k06_laid_over).prog) (w := w) KX G hmg c
    exact ⟨K, fd, Sp.sp_law K, KX, hb, fun H a ns hl hbits _ hS => ⟨a, ns, rfl, hS, hl, hbits, fun _ => rfl⟩, hF⟩
#print axioms PySem.Challenge.cw_spotsums_k06_laid_over_holds
