import PyProof.Rows.All
import Wide.All
import OpenK.AllK
import Wide.FinOn
import HandS.AnyAll
import HandS.Base
import HandS.Call
import HandS.Comp
import HandS.Conv
import HandS.Dict
import HandS.DictComp
import HandS.EndTab
import HandS.Flow
import HandS.GenList
import HandS.IsInst
import HandS.Iter
import HandS.List
import HandS.More
import HandS.Small
import HandS.Style
import HandS.Wide
import HandS.Words
import HandS.WordsList
import KE.KDictIter
import PySem.Challenge.RW_monicsums_k01_whole_orders_and_powers_of
set_option Elab.async false
set_option linter.all false
set_option maxHeartbeats 4000000
set_option maxRecDepth 100000
/-! The mathematics: seven small fields, their powers, orders and counts. No program in sight. -/
namespace Ka

/-! ### the arithmetic by digits -/
/-- digits, the lowest first -/
def dgF : Nat → Int → Int → List Int
  | 0, _, _ => []
  | k + 1, b, n => if 0 < n then (n % b) :: dgF k b (n / b) else []
def dg (b n : Int) : List Int := dgF 8 b n
/-- one product of digits put in its place -/
def putD (p : Int) (row : List Int) (at_ : Nat) (v : Int) : List Int := row.set at_ ((row.getD at_ 0 + v) % p)
/-- the digit l at place i times the first j digits of ds -/
def innerT (p : Int) (i : Nat) (l : Int) (ds : List Int) (row : List Int) : Nat → List Int
  | 0 => row
  | j + 1 => putD p (innerT p i l ds row j) (i + j) (l * ds.getD j 0)
/-- the first i digits of cs, each times ds -/
def outerT (p : Int) (cs ds : List Int) (row : List Int) : Nat → List Int
  | 0 => row
  | i + 1 => innerT p i (cs.getD i 0) ds (outerT p cs ds row i) ds.length
/-- u to the power f is u + 1: one place brought down -/
def downD (p : Int) (f : Nat) (row : List Int) (i : Nat) : List Int :=
  if 1 < f then
    let row1 := row.set (i - f) ((row.getD (i - f) 0 + row.getD i 0) % p)
    let row2 := row1.set (i - f + 1) ((row1.getD (i - f + 1) 0 + row1.getD i 0) % p)
    row2.set i 0
  else row
/-- the places 2 f - 1 down to f, t turns of them done -/
def downs (p : Int) (f : Nat) (row : List Int) : Nat → List Int
  | 0 => row
  | t + 1 => downD p f (downs p f row t) (2 * f - 1 - t)
def worth (p : Int) (ds : List Int) : Int := ds.foldl (fun v d => v * p + d) 0
def prodRow (p : Int) (f : Nat) (a b : Int) : List Int := downs p f (outerT p (dg p a) (dg p b) (List.replicate (2 * f) 0) (dg p a).length) f
def prodI (p : Int) (f : Nat) (a b : Int) : Int := worth p ((prodRow p f a b).take f).reverse
def sumT (p a b : Int) : Nat → Int × Int
  | 0 => (0, 1)
  | t + 1 => ((sumT p a b t).1 + (a / (sumT p a b t).2 + b / (sumT p a b t).2) % p * (sumT p a b t).2, (sumT p a b t).2 * p)
def sumI (p : Int) (f : Nat) (a b : Int) : Int := (sumT p a b f).1

/-! ### the seven fields -/
def pOf (q : Nat) : Int := if q = 4 ∨ q = 8 then 2 else if q = 9 then 3 else (q : Int)
def fOf (q : Nat) : Nat := if q = 4 ∨ q = 9 then 2 else if q = 8 then 3 else 1
def flds : List Nat := [2, 3, 4, 5, 7, 8, 9]
def mu (q : Nat) (a b : Nat) : Nat := (prodI (pOf q) (fOf q) a b).toNat
def su (q : Nat) (a b : Nat) : Nat := (sumI (pOf q) (fOf q) a b).toNat
/-- the n-th power of e -/
def pw (q e : Nat) : Nat → Nat
  | 0 => 1
  | n + 1 => mu q (pw q e n) e
/-- the order of e, looked for from n on -/
def ordF (q e : Nat) : Nat → Nat → Nat
  | 0, n => n
  | k + 1, n => if pw q e n = 1 then n else ordF q e k (n + 1)
def ord (q e : Nat) : Nat := ordF q e 10 1
def makers (q : Nat) : List Nat := (List.range (q - 1)).filterMap fun i => if ord q (i + 1) = q - 1 then some (i + 1) else none
def maker (q : Nat) : Nat := (makers q).headD 1

/-! ### what is true of them, by looking -/
def allq (c : Nat → Bool) : Bool := flds.all c
def alle (c : Nat → Nat → Bool) : Bool := flds.all fun q => (List.range q).all fun e => c q e
def allu (c : Nat → Nat → Bool) : Bool := flds.all fun q => (List.range (q - 1)).all fun e => c q (e + 1)
theorem allq_at {c : Nat → Bool} (h : allq c = true) {q : Nat} (hq : q ∈ flds) : c q = true := List.all_eq_true.mp h q hq
theorem alle_at {c : Nat → Nat → Bool} (h : alle c = true) {q e : Nat} (hq : q ∈ flds) (he : e < q) : c q e = true :=
  List.all_eq_true.mp (List.all_eq_true.mp h q hq) e (List.mem_range.mpr he)
theorem allu_at {c : Nat → Nat → Bool} (h : allu c = true) {q e : Nat} (hq : q ∈ flds) (h0 : 0 < e) (he : e < q) : c q e = true := by
  have := List.all_eq_true.mp (List.all_eq_true.mp h q hq) (e - 1) (List.mem_range.mpr (by omega))
  rwa [show e - 1 + 1 = e by omega] at this
theorem flds_le {q : Nat} (h : q ∈ flds) : 2 ≤ q ∧ q ≤ 9 := by
  have c : allq (fun q => decide (2 ≤ q ∧ q ≤ 9)) = true := by decide +kernel
  exact of_decide_eq_true (allq_at c h)

theorem mu_table : (flds.all fun q => (List.range q).all fun a => (List.range q).all fun b => decide (prodI (pOf q) (fOf q) (a : Int) (b : Int) = (mu q a b : Int) ∧ mu q a b < q)) = true := by decide +kernel
theorem mu_at {q a b : Nat} (hq : q ∈ flds) (ha : a < q) (hb : b < q) : prodI (pOf q) (fOf q) (a : Int) (b : Int) = (mu q a b : Int) ∧ mu q a b < q :=
  of_decide_eq_true (List.all_eq_true.mp (List.all_eq_true.mp (List.all_eq_true.mp mu_table q hq) a (List.mem_range.mpr ha)) b (List.mem_range.mpr hb))
theorem mu_lt {q a b : Nat} (hq : q ∈ flds) (ha : a < q) (hb : b < q) : mu q a b < q := (mu_at hq ha hb).2
theorem su_table : (flds.all fun q => (List.range q).all fun a => (List.range q).all fun b => decide (sumI (pOf q) (fOf q) (a : Int) (b : Int) = (su q a b : Int) ∧ su q a b < q)) = true := by decide +kernel
theorem su_at {q a b : Nat} (hq : q ∈ flds) (ha : a < q) (hb : b < q) : sumI (pOf q) (fOf q) (a : Int) (b : Int) = (su q a b : Int) ∧ su q a b < q :=
  of_decide_eq_true (List.all_eq_true.mp (List.all_eq_true.mp (List.all_eq_true.mp su_table q hq) a (List.mem_range.mpr ha)) b (List.mem_range.mpr hb))

theorem one_lt {q : Nat} (hq : q ∈ flds) : 1 < q := by have := flds_le hq; omega
theorem pw_lt {q e : Nat} (hq : q ∈ flds) (he : e < q) : ∀ n, pw q e n < q
  | 0 => one_lt hq
  | n + 1 => mu_lt hq (pw_lt hq he n) he

/-- the facts of an element other than 0 -/
def unitC (q e : Nat) : Bool :=
  let o := ord q e
  decide (1 ≤ o ∧ o ≤ q - 1 ∧ (q - 1) % o = 0 ∧ pw q e o = 1) && (List.range o).all (fun n => decide (n = 0 ∨ pw q e n ≠ 1)) &&
    (List.range 9).all (fun n => decide (n < q - 1 → pw q e n = pw q e (n % o)))
theorem units : allu unitC = true := by decide +kernel
theorem unit_at {q e : Nat} (hq : q ∈ flds) (h0 : 0 < e) (he : e < q) :
    (1 ≤ ord q e ∧ ord q e ≤ q - 1 ∧ (q - 1) % ord q e = 0 ∧ pw q e (ord q e) = 1) ∧ (∀ n, 0 < n → n < ord q e → pw q e n ≠ 1) ∧ ∀ n, n < q - 1 → pw q e n = pw q e (n % ord q e) := by
  have h := allu_at units hq h0 he
  unfold unitC at h
  simp only [Bool.and_eq_true, decide_eq_true_eq, List.all_eq_true, List.mem_range] at h
  obtain ⟨⟨h1, h2⟩, h3⟩ := h
  refine ⟨h1, fun n n0 hn => ?_, fun n hn => h3 n (by have := flds_le hq; omega) hn⟩
  rcases h2 n hn with z | z
  · omega
  · exact z
/-- the power by its rest modulo the order -/
theorem pw_rest {q e : Nat} (hq : q ∈ flds) (h0 : 0 < e) (he : e < q) (k : Nat) : pw q e (k % (q - 1)) = pw q e (k % ord q e) := by
  obtain ⟨⟨h1, h2, h3, h4⟩, h5, h6⟩ := unit_at hq h0 he
  have hq2 := flds_le hq
  rw [h6 _ (Nat.mod_lt k (by omega))]
  rw [Nat.mod_mod_of_dvd k (Nat.dvd_of_mod_eq_zero h3)]
/-- the q-th power -/
def qthC (q e : Nat) : Bool := decide (pw q e (q % (q - 1)) = e)
theorem qths : allu qthC = true := by decide +kernel
theorem qth_at {q e : Nat} (hq : q ∈ flds) (h0 : 0 < e) (he : e < q) : pw q e (q % (q - 1)) = e := of_decide_eq_true (allu_at qths hq h0 he)

/-- the makers -/
def walkL (q e : Nat) : List Nat := (List.range (ord q e)).map (pw q e)
def makC (q : Nat) : Bool := decide (0 < maker q ∧ maker q < q ∧ ord q (maker q) = q - 1 ∧ (makers q)[0]? = some (maker q)) && (List.range (maker q)).all (fun i => decide (i = 0 ∨ ord q i ≠ q - 1)) &&
  (walkL q (maker q)).isPerm ((List.range (q - 1)).map (· + 1))
theorem maks : allq makC = true := by decide +kernel
theorem mak_at {q : Nat} (hq : q ∈ flds) : (0 < maker q ∧ maker q < q ∧ ord q (maker q) = q - 1 ∧ (makers q)[0]? = some (maker q)) ∧ (∀ i, 0 < i → i < maker q → ord q i ≠ q - 1) ∧
    (walkL q (maker q)).Perm ((List.range (q - 1)).map (· + 1)) := by
  have h := allq_at maks hq
  unfold makC at h
  simp only [Bool.and_eq_true, decide_eq_true_eq, List.all_eq_true, List.mem_range] at h
  obtain ⟨⟨h1, h2⟩, h3⟩ := h
  refine ⟨h1, fun i i0 hi => ?_, List.isPerm_iff.mp h3⟩
  rcases h2 i hi with z | z
  · omega
  · exact z

/-- a 0 in each row of the sums -/
def zeroC (q a : Nat) : Bool := (List.range q).any fun j => decide (su q a j = 0) && (List.range j).all fun i => decide (su q a i ≠ 0)
theorem zeros : alle zeroC = true := by decide +kernel
theorem zero_at {q a : Nat} (hq : q ∈ flds) (ha : a < q) : ∃ j, j < q ∧ su q a j = 0 ∧ ∀ i, i < j → su q a i ≠ 0 := by
  have h := alle_at zeros hq ha
  unfold zeroC at h
  simp only [List.any_eq_true, Bool.and_eq_true, decide_eq_true_eq, List.all_eq_true, List.mem_range] at h
  obtain ⟨j, hj, h1, h2⟩ := h
  exact ⟨j, hj, h1, h2⟩

/-! ### digits -/
theorem dgF_zero (k : Nat) (b n : Int) (h : ¬ 0 < n) : dgF k b n = [] := by
  cases k with
  | zero => rfl
  | succ k => unfold dgF; rw [if_neg h]
theorem dgF_step (k : Nat) (b n : Int) (h : 0 < n) : dgF (k + 1) b n = (n % b) :: dgF k b (n / b) := by
  rw [dgF]
  exact if_pos h
theorem div_half {b n : Int} {k : Nat} (hb : 2 ≤ b) (h0 : 0 < n) (hn : n < 2 ^ (k + 1)) : 0 ≤ n / b ∧ n / b < 2 ^ k ∧ n / b < n := by
  have h1 : 0 ≤ n / b := Int.ediv_nonneg (by omega) (by omega)
  have h2 : n / b * b ≤ n := Int.ediv_mul_le n (by omega)
  have h3 : n / b * 2 ≤ n / b * b := Int.mul_le_mul_of_nonneg_left hb h1
  have h4 : (2 : Int) ^ (k + 1) = 2 ^ k * 2 := Int.pow_succ 2 k
  refine ⟨h1, ?_, ?_⟩ <;> omega
def dgC (q a : Nat) : Bool := decide ((dg (pOf q) (a : Int)).length ≤ fOf q) && (dg (pOf q) (a : Int)).all fun d => decide (0 ≤ d ∧ d < 10)
theorem dgs : alle dgC = true := by decide +kernel
theorem dg_at {q a : Nat} (hq : q ∈ flds) (ha : a < q) : (dg (pOf q) (a : Int)).length ≤ fOf q ∧ ∀ d ∈ dg (pOf q) (a : Int), 0 ≤ d ∧ d < 10 := by
  have h := alle_at dgs hq ha
  unfold dgC at h
  simp only [Bool.and_eq_true, decide_eq_true_eq, List.all_eq_true] at h
  exact h
theorem putD_len {p : Int} {row : List Int} {i : Nat} {v : Int} : (putD p row i v).length = row.length := by
  unfold putD
  rw [List.length_set]
theorem innerT_len {p : Int} {i : Nat} {l : Int} {ds row : List Int} : ∀ j, (innerT p i l ds row j).length = row.length
  | 0 => rfl
  | j + 1 => by rw [innerT, putD_len, innerT_len j]
theorem outerT_len {p : Int} {cs ds row : List Int} : ∀ i, (outerT p cs ds row i).length = row.length
  | 0 => rfl
  | i + 1 => by rw [outerT, innerT_len, outerT_len i]
theorem downD_len {p : Int} {f i : Nat} {row : List Int} : (downD p f row i).length = row.length := by
  unfold downD
  split
  · simp only [List.length_set]
  · rfl
theorem downs_len {p : Int} {f : Nat} {row : List Int} : ∀ t, (downs p f row t).length = row.length
  | 0 => rfl
  | t + 1 => by rw [downs, downD_len, downs_len t]
theorem prodRow_len {p : Int} {f : Nat} {a b : Int} : (prodRow p f a b).length = 2 * f := by
  unfold prodRow
  rw [downs_len, outerT_len, List.length_replicate]
theorem worth_snoc {p d : Int} {ds : List Int} {i : Nat} (h : ds[i]? = some d) : worth p (ds.take (i + 1)) = worth p (ds.take i) * p + d := by
  unfold worth
  rw [List.take_add_one, h, List.foldl_append]
  rfl
theorem getD_at {l : List Int} {i : Nat} {x : Int} (h : l[i]? = some x) : l.getD i 0 = x := by
  rw [List.getD_eq_getElem?_getD, h]
  rfl
theorem at_getD {l : List Int} {i : Nat} (h : i < l.length) : l[i]? = some (l.getD i 0) := by
  rw [List.getD_eq_getElem?_getD, List.getElem?_eq_getElem h]
  rfl

/-! ### places of the sums -/
theorem sumT_two {p a b : Int} : ∀ t, (sumT p a b t).2 = p ^ t
  | 0 => by rw [Int.pow_zero]; rfl
  | t + 1 => by
    show (sumT p a b t).2 * p = _
    rw [sumT_two t, Int.pow_succ]
def plcC (q : Nat) : Bool := decide (2 ≤ pOf q ∧ pOf q ≤ 7 ∧ 1 ≤ fOf q ∧ fOf q ≤ 3) && (List.range 4).all fun t => decide (t ≤ fOf q → 0 < pOf q ^ t ∧ pOf q ^ t < 1000)
theorem plcs : allq plcC = true := by decide +kernel
theorem plc_at {q : Nat} (hq : q ∈ flds) : (2 ≤ pOf q ∧ pOf q ≤ 7 ∧ 1 ≤ fOf q ∧ fOf q ≤ 3) ∧ ∀ t, t ≤ fOf q → 0 < pOf q ^ t ∧ pOf q ^ t < 1000 := by
  have h := allq_at plcs hq
  unfold plcC at h
  simp only [Bool.and_eq_true, decide_eq_true_eq, List.all_eq_true, List.mem_range] at h
  exact ⟨h.1, fun t ht => h.2 t (by have := h.1; omega) ht⟩

/-! ### numbers without a common divisor -/
def phi (n : Nat) : Nat := ((List.range n).filter fun i => Nat.gcd (i + 1) n == 1).length
end Ka
namespace Ka
open PySem L2

/-! ### the text by places -/
def top (i : Nat) : Stmt := PySem.Challenge.pw_monicsums_k01_whole_orders_and_powers_of.main.body.getD i (.Pass ⟨0, 0, 0, 0⟩)
abbrev sWhole : Stmt := top 9
abbrev sInteg : Stmt := top 10
abbrev sWithin : Stmt := top 11
abbrev sFromZ : Stmt := top 12
abbrev sFieldIn : Stmt := top 13
abbrev sElemIn : Stmt := top 14
abbrev sPowIn : Stmt := top 15
abbrev sOrdIn : Stmt := top 16
abbrev sMakIn : Stmt := top 17
abbrev sReqF : Stmt := top 18
abbrev sReqE : Stmt := top 19
abbrev sReqZ : Stmt := top 20
abbrev sReqO : Stmt := top 21
abbrev sPow : Stmt := top 22
abbrev sOrd : Stmt := top 23
abbrev sMak : Stmt := top 24
abbrev sDice : Stmt := top 26
abbrev sRoll : Stmt := top 27
abbrev sOneOf : Stmt := top 28
abbrev sDig : Stmt := top 29
abbrev sProd : Stmt := top 30
abbrev sSum : Stmt := top 31
abbrev sField : Stmt := top 32
abbrev sWalk : Stmt := top 33
abbrev sShared : Stmt := top 34
abbrev sOrders : Stmt := top 35
abbrev sPowers : Stmt := top 36
abbrev sRight : Stmt := top 37
abbrev sLaw : Stmt := top 38

/-! ### defs that may be called by their names -/
structure Cl (P : Program) (w : World) (K : PySem.W.Frag) (mg : Str → Option Value) (base : Heap) (k : Nat) (x : Str) (sp : Sp) : Prop where
  ex : ∃ (f : Addr) (fd : FuncData) (ps : List Str), FnOk P w K mg base CX0 k f fd ps sp ∧ mg x = some (.ref f) ∧ PySem.W.keepIn K (.ref f) = true ∧ Binds K fd ps []
theorem pe_cl {X : Cx} {k j : Nat} {x : Str} {sp : Sp} {p pos : Pos} {e : Expr} {es : List Expr} {t : TA} (c : Cl X.prog X.w X.K X.mg X.base k x sp) (hr : Room j X.A) (hk : k ≤ j) (hg : Gl X x) (ha : PA X (e :: es) t) (hdb : (x == ("__debug__" : Str)) = false := by decide) (he : starEach (e :: es) X.env = (false, eval e X.env) :: starEach es X.env := by rfl) (hpl : (backTo pos (starEach es X.env)).any (·.1) = false := by rfl) :
    PE X (.Call (.Name x p) (e :: es) [] pos) (tCall sp [] E0 t) := by
  obtain ⟨f, fd, ps, F, hm, kp, b⟩ := c.ex
  exact pe_call F (hr.mono hk) hg hm kp b .nil pass0 ha hdb he hpl

/-! ### heaps -/
theorem sameNew {H : Hp} {p : Addr} {o : HO} (h : H p = none) : Same H (upd H p o) := fun b u e => by
  rw [upd_ne (ne_of_none e h)]
  exact e
theorem sameSet {H H1 : Hp} {p : Addr} {o : HO} (s : Same H H1) (h : H p = none) : Same H (upd H1 p o) := fun b u e => by
  rw [upd_ne (ne_of_none e h)]
  exact s b u e
/-- all that was tracked, but for what stands at d, is as it was -/
def But (d : Addr) (H H' : Hp) : Prop := ∀ b o, b ≠ d → H b = some o → H' b = some o
theorem But.of {d : Addr} {H H' : Hp} (s : Same H H') : But d H H' := fun b o _ e => s b o e
theorem But.trans {d : Addr} {H H1 H2 : Hp} (a : But d H H1) (b : But d H1 H2) : But d H H2 := fun c o n e => b c o n (a c o n e)
theorem But.set {d : Addr} {H H1 : Hp} {o : HO} (a : But d H H1) : But d H (upd H1 d o) := fun b u n e => by
  rw [upd_ne n]
  exact a b u n e
theorem But.seq {K : PySem.W.Frag} {d : Addr} {H H' : Hp} {a : Addr} {xs : List V} (e : But d H H') (n : a ≠ d) (h : SqL K H a xs) : SqL K H' a xs := by
  rcases h with (h | ⟨o, h⟩) | h
  · exact .inl (.inl (e _ _ n h))
  · exact .inl (.inr ⟨o, e _ _ n h⟩)
  · exact .inr h

/-! ### lists of numbers -/
abbrev iV (l : List Int) : List V := l.map V.int
abbrev nV (l : List Nat) : List V := l.map fun (n : Nat) => V.int (n : Int)
theorem iV_at {l : List Int} {i : Nat} (h : i < l.length) : (iV l)[i]? = some (.int (l.getD i 0)) := by
  rw [List.getElem?_map, at_getD h]
  rfl
theorem iV_set {l : List Int} {i : Nat} {v : Int} : (iV l).set i (.int v) = iV (l.set i v) := by
  unfold iV
  rw [List.map_set]
theorem iV_len {l : List Int} : (iV l).length = l.length := List.length_map ..
theorem iV_of {l : List Int} {i : Nat} {x : V} (h : (iV l)[i]? = some x) : ∃ z, x = .int z ∧ l[i]? = some z := by
  rw [List.getElem?_map] at h
  cases e : l[i]? with
  | none =>
    rw [e] at h
    cases h
  | some z =>
    rw [e] at h
    exact ⟨z, (Option.some.inj h).symm, rfl⟩
theorem nV_at {l : List Nat} {i n : Nat} (h : l[i]? = some n) : (nV l)[i]? = some (.int n) := by
  rw [List.getElem?_map, h]
  rfl
theorem ixN_nat {n i : Nat} (h : i < n) : ixN n (i : Int) = some i := by
  unfold ixN
  rw [if_pos (by omega), if_pos (by omega)]
  rfl
theorem ixN_int {n i : Nat} {z : Int} (e : z = (i : Int)) (h : i < n) : ixN n z = some i := by
  rw [e]
  exact ixN_nat h
theorem mul_fits {i j : Int} (h0 : 0 ≤ i) (h1 : i < 2 ^ 64) : CMul i j := .inl ⟨by omega, h1⟩
theorem mul_fitsR {i j : Int} (h0 : 0 ≤ j) (h1 : j < 2 ^ 64) : CMul i j := .inr ⟨by omega, h1⟩
/-- a list's items by turns, each with its place: what the tuple at T holds -/
theorem for_enum {K : PySem.W.Frag} {a : Addr} {xs : List V} {g : TG} {tb : TS} {D : Ends} {σ : L2.St} {H : Hp} (Pv : Nat → L2.St → Hp → Prop) (h0 : Pv 0 σ H) (hl : ∀ i σ H, i ≤ xs.length → Pv i σ H → SqL K H a xs)
    (hs : ∀ i x σ H T, xs[i]? = some x → Pv i σ H → H T = none → g (.ref T) σ (upd H T (.tup [.int (i : Int), x])) fun σ2 H2 => tb { D with nx := Pv (i + 1), ct := Pv (i + 1), bk := D.nx } σ2 H2) (hd : ∀ σ H, Pv xs.length σ H → D.nx σ H) :
    ∃ W : Nat → Nat → L2.St → Hp → Prop, (∃ m, W 0 m σ H) ∧ ∀ i m σ H, W i m σ H → ((Ite K a).stop i H ∧ D.nx σ H) ∨ ((Ite K a).go i H ∧ ∃ N : L2.St → Hp → Prop, (∀ σ' H', N σ' H' → ∃ m', m' < m ∧ W (i + 1) m' σ' H') ∧ ∀ x H', (Ite K a).yld i H x H' → g x σ H' fun σ2 H2 => tb { D with nx := N, ct := N, bk := D.nx } σ2 H2) := by
  let M : Nat → Nat → L2.St → Hp → Prop := fun i m σ H => m + i = xs.length ∧ Pv i σ H
  refine ⟨M, ⟨xs.length, rfl, h0⟩, fun i m σ H hM => ?_⟩
  obtain ⟨em, hp⟩ := hM
  have hq : SqL K H a xs := hl i σ H (by omega) hp
  cases m with
  | zero =>
    obtain rfl : i = xs.length := by omega
    exact Or.inl ⟨⟨xs, hq, Nat.le_refl _⟩, hd σ H hp⟩
  | succ m =>
    have hi : i < xs.length := by omega
    refine Or.inr ⟨⟨xs, xs[i], hq, List.getElem?_eq_getElem hi⟩, Pv (i + 1), ?_, ?_⟩
    · intro σ' H' p'
      exact ⟨m, Nat.lt_succ_self m, by omega, p'⟩
    · intro x H' hy
      obtain ⟨T, y, rfl, hT, rfl, hx⟩ := hy
      exact hs i y σ H T (hx xs hq) hp hT
end Ka
namespace Ka
open PySem L2
theorem same_but {H H1 H2 : Hp} {d : Addr} (s : Same H H1) (b : But d H1 H2) (h : H d = none) : Same H H2 := fun c o e => b c o (ne_of_none e h) (s c o e)
theorem But.same {d : Addr} {H H1 H2 : Hp} (a : But d H H1) (s : Same H1 H2) : But d H H2 := fun c o n e => s c o (a c o n e)
theorem But.refl {d : Addr} (H : Hp) : But d H H := fun _ _ _ e => e
theorem iV_atI {l : List Int} {n : Nat} {z : Int} (e : z = (n : Int)) (h : n < l.length) : atI (iV l) z = some (.int (l.getD n 0)) := at_of e (iV_at h)
theorem iV_ixN {l : List Int} {n : Nat} {z : Int} (e : z = (n : Int)) (h : n < l.length) : ixN (iV l).length z = some n := ixN_int e (by rw [iV_len]; exact h)
end Ka
namespace Ka
open PySem L2
/-- the built-in names that the text leaves as they are -/
structure Free (mg : Str → Option Value) : Prop where
  isi : mg "isinstance" = none
  int : mg "int" = none
  bool : mg "bool" = none
  abs : mg "abs" = none
  range : mg "range" = none
  next : mg "next" = none
  len : mg "len" = none
  enum : mg "enumerate" = none
  dict : mg "dict" = none
  sorted : mg "sorted" = none
  list : mg "list" = none
  max : mg "max" = none
  min : mg "min" = none
/-- the dice for a place -/
def DiceAt (H : Hp) (d : Addr) : Prop := ∃ left mixed count : Int, 0 ≤ left ∧ H d = some (.lst (iV [left, mixed, count]))
def spRoll : Sp := fun vs H Q _ => ∃ (d : Addr) (total : Int), vs = [.ref d, .int total] ∧ DiceAt H d ∧ 0 < total ∧ total < 1073741824 ∧
  ∀ (r : Int) (H' : Hp), 0 ≤ r → r < total → DiceAt H' d → But d H H' → (∀ b, b ≠ d → H' b = H b) → Q (.int r) H'
section
variable {P : Program} {w : World} {K : PySem.W.Frag} {mg : Str → Option Value} {base : Heap}
abbrev nRoll : List Str := ["_law_dice_here", "_law_total", "_law_size", "_law_drawn", "_law_one", "_law_two"]
theorem scRoll : FnScope nRoll ["_law_dice_here", "_law_total"] (defScope sRoll) := ⟨rfl, rfl, rfl, by decide +kernel, rfl, by decide +kernel, by decide +kernel⟩
theorem ok_roll {f : Addr} {fd : FuncData} (F : Fun K "_law_roll" "_law_roll" sRoll f fd) (T : Free mg) : FnOk P w K mg base CX0 1 f fd ["_law_dice_here", "_law_total"] spRoll := by
  have nd := scRoll.nd
  refine F.ok scRoll (fun vs H Q E h => ?_) (fun cdv A outer s H vs Q E hr h => ?_)
  · obtain ⟨d, total, rfl, _⟩ := h
    rfl
  · obtain ⟨d, total, rfl, ⟨left, mixed, count, hl, hd⟩, h0, h1, k⟩ := h
    refine ⟨_, pss_cons (ps_set (i := 2) nd rfl (.inl rfl) (pe_callTy call_int1 (by rfl) T.int PyProof.Rows.boot_int (pa_cons (pv 1) pa_nil)))
      (pss_cons (ps_if (pt_cmpR op_gt (pe_ix ix_list (pv 0) pe_int (fun _ _ => rfl)) pe_int (nomark _))
        (pss_cons (ps_set (i := 3) nd rfl (.inl rfl) (pe_op op_mod (pe_ix ix_list (pv 0) pe_int (fun _ _ => rfl)) (pv 2)))
        (pss_cons (ps_asg (pe_op op_fdiv (pe_ix ix_list (pv 0) pe_int (fun _ _ => rfl)) (pv 2)) (pg_sub (pv 0) pe_int set_list))
        (pss_one (ps_ret (pe_callTy call_int1 (by rfl) T.int PyProof.Rows.boot_int (pa_cons (pv 3) pa_nil)))))) pss_nil)
      (pss_cons (ps_asg (pe_op op_add (pe_ix ix_list (pv 0) pe_int (fun _ _ => rfl)) pe_int) (pg_sub (pv 0) pe_int set_list))
      (pss_cons (ps_set (i := 4) nd rfl (.inl rfl) (pe_op op_mod (pe_op op_add (pe_ix ix_list (pv 0) pe_int (fun _ _ => rfl)) (pe_op op_mul pe_int (pe_ix ix_list (pv 0) pe_int (fun _ _ => rfl)))) pe_int))
      (pss_cons (ps_set (i := 5) nd rfl (.inl rfl) (pe_op op_add (pe_op op_mul (pe_op op_mod (pe_op op_mul (pv 4) (pv 4)) pe_int) (pv 4)) (pe_op op_mul pe_int (pe_ix ix_list (pv 0) pe_int (fun _ _ => rfl)))))
      (pss_cons (ps_set (i := 5) nd rfl (.inl rfl) (pe_op op_mod (pv 5) pe_int))
      (pss_one (ps_ret (pe_callTy call_int1 (by rfl) T.int PyProof.Rows.boot_int (pa_cons (pe_op op_mod (pe_op op_fdiv (pv 5) pe_int) (pv 2)) pa_nil))))))))), ?_⟩
    refine ⟨_, rfl, .inl ⟨_, rfl, ?_⟩⟩
    refine ⟨_, rfl, d, _, 0, _, rfl, rfl, SqL.of hd, rfl, left, 0, rfl, rfl, _, rfl, ?_⟩
    refine ite2 (fun _ => ?_) (fun _ => ?_)
    · refine ⟨_, rfl, d, _, 0, _, rfl, rfl, SqL.of hd, rfl, _, rfl, left, total, rfl, rfl, h0, ?_⟩
      refine ⟨_, rfl, d, _, 0, _, rfl, rfl, SqL.of hd, rfl, _, rfl, left, total, rfl, rfl, ⟨h0, h1⟩, ?_⟩
      refine ⟨_, rfl, d, _, 0, 0, rfl, rfl, hd, rfl, ?_⟩
      refine ⟨_, rfl, .inl ⟨_, rfl, ?_⟩⟩
      refine k (left % total) _ (Int.emod_nonneg _ (by omega)) (Int.emod_lt_of_pos _ h0) ⟨left / total, mixed, count, Int.ediv_nonneg hl (by omega), upd_same⟩ (But.set (But.of (Same.refl H))) (fun b n => upd_ne n)
    · refine ⟨_, rfl, d, _, 2, _, rfl, rfl, SqL.of hd, rfl, count, 1, rfl, rfl, ?_⟩
      refine ⟨_, rfl, d, _, 2, 2, rfl, rfl, hd, rfl, ?_⟩
      have hd1 : upd H d (.lst (iV [left, mixed, count + 1])) d = some (.lst (iV [left, mixed, count + 1])) := upd_same
      refine ⟨_, rfl, d, _, 1, _, rfl, rfl, SqL.of hd1, rfl, _, rfl, d, _, 2, _, rfl, rfl, SqL.of hd1, rfl, 1000427, _, rfl, rfl, mul_fits (by decide) (by decide), _, _, rfl, rfl, _, 2305843009213693951, rfl, rfl, (by show (0 : Int) < 2305843009213693951; decide), ?_⟩
      have z0 : 0 ≤ (mixed + 1000427 * (count + 1)) % 2305843009213693951 := Int.emod_nonneg _ (by decide)
      have z1 : (mixed + 1000427 * (count + 1)) % 2305843009213693951 < 2305843009213693951 := Int.emod_lt_of_pos _ (by decide)
      refine ⟨_, rfl, _, rfl, _, _, rfl, rfl, mul_fits z0 (by omega), _, 2305843009213693921, rfl, rfl, (by show (0 : Int) < 2305843009213693921; decide), _, rfl, _, _, rfl, rfl, mul_fitsR z0 (by omega), _, rfl, d, _, 2, _, rfl, rfl, SqL.of hd1, rfl, 9491, _, rfl, rfl, mul_fits (by decide) (by decide), _, _, rfl, rfl, ?_⟩
      refine ⟨_, rfl, _, 2305843009213693907, rfl, rfl, (by show (0 : Int) < 2305843009213693907; decide), ?_⟩
      refine ⟨_, rfl, _, 4096, rfl, rfl, ⟨by decide, by decide⟩, _, rfl, _, total, rfl, rfl, h0, .inl ⟨_, rfl, ?_⟩⟩
      exact k _ _ (Int.emod_nonneg _ (by omega)) (Int.emod_lt_of_pos _ h0) ⟨left, mixed, count + 1, hl, upd_same⟩ (But.set (But.of (Same.refl H))) (fun b n => upd_ne n)
end
end Ka
namespace Ka
open PySem L2
def spOneOf (K : PySem.W.Frag) : Sp := fun vs H Q _ => ∃ (d a : Addr) (xs : List V), vs = [.ref d, .ref a] ∧ DiceAt H d ∧ SqL K H a xs ∧ a ≠ d ∧ 0 < xs.length ∧ xs.length < 1073741824 ∧
  ∀ (r : Nat) (x : V) (H' : Hp), xs[r]? = some x → DiceAt H' d → But d H H' → (∀ b, b ≠ d → H' b = H b) → Q x H'
def spDig : Sp := fun vs H Q _ => ∃ b n : Int, vs = [.int b, .int n] ∧ 2 ≤ b ∧ b < 1073741824 ∧ 0 ≤ n ∧ n < 256 ∧
  ∀ (p : Addr) (H' : Hp), Same H H' → H p = none → H' p = some (.lst (iV (dg b n))) → Q (.ref p) H'
section
variable {P : Program} {w : World} {K : PySem.W.Frag} {mg : Str → Option Value} {base : Heap}
theorem scOneOf : FnScope ["_law_dice_here", "_law_items"] ["_law_dice_here", "_law_items"] (defScope sOneOf) := ⟨rfl, rfl, rfl, by decide +kernel, rfl, by decide +kernel, by decide +kernel⟩
theorem ok_oneOf {f : Addr} {fd : FuncData} (F : Fun K "_law_one_of" "_law_one_of" sOneOf f fd) (T : Free mg) (cR : Cl P w K mg base 1 "_law_roll" spRoll) : FnOk P w K mg base CX0 2 f fd ["_law_dice_here", "_law_items"] (spOneOf K) := by
  refine F.ok scOneOf (fun vs H Q E h => ?_) (fun cdv A outer s H vs Q E hr h => ?_)
  · obtain ⟨d, a, xs, rfl, _⟩ := h
    rfl
  · obtain ⟨d, a, xs, rfl, hd, ha, nad, h0, h1, k⟩ := h
    refine ⟨_, pss_one (ps_ret (pe_ix ix_list (pv 1) (pe_cl cR hr (by decide) (by rfl) (pa_cons (pv 0) (pa_cons (pe_callB call_len_seq (by rfl) T.len PySem.boot_len (pa_cons (pv 1) pa_nil)) pa_nil))) (fun _ _ => rfl))), ?_⟩
    refine ⟨_, rfl, _, rfl, _, rfl, a, xs, rfl, .inl ha, d, _, rfl, hd, by omega, by omega, fun r H' r0 r1 hd' hb hq => ?_⟩
    obtain ⟨m, rfl⟩ : ∃ m : Nat, r = (m : Int) := ⟨r.toNat, by omega⟩
    have hm : m < xs.length := by omega
    refine ⟨a, xs, m, xs[m], rfl, rfl, hb.seq nad ha, atI_nat (List.getElem?_eq_getElem hm), ?_⟩
    exact k m _ H' (List.getElem?_eq_getElem hm) hd' hb hq
abbrev nDig : List Str := ["_law_base", "_law_number", "_law_found", "_law_left"]
theorem scDig : FnScope nDig ["_law_base", "_law_number"] (defScope sDig) := ⟨rfl, rfl, rfl, by decide +kernel, rfl, by decide +kernel, by decide +kernel⟩
theorem ok_dig {f : Addr} {fd : FuncData} (F : Fun K "_law_digits" "_law_digits" sDig f fd) : FnOk P w K mg base CX0 1 f fd ["_law_base", "_law_number"] spDig := by
  have nd := scDig.nd
  refine F.ok scDig (fun vs H Q E h => ?_) (fun cdv A outer s H vs Q E hr h => ?_)
  · obtain ⟨b, n, rfl, _⟩ := h
    rfl
  · obtain ⟨b, n, rfl, b2, b9, n0, n8, k⟩ := h
    refine ⟨_, pss_cons (ps_par (i := 2) (j := 3) (by rfl) nd rfl rfl (by decide) rfl rfl (pa_cons (pe_lst pa_nil) (pa_cons (pv 1) pa_nil)) (by rfl))
      (pss_cons (ps_while PassesOwn.never (pt_cmpR op_gt (pv 3) pe_int (nomark _))
        (pss_cons (ps_expr (pe_bm PySem.F.plainAttrs_list PySem.F.slot_list_append PySem.F.type_list_append mt_append (pv 2) (pa_cons (pe_op op_mod (pv 3) (pv 0)) pa_nil)))
        (pss_one (ps_set (i := 3) nd rfl (.inl rfl) (pe_op op_fdiv (pv 3) (pv 0))))))
      (pss_one (ps_ret (pv 2)))), ?_⟩
    refine ⟨Nat.zero_le _, fun l hl => ⟨_, rfl, _, _, rfl, ?_⟩⟩
    refine ⟨fun m σ H2 => ∃ (left : Int) (acc : List Int), σ = [some (.int b), some (.int n), some (.ref l), some (.int left)] ∧ Same H H2 ∧ H2 l = some (.lst (iV acc)) ∧ acc ++ dgF m b left = dg b n ∧ 0 ≤ left ∧ left < 2 ^ m ∧ acc.length + m ≤ 8,
      ⟨8, n, [], rfl, sameNew hl, upd_same, rfl, n0, n8, by decide⟩, ?_⟩
    rintro m σ H2 ⟨left, acc, rfl, s2, h2, hdg, l0, lm, hlen⟩
    refine ⟨_, rfl, left, 0, rfl, rfl, _, rfl, ?_⟩
    by_cases c : (0 : Int) < left
    · rw [decide_eq_true c]
      refine iteT ?_
      cases m with
      | zero => omega
      | succ m =>
        obtain ⟨q0, qm, _⟩ := div_half b2 c lm
        rw [dgF_step m b left c] at hdg
        refine ⟨fun σ' H' => ∃ (left' : Int) (acc' : List Int), σ' = [some (.int b), some (.int n), some (.ref l), some (.int left')] ∧ Same H H' ∧ H' l = some (.lst (iV acc')) ∧ acc' ++ dgF m b left' = dg b n ∧ 0 ≤ left' ∧ left' < 2 ^ m ∧ acc'.length + m ≤ 8,
          fun σ' H' z => ⟨m, Nat.lt_succ_self m, z⟩, ?_⟩
        refine ⟨_, rfl, .inl ⟨rfl, _, SqL.of h2⟩, _, rfl, _, rfl, left, b, rfl, rfl, (by show (0 : Int) < b; omega), l, _, _, rfl, rfl, h2, (by rw [iV_len]; exact small1000 (by omega)), ?_⟩
        refine ⟨_, rfl, _, rfl, left, b, rfl, rfl, ⟨by omega, b9⟩, ?_⟩
        refine ⟨left / b, acc ++ [left % b], rfl, sameSet s2 hl, ?_, ?_, q0, qm, ?_⟩
        · rw [upd_same]
          simp
        · rw [List.append_assoc]
          exact hdg
        · rw [List.length_append, List.length_singleton]
          omega
    · rw [decide_eq_false c]
      refine iteF ?_
      rw [dgF_zero m b left c, List.append_nil] at hdg
      refine ⟨_, rfl, ?_⟩
      exact k l H2 s2 hl (by rw [h2, hdg])
end
end Ka
namespace Ka
open PySem L2
/-- a field's p and f, two elements -/
def Args4 (vs : List V) (q a b : Nat) : Prop := q ∈ flds ∧ a < q ∧ b < q ∧ vs = [.int (pOf q), .int (fOf q : Int), .int (a : Int), .int (b : Int)]
def spProd : Sp := fun vs H Q _ => ∃ q a b : Nat, Args4 vs q a b ∧ ∀ H', Same H H' → Q (.int (mu q a b : Int)) H'
def spSum : Sp := fun vs H Q _ => ∃ q a b : Nat, Args4 vs q a b ∧ ∀ H', Same H H' → Q (.int (su q a b : Int)) H'
section
variable {P : Program} {w : World} {K : PySem.W.Frag} {mg : Str → Option Value} {base : Heap}
abbrev nSum : List Str := ["_law_p", "_law_f", "_law_one", "_law_other", "_law_found", "_law_place", "_law_turn"]
abbrev p4 : List Str := ["_law_p", "_law_f", "_law_one", "_law_other"]
theorem scSum : FnScope nSum p4 (defScope sSum) := ⟨rfl, rfl, rfl, by decide +kernel, rfl, by decide +kernel, by decide +kernel⟩
theorem ok_sum {f : Addr} {fd : FuncData} (F : Fun K "_law_element_sum" "_law_element_sum" sSum f fd) (T : Free mg) : FnOk P w K mg base CX0 1 f fd p4 spSum := by
  have nd := scSum.nd
  refine F.ok scSum (fun vs H Q E h => ?_) (fun cdv A outer s H vs Q E hr h => ?_)
  · obtain ⟨q, a, b, ⟨_, _, _, rfl⟩, _⟩ := h
    rfl
  · obtain ⟨q, a, b, ⟨hq, ha, hb, rfl⟩, k⟩ := h
    obtain ⟨⟨p2, p7, f1, f3⟩, hpl⟩ := plc_at hq
    refine ⟨_, pss_cons (ps_asg (pe_tup (pa_cons pe_int (pa_cons pe_int pa_nil))) (pg_tup (by rfl) (pgs_cons (pg_name (i := 4) nd rfl (.inl rfl)) (pgs_cons (pg_name (i := 5) nd rfl (.inl rfl)) pgs_nil))))
      (pss_cons (ps_for PassesOwn.never rfl (pi_range1 rfl T.range (pa_cons (pv 1) pa_nil)) (pg_name (i := 6) nd rfl (.inl rfl))
        (pss_cons (ps_set (i := 4) nd rfl (.inl rfl) (pe_op op_add (pv 4) (pe_op op_mul (pe_op op_mod (pe_op op_add (pe_op op_fdiv (pv 2) (pv 5)) (pe_op op_fdiv (pv 3) (pv 5))) (pv 0)) (pv 5))))
        (pss_one (ps_set (i := 5) nd rfl (.inl rfl) (pe_op op_mul (pv 5) (pv 0))))))
      (pss_one (ps_ret (pv 4)))), ?_⟩
    refine ⟨(by show 2 ≤ sizeLine; decide), fun T0 hT0 => ⟨T0, _, rfl, SqT.of upd_same, rfl, _, _, rfl, _, _, rfl, rfl, ?_⟩⟩
    refine ⟨_, rfl, (fOf q : Int), rfl, by omega, by omega, for_range (n := ((fOf q : Int)).toNat) (fun t σ H2 => ∃ x, σ = [some (.int (pOf q)), some (.int (fOf q : Int)), some (.int (a : Int)), some (.int (b : Int)), some (.int (sumT (pOf q) a b t).1), some (.int (sumT (pOf q) a b t).2), x] ∧ Same H H2) ⟨none, rfl, sameNew hT0⟩ ?_ ?_⟩
    · rintro t σ H2 ht ⟨x, rfl, s2⟩
      have htf : t < fOf q := by omega
      have e2 := sumT_two (p := pOf q) (a := (a : Int)) (b := (b : Int)) t
      obtain ⟨g1, g2⟩ := hpl t (by omega)
      have h1 : 0 < (sumT (pOf q) a b t).2 := by rw [e2]; exact g1
      have h2 : (sumT (pOf q) a b t).2 < 1000 := by rw [e2]; exact g2
      have m0 : 0 ≤ ((a : Int) / (sumT (pOf q) a b t).2 + (b : Int) / (sumT (pOf q) a b t).2) % pOf q := Int.emod_nonneg _ (by omega)
      have m1 : ((a : Int) / (sumT (pOf q) a b t).2 + (b : Int) / (sumT (pOf q) a b t).2) % pOf q < pOf q := Int.emod_lt_of_pos _ (by omega)
      refine ⟨_, rfl, _, rfl, _, rfl, _, _, rfl, rfl, ⟨h1, by omega⟩, _, rfl, _, rfl, _, _, rfl, rfl, ⟨h1, by omega⟩, _, _, rfl, rfl, _, rfl, _, pOf q, rfl, rfl, (by show 0 < pOf q; omega), _, rfl, _, _, rfl, rfl, mul_fits m0 (by omega), _, _, rfl, rfl, ?_⟩
      refine ⟨_, rfl, _, rfl, _, _, rfl, rfl, mul_fits (by omega) (by omega), ?_⟩
      exact ⟨_, rfl, s2⟩
    · rintro σ H2 ⟨x, rfl, s2⟩
      refine ⟨_, rfl, ?_⟩
      have e : (sumT (pOf q) (a : Int) (b : Int) ((fOf q : Int)).toNat).1 = (su q a b : Int) := by
        rw [Int.toNat_natCast]
        exact (su_at hq ha hb).1
      show Q (.int (sumT (pOf q) (a : Int) (b : Int) ((fOf q : Int)).toNat).1) H2
      rw [e]
      exact k H2 s2
abbrev nProd : List Str := ["_law_p", "_law_f", "_law_one", "_law_other", "_law_found", "_law_i", "_law_left", "_law_j", "_law_right_here", "_law_value", "_law_digit"]
theorem scProd : FnScope nProd p4 (defScope sProd) := ⟨rfl, rfl, rfl, by decide +kernel, rfl, by decide +kernel, by decide +kernel⟩
theorem ok_prod {f : Addr} {fd : FuncData} (F : Fun K "_law_element_product" "_law_element_product" sProd f fd) (T : Free mg) (cD : Cl P w K mg base 1 "_law_digits" spDig) : FnOk P w K mg base CX0 2 f fd p4 spProd := by
  have nd := scProd.nd
  refine F.ok scProd (fun vs H Q E h => ?_) (fun cdv A outer s H vs Q E hr h => ?_)
  · obtain ⟨q, a, b, ⟨_, _, _, rfl⟩, _⟩ := h
    rfl
  · obtain ⟨q, a, b, ⟨hq, ha, hb, rfl⟩, k⟩ := h
    obtain ⟨⟨p2, p7, f1, f3⟩, _⟩ := plc_at hq
    obtain ⟨la, da⟩ := dg_at hq ha
    obtain ⟨lb, db⟩ := dg_at hq hb
    have q9 := flds_le hq
    obtain ⟨eW, _⟩ := mu_at hq ha hb
    unfold prodI prodRow at eW
    generalize hp : pOf q = p at *
    generalize hf : fOf q = n at *
    generalize hca : dg p (a : Int) = ca at *
    generalize hcb : dg p (b : Int) = cb at *
    refine ⟨_, pss_cons (ps_set (i := 4) nd rfl (.inl rfl) (pe_op op_rep (pe_lst (pa_cons pe_int pa_nil)) (pe_op op_mul pe_int (pv 1))))
      (pss_cons (ps_for PassesOwn.never rfl (pi_enum rfl T.enum (pa_cons (pe_cl cD hr (by decide) (by rfl) (pa_cons (pv 0) (pa_cons (pv 2) pa_nil))) pa_nil))
          (pg_tup (by rfl) (pgs_cons (pg_name (i := 5) nd rfl (.inl rfl)) (pgs_cons (pg_name (i := 6) nd rfl (.inl rfl)) pgs_nil)))
        (pss_one (ps_for PassesOwn.never rfl (pi_enum rfl T.enum (pa_cons (pe_cl cD hr (by decide) (by rfl) (pa_cons (pv 0) (pa_cons (pv 3) pa_nil))) pa_nil))
          (pg_tup (by rfl) (pgs_cons (pg_name (i := 7) nd rfl (.inl rfl)) (pgs_cons (pg_name (i := 8) nd rfl (.inl rfl)) pgs_nil)))
          (pss_one (ps_asg (pe_op op_mod (pe_op op_add (pe_ix ix_list (pv 4) (pe_op op_add (pv 5) (pv 7)) (fun _ _ => rfl)) (pe_op op_mul (pv 6) (pv 8))) (pv 0)) (pg_sub (pv 4) (pe_op op_add (pv 5) (pv 7)) set_list))))))
      (pss_cons (ps_for PassesOwn.never rfl (pi_range3 rfl T.range (pa_cons (pe_op op_sub (pe_op op_mul pe_int (pv 1)) pe_int) (pa_cons (pe_op op_sub (pv 1) pe_int) (pa_cons (pe_un un_neg pe_int) pa_nil)))) (pg_name (i := 5) nd rfl (.inl rfl))
        (pss_one (ps_if (pt_cmpR op_gt (pv 1) pe_int (nomark _))
          (pss_cons (ps_asg (pe_op op_mod (pe_op op_add (pe_ix ix_list (pv 4) (pe_op op_sub (pv 5) (pv 1)) (fun _ _ => rfl)) (pe_ix ix_list (pv 4) (pv 5) (fun _ _ => rfl))) (pv 0)) (pg_sub (pv 4) (pe_op op_sub (pv 5) (pv 1)) set_list))
          (pss_cons (ps_asg (pe_op op_mod (pe_op op_add (pe_ix ix_list (pv 4) (pe_op op_add (pe_op op_sub (pv 5) (pv 1)) pe_int) (fun _ _ => rfl)) (pe_ix ix_list (pv 4) (pv 5) (fun _ _ => rfl))) (pv 0)) (pg_sub (pv 4) (pe_op op_add (pe_op op_sub (pv 5) (pv 1)) pe_int) set_list))
          (pss_one (ps_asg pe_int (pg_sub (pv 4) (pv 5) set_list))))) pss_nil)))
      (pss_cons (ps_set (i := 9) nd rfl (.inl rfl) pe_int)
      (pss_cons (ps_for PassesOwn.never rfl (pi_list (pe_revL (pe_slice sl_list (pv 4) po_none (po_some (pv 1))))) (pg_name (i := 10) nd rfl (.inl rfl))
        (pss_one (ps_set (i := 9) nd rfl (.inl rfl) (pe_op op_add (pe_op op_mul (pv 9) (pv 0)) (pv 10)))))
      (pss_one (ps_ret (pv 9))))))), ?_⟩
    -- the row of zeros
    refine ⟨(by show 1 ≤ sizeLine; decide), fun l0 hl0 => ⟨_, rfl, 2, (n : Int), rfl, rfl, mul_fits (by decide) (by decide), l0, 2 * (n : Int), _, rfl, rfl, upd_same, by omega, by omega, ?_, fun L hL => ?_⟩⟩
    · show 1 * (2 * (n : Int)).toNat ≤ sizeLine
      rw [Nat.one_mul]
      exact Nat.le_of_lt (small1000 (by omega))
    have s1 : Same H (upd H l0 (.lst [V.int 0])) := sameNew hl0
    have eL : (List.replicate (2 * (n : Int)).toNat [V.int 0]).flatten = iV (List.replicate (2 * n) 0) := by
      rw [List.flatten_replicate_singleton, show (2 * (n : Int)).toNat = 2 * n by omega]
      simp
    have eqL : upd (upd H l0 (.lst [V.int 0])) L (.lst (List.replicate (2 * (n : Int)).toNat [V.int 0]).flatten) L = some (.lst (iV (List.replicate (2 * n) 0))) := by
      rw [upd_same, eL]
    generalize hH1 : upd (upd H l0 (.lst [V.int 0])) L (.lst (List.replicate (2 * (n : Int)).toNat [V.int 0]).flatten) = H1 at *
    have hL0 : H L = none := s1.free hL
    have s2 : Same H H1 := by rw [← hH1]; exact sameSet s1 hL0
    -- the digits of one
    refine ⟨_, rfl, _, rfl, p, (a : Int), rfl, p2, by omega, by omega, by omega, fun dA H2 s3 nA hA => ?_⟩
    rw [hca] at hA
    refine ⟨dA, iV ca, rfl, SqL.of hA, ?_⟩
    have nAL : dA ≠ L := fun e => by rw [e, eqL] at nA; cases nA
    refine for_enum (K := K) (a := dA) (xs := iV ca) (fun i σ H3 => ∃ x5 x6 x7 x8, σ = [some (.int p), some (.int (n : Int)), some (.int (a : Int)), some (.int (b : Int)), some (.ref L), x5, x6, x7, x8, none, none] ∧
      But L H2 H3 ∧ H3 L = some (.lst (iV (outerT p ca cb (List.replicate (2 * n) 0) i)))) ⟨none, none, none, none, rfl, But.refl H2, s3 _ _ eqL⟩ (fun i σ H3 _ ⟨_, _, _, _, _, b3, _⟩ => b3.seq nAL (SqL.of hA)) ?_ ?_
    · rintro i x σ H3 T0 hx ⟨x5, x6, x7, x8, rfl, b3, e3⟩ hT0
      obtain ⟨l, rfl, hl⟩ := iV_of hx
      have hi : i < ca.length := (List.getElem?_eq_some_iff.mp hl).1
      have hl9 := da l (List.mem_of_getElem? hl)
      refine ⟨T0, _, rfl, SqT.of upd_same, rfl, _, _, rfl, _, _, rfl, rfl, ?_⟩
      refine ⟨_, rfl, _, rfl, p, (b : Int), rfl, p2, by omega, by omega, by omega, fun dB H4 s4 nB hB => ?_⟩
      rw [hcb] at hB
      refine ⟨dB, iV cb, rfl, SqL.of hB, ?_⟩
      have nT : T0 ≠ L := fun e => by rw [e, e3] at hT0; cases hT0
      have b4 : But L H2 H4 := (b3.trans (But.of (sameNew hT0))).same s4
      have e4 : H4 L = some (.lst (iV (outerT p ca cb (List.replicate (2 * n) 0) i))) := s4 _ _ (by rw [upd_ne nT.symm]; exact e3)
      have nBL : dB ≠ L := fun e => by rw [e, upd_ne nT.symm, e3] at nB; cases nB
      refine for_enum (K := K) (a := dB) (xs := iV cb) (fun j σ H5 => ∃ x7 x8, σ = [some (.int p), some (.int (n : Int)), some (.int (a : Int)), some (.int (b : Int)), some (.ref L), some (.int (i : Int)), some (.int l), x7, x8, none, none] ∧
        But L H4 H5 ∧ H5 L = some (.lst (iV (innerT p i l cb (outerT p ca cb (List.replicate (2 * n) 0) i) j)))) ⟨_, _, rfl, But.refl H4, e4⟩ (fun i σ H3 _ ⟨_, _, _, b5, _⟩ => b5.seq nBL (SqL.of hB)) ?_ ?_
      · rintro j x σ H5 T1 hx ⟨x7, x8, rfl, b5, e5⟩ hT1
        obtain ⟨r, rfl, hrr⟩ := iV_of hx
        have hj : j < cb.length := (List.getElem?_eq_some_iff.mp hrr).1
        have nT1 : T1 ≠ L := fun e => by rw [e, e5] at hT1; cases hT1
        refine ⟨T1, _, rfl, SqT.of upd_same, rfl, _, _, rfl, _, _, rfl, rfl, ?_⟩
        have e6 : upd H5 T1 (.tup [.int (j : Int), .int r]) L = some (.lst (iV (innerT p i l cb (outerT p ca cb (List.replicate (2 * n) 0) i) j))) := by rw [upd_ne nT1.symm]; exact e5
        generalize hrow : innerT p i l cb (outerT p ca cb (List.replicate (2 * n) 0) i) j = row at *
        have hlen : row.length = 2 * n := by rw [← hrow, innerT_len, outerT_len, List.length_replicate]
        have hij : i + j < row.length := by omega
        refine ⟨_, rfl, _, rfl, _, rfl, (i : Int), (j : Int), rfl, rfl, L, iV row, (i : Int) + (j : Int), _, rfl, rfl, SqL.of e6, iV_atI (n := i + j) (by omega) hij, _, rfl, _, rfl, l, r, rfl, rfl, mul_fits hl9.1 (by omega), _, _, rfl, rfl, _, rfl, _, p, rfl, rfl, (by show 0 < p; omega), ?_⟩
        refine ⟨_, rfl, _, rfl, _, rfl, (i : Int), (j : Int), rfl, rfl, L, iV row, (i : Int) + (j : Int), i + j, rfl, rfl, e6, iV_ixN (by omega) hij, ?_⟩
        refine ⟨_, _, rfl, (b5.trans (But.of (sameNew hT1))).set, ?_⟩
        rw [upd_same, iV_set, innerT, hrow, getD_at hrr]
        rfl
      · rintro σ H5 ⟨x7, x8, rfl, b5, e5⟩
        refine ⟨_, _, _, _, rfl, b4.trans b5, ?_⟩
        rw [outerT, getD_at hl]
        rw [iV_len] at e5
        exact e5
    · rintro σ H3 ⟨x5, x6, x7, x8, rfl, b3, e3⟩
      rw [iV_len] at e3
      have s4 : Same H H3 := same_but (s2.trans s3) b3 hL0
      generalize hrow0 : outerT p ca cb (List.replicate (2 * n) 0) ca.length = row0 at *
      have hlen0 : row0.length = 2 * n := by rw [← hrow0, outerT_len, List.length_replicate]
      -- down from the places above f
      refine ⟨_, rfl, 2, (n : Int), rfl, rfl, mul_fits (by decide) (by decide), _, 1, rfl, rfl, _, rfl, (n : Int), 1, rfl, rfl, 1, rfl, 2 * (n : Int) - 1, (n : Int) - 1, -1, (2 * (n : Int) - 1 - ((n : Int) - 1)).toNat, rfl, RgC.neg (by omega) (by omega) (by omega) (by omega), ?_⟩
      refine for_rangeC (fun t σ H4 => ∃ x5, σ = [some (.int p), some (.int (n : Int)), some (.int (a : Int)), some (.int (b : Int)), some (.ref L), x5, x6, x7, x8, none, none] ∧ But L H3 H4 ∧ H4 L = some (.lst (iV (downs p n row0 t)))) ⟨_, rfl, But.refl H3, e3⟩ ?_ ?_
      · rintro t σ H4 ht ⟨x5', rfl, b4, e4⟩
        have htn : t < n := by omega
        have hlen : (downs p n row0 t).length = 2 * n := by rw [downs_len, hlen0]
        have ez : (2 * (n : Int) - 1) + (t : Int) * -1 = ((2 * n - 1 - t : Nat) : Int) := by omega
        rw [ez]
        refine ⟨_, rfl, (n : Int), 1, rfl, rfl, _, rfl, ?_⟩
        rw [downs]
        generalize downs p n row0 t = row at *
        generalize hz : 2 * n - 1 - t = z at *
        by_cases c : (1 : Int) < (n : Int)
        · rw [decide_eq_true c]
          refine iteT ?_
          have c' : 1 < n := by omega
          unfold downD
          rw [if_pos c']
          refine ⟨_, rfl, _, rfl, _, rfl, (z : Int), (n : Int), rfl, rfl, L, iV row, (z : Int) - (n : Int), _, rfl, rfl, SqL.of e4, iV_atI (n := z - n) (by omega) (by omega), _, rfl, _, rfl, L, iV row, (z : Int), _, rfl, rfl, SqL.of e4, iV_atI (n := z) rfl (by omega), _, _, rfl, rfl, _, rfl, _, p, rfl, rfl, (by show 0 < p; omega), ?_⟩
          refine ⟨_, rfl, _, rfl, _, rfl, (z : Int), (n : Int), rfl, rfl, L, iV row, (z : Int) - (n : Int), z - n, rfl, rfl, e4, iV_ixN (by omega) (by omega), ?_⟩
          have e5 : upd H4 L (.lst ((iV row).set (z - n) (.int ((row.getD (z - n) 0 + row.getD z 0) % p)))) L = some (.lst (iV (row.set (z - n) ((row.getD (z - n) 0 + row.getD z 0) % p)))) := by rw [upd_same, iV_set]
          generalize hrow1 : row.set (z - n) ((row.getD (z - n) 0 + row.getD z 0) % p) = row1 at *
          have hlen1 : row1.length = 2 * n := by rw [← hrow1, List.length_set, hlen]
          refine ⟨_, rfl, _, rfl, _, rfl, (z : Int), (n : Int), rfl, rfl, _, 1, rfl, rfl, L, iV row1, (z : Int) - (n : Int) + 1, _, rfl, rfl, SqL.of e5, iV_atI (n := z - n + 1) (by omega) (by omega), _, rfl, _, rfl, L, iV row1, (z : Int), _, rfl, rfl, SqL.of e5, iV_atI (n := z) rfl (by omega), _, _, rfl, rfl, _, rfl, _, p, rfl, rfl, (by show 0 < p; omega), ?_⟩
          refine ⟨_, rfl, _, rfl, _, rfl, (z : Int), (n : Int), rfl, rfl, _, 1, rfl, rfl, L, iV row1, (z : Int) - (n : Int) + 1, z - n + 1, rfl, rfl, e5, iV_ixN (by omega) (by omega), ?_⟩
          refine ⟨_, rfl, _, rfl, L, _, (z : Int), z, rfl, rfl, upd_same, (by rw [iV_set]; exact iV_ixN rfl (by rw [List.length_set]; omega)), ?_⟩
          refine ⟨_, rfl, b4.set.set.set, ?_⟩
          rw [upd_same, iV_set, iV_set]
        · rw [decide_eq_false c]
          refine iteF ?_
          unfold downD
          rw [if_neg (show ¬ 1 < n by omega)]
          exact ⟨_, rfl, b4, e4⟩
      · rintro σ H4 ⟨x5', rfl, b4, e4⟩
        have e0 : (2 * (n : Int) - 1 - ((n : Int) - 1)).toNat = n := by omega
        rw [e0] at e4
        have s5 : Same H H4 := same_but s4 b4 hL0
        generalize hrow : downs p n row0 n = row at *
        have hlen : row.length = 2 * n := by rw [← hrow, downs_len, hlen0]
        refine ⟨_, rfl, _, rfl, (n : Int), rfl, L, iV row, rfl, SqL.of e4, fun l1 hl1 => ?_⟩
        have ecut : cutV (iV row) none (some (n : Int)) = iV (row.take n) := by
          unfold cutV
          rw [HT.sIx_none, HT.sIx_nat, List.drop_zero, iV_len, hlen, Nat.sub_zero, Nat.min_eq_left (by omega)]
          exact (List.map_take ..).symm
        rw [ecut]
        refine ⟨l1, _, rfl, SqL.of upd_same, fun l2 hl2 => ?_⟩
        have erev : (iV (row.take n)).reverse = iV (row.take n).reverse := (List.map_reverse ..).symm
        rw [erev]
        have s6 : Same H (upd H4 l1 (.lst (iV (row.take n)))) := sameSet s5 (s5.free hl1)
        have s7 : Same H (upd (upd H4 l1 (.lst (iV (row.take n)))) l2 (.lst (iV (row.take n).reverse))) := sameSet s6 (s6.free hl2)
        have hq2 : SqL K (upd (upd H4 l1 (.lst (iV (row.take n)))) l2 (.lst (iV (row.take n).reverse))) l2 (iV (row.take n).reverse) := SqL.of upd_same
        generalize upd (upd H4 l1 (.lst (iV (row.take n)))) l2 (.lst (iV (row.take n).reverse)) = H5 at *
        refine ⟨l2, rfl, ⟨_, hq2⟩, for_list (K := K) (a := l2) (xs := iV (row.take n).reverse) (fun i σ H6 => ∃ x10, σ = [some (.int p), some (.int (n : Int)), some (.int (a : Int)), some (.int (b : Int)), some (.ref L), x5', x6, x7, x8, some (.int (worth p ((row.take n).reverse.take i))), x10] ∧ H6 = H5)
          ⟨none, rfl, rfl⟩ (fun i σ H6 _ ⟨_, _, e⟩ => by rw [e]; exact hq2) ?_ ?_⟩
        · rintro i x σ H6 hx ⟨x10, rfl, rfl⟩
          obtain ⟨d, rfl, hd⟩ := iV_of hx
          refine ⟨_, rfl, _, rfl, _, p, rfl, rfl, mul_fitsR (by omega) (by omega), _, rfl, _, _, rfl, rfl, ?_⟩
          refine ⟨some (.int d), ?_, rfl⟩
          rw [worth_snoc hd]
          rfl
        · rintro σ H6 ⟨x10, rfl, rfl⟩
          refine ⟨_, rfl, ?_⟩
          rw [iV_len, List.take_length]
          show Q (.int (worth p (row.take n).reverse)) H6
          rw [eW]
          exact k H6 s7
end
end Ka
namespace Ka
open PySem L2
/-! ### a dict of the module whose keys are ints -/
def entOk (es : Array DictEntry) : Bool := es.toList.all fun e => match e.key with
  | .int j _ => decide (e.hash = hashInt j)
  | _ => false
def KInt (K : PySem.W.Frag) (a : Addr) (k : Int) (v : V) : Prop := ∃ (es : Array DictEntry) (n : Nat) (u : Value), K.lookup a = some ⟨.type "dict", none, .dict es n, #[]⟩ ∧ entOk es = true ∧ findBy Value.isInt es k = some u ∧ RelV v u
def rIxKI (K : PySem.W.Frag) : R2 := fun x y H Q => ∃ (p : Addr) (k : Int) (v : V), x = .ref p ∧ y = .int k ∧ KInt K p k v ∧ Q v H
theorem ix_kint {X : Cx} : IxR X (rIxKI X.K) := by
  intro value slice pins s σ H x y v u Q I rx ry hh hs
  obtain ⟨p, k, r, rfl, rfl, ⟨es, n, u0, lk, ok, e, ru⟩, q⟩ := hh
  cases (show v = Value.ref p from rx)
  obtain ⟨t, rfl⟩ := ry
  have keys : ∀ d ∈ es, ∃ j : Int, Value.isInt j d.key = true ∧ d.hash = hashInt j := fun d hd => by
    have c := List.all_eq_true.mp ok d (Array.mem_toList_iff.mpr hd)
    cases ek : d.key with
    | int j tk =>
      rw [ek] at c
      exact ⟨j, by simp [Value.isInt], of_decide_eq_true c⟩
    | _ => rw [ek] at c; cases c
  have hm : s.heap.MapOf (intKind X.prog X.w) p (fun z => findBy Value.isInt es z) := ⟨_, es, n, I.kIn _ _ lk, ⟨rfl, rfl, rfl⟩, rfl, keys, fun _ => rfl⟩
  exact PyProof.Rows.tail_any hm.typeIs slot_dict_getitem.lookup (wpAny_getItem_of (intKind_is X.prog X.w k t) hm e ⟨r, H, I.tok _, ru, q⟩) hs

/-! ### tuples of the module -/
def TupK (K : PySem.W.Frag) (a : Addr) (xs : List V) : Prop := ∃ (o : Obj) (its : Array Value) (n : Nat), K.lookup a = some o ∧ o.cls = .type "tuple" ∧ o.data = .seq its n ∧ its.size ≤ sizeLine ∧ Vals xs its.toList
theorem TupK.sq {K : PySem.W.Frag} {a : Addr} {xs : List V} (h : TupK K a xs) (H : Hp) : SqT K H a xs := .inr h
/-- a look: the values that stand in a tuple of the written part -/
def valB : V → Value → Bool
  | .int i, .int j _ => decide (i = j)
  | .ref a, .ref b => decide (a = b)
  | _, _ => false
theorem valB_ok {v : V} {u : Value} (h : valB v u = true) : RelV v u := by
  cases v with
  | int i =>
    cases u with
    | int j t =>
      have e : i = j := of_decide_eq_true h
      rw [e]
      exact ⟨t, rfl⟩
    | _ => cases h
  | ref a =>
    cases u with
    | ref b =>
      have e : a = b := of_decide_eq_true h
      rw [e]
      rfl
    | _ => cases h
  | _ => cases u <;> cases h
def valsB : List V → List Value → Bool
  | [], [] => true
  | v :: vs, u :: us => valB v u && valsB vs us
  | _, _ => false
theorem valsB_ok : ∀ {vs : List V} {us : List Value}, valsB vs us = true → Vals vs us
  | [], [], _ => .nil
  | v :: vs, u :: us, h => by
    have h2 : (valB v u && valsB vs us) = true := h
    rw [Bool.and_eq_true] at h2
    exact .cons (valB_ok h2.1) (valsB_ok h2.2)
  | [], _ :: _, h => by cases h
  | _ :: _, [], h => by cases h
def tupB (K : PySem.W.Frag) (a : Addr) (xs : List V) : Bool := match K.lookup a with
  | some ⟨.type c, _, .seq its _, _⟩ => decide (c = "tuple") && (decide (its.size ≤ 100) && valsB xs its.toList)
  | _ => false
theorem tupB_ok {K : PySem.W.Frag} {a : Addr} {xs : List V} (h : tupB K a xs = true) : TupK K a xs := by
  unfold tupB at h
  split at h
  · rename_i c od its n osl e
    simp only [Bool.and_eq_true, decide_eq_true_eq] at h
    obtain ⟨h1, h2, h3⟩ := h
    exact ⟨_, its, n, e, by rw [h1], rfl, Nat.le_trans h2 (by decide), valsB_ok h3⟩
  · cases h
/-! ### the tables of products -/
def refOf : Value → Addr
  | .ref a => a
  | _ => 0
def itemsOf (K : PySem.W.Frag) (a : Addr) : List Addr := match K.lookup a with
  | some ⟨_, _, .seq its _, _⟩ => its.toList.map refOf
  | _ => []
def rowV (q i : Nat) : List V := nV ((List.range q).map (mu q i))
def tabB (K : PySem.W.Frag) (aD : Addr) : Bool := match K.lookup aD with
  | some ⟨.type c, none, .dict es _, sl⟩ => decide (c = "dict") && (sl.isEmpty && (entOk es && flds.all fun q => match findBy Value.isInt es (q : Int) with
    | some (.ref t) => tupB K t ((itemsOf K t).map V.ref) && (decide ((itemsOf K t).length = q) && (List.range q).all fun i => tupB K ((itemsOf K t).getD i 0) (rowV q i))
    | _ => false))
  | _ => false
/-- the table of q: its rows stand at rows -/
structure TabQ (K : PySem.W.Frag) (q : Nat) (t : Addr) (rows : List Addr) : Prop where
  tup : TupK K t (rows.map V.ref)
  len : rows.length = q
  row : ∀ i r, rows[i]? = some r → TupK K r (rowV q i)
theorem tabB_ok {K : PySem.W.Frag} {aD : Addr} (h : tabB K aD = true) {q : Nat} (hq : q ∈ flds) : ∃ t rows, KInt K aD (q : Int) (.ref t) ∧ TabQ K q t rows := by
  unfold tabB at h
  split at h
  · rename_i c es n sl e
    simp only [Bool.and_eq_true, decide_eq_true_eq] at h
    obtain ⟨h1, h2, h3, h4⟩ := h
    have h5 := List.all_eq_true.mp h4 q hq
    cases ef : findBy Value.isInt es (q : Int) with
    | none => rw [ef] at h5; cases h5
    | some u =>
      rw [ef] at h5
      cases u with
      | ref t =>
        simp only [Bool.and_eq_true, decide_eq_true_eq] at h5
        obtain ⟨h6, h7, h8⟩ := h5
        have esl : sl = #[] := Array.isEmpty_iff.mp h2
        subst esl
        subst h1
        refine ⟨t, itemsOf K t, ⟨es, n, .ref t, e, h3, ef, rfl⟩, tupB_ok h6, h7, fun i r hr => ?_⟩
        have hi : i < q := by rw [← h7]; exact (List.getElem?_eq_some_iff.mp hr).1
        have h9 := tupB_ok (List.all_eq_true.mp h8 i (List.mem_range.mpr hi))
        rw [List.getD_eq_getElem?_getD, hr] at h9
        exact h9
      | _ => cases h5
  · cases h
/-- an entry -/
theorem rowV_at {q i j : Nat} (hj : j < q) : atI (rowV q i) (j : Int) = some (.int (mu q i j : Int)) := by
  refine atI_nat ?_
  unfold rowV
  refine nV_at ?_
  rw [List.getElem?_map, List.getElem?_range hj]
  rfl
end Ka
namespace Ka
open PySem L2
def big : Int := 10 ^ 60
/-- the module's constants -/
structure Con (K : PySem.W.Frag) (mg : Str → Option Value) : Prop where
  sixty : ∃ t, mg "SIXTY_DIGITS" = some (.int big t)
  fields : ∃ a, mg "FIELDS" = some (.ref a) ∧ TupK K a (nV flds)
  tables : ∃ a, mg "PRODUCT_TABLES" = some (.ref a) ∧ tabB K a = true
def spWhole : Sp := fun vs H Q _ => ∃ n : Int, vs = [.int n] ∧ Q (.bl true) H
def spInteg : Sp := fun vs H Q _ => ∃ n : Int, vs = [.int n] ∧ 0 ≤ n ∧ n < big ∧ Q (.bl true) H
def spWithin : Sp := fun vs H Q _ => ∃ n lo hi : Int, vs = [.int n, .int lo, .int hi] ∧ lo ≤ n ∧ n ≤ hi ∧ Q (.bl true) H
def spFieldIn : Sp := fun vs H Q _ => ∃ q : Nat, q ∈ flds ∧ vs = [.int (q : Int)] ∧ Q (.bl true) H
def spElemIn : Sp := fun vs H Q _ => ∃ q e : Nat, e < q ∧ vs = [.int (q : Int), .int (e : Int)] ∧ Q (.bl true) H
def spReqF : Sp := fun vs H Q _ => ∃ q : Nat, q ∈ flds ∧ vs = [.int (q : Int)] ∧ Q .non H
def spReqE : Sp := fun vs H Q _ => ∃ q e : Nat, e < q ∧ vs = [.int (q : Int), .int (e : Int)] ∧ Q .non H
def spReqZ : Sp := fun vs H Q _ => ∃ n : Int, vs = [.int n] ∧ 0 ≤ n ∧ n < big ∧ Q .non H
def spReqO : Sp := fun vs H Q _ => ∃ q e : Nat, q ∈ flds ∧ 0 < e ∧ e < q ∧ vs = [.int (q : Int), .int (e : Int)] ∧ Q .non H
/-- the power that the program tells -/
def powT (q e : Nat) (k : Int) : Nat := if e = 0 then (if k = 0 then 1 else 0) else pw q e (k.toNat % (q - 1))
def spPow : Sp := fun vs H Q _ => ∃ (q e : Nat) (k : Int), q ∈ flds ∧ e < q ∧ 0 ≤ k ∧ k < big ∧ vs = [.int (q : Int), .int (e : Int), .int k] ∧ Q (.int (powT q e k : Int)) H
def spOrd : Sp := fun vs H Q _ => ∃ q e : Nat, q ∈ flds ∧ 0 < e ∧ e < q ∧ vs = [.int (q : Int), .int (e : Int)] ∧ Q (.int (ord q e : Int)) H
theorem fld_inV {q : Nat} (h : q ∈ flds) : inV (.int (q : Int)) (nV flds) = true := by
  have c : allq (fun q => inV (.int (q : Int)) (nV flds)) = true := by decide +kernel
  exact allq_at c h
section
variable {P : Program} {w : World} {K : PySem.W.Frag} {mg : Str → Option Value} {base : Heap} {f : Addr} {fd : FuncData}
theorem scWhole : FnScope ["value"] ["value"] (defScope sWhole) := ⟨rfl, rfl, rfl, by decide +kernel, rfl, by decide +kernel, by decide +kernel⟩
theorem ok_whole (F : Fun K "is_whole_number" "is_whole_number" sWhole f fd) (T : Free mg) : FnOk P w K mg base CX0 1 f fd ["value"] spWhole := by
  refine F.ok scWhole (fun vs H Q E h => ?_) (fun cdv A outer s H vs Q E hr h => ?_)
  · obtain ⟨n, rfl, _⟩ := h
    rfl
  · obtain ⟨n, rfl, k⟩ := h
    refine ⟨_, pss_one (ps_ret (pe_and (pe_callB call_isi (by rfl) T.isi PyProof.Rows.boot_isinstance (pa_cons (pv 0) (pa_cons (pe_bltn (v := .ty "int") (by rfl) T.int PyProof.Rows.boot_int rfl) pa_nil)))
      (pe_one (pe_not (pe_callB call_isi (by rfl) T.isi PyProof.Rows.boot_isinstance (pa_cons (pv 0) (pa_cons (pe_bltn (v := .ty "bool") (by rfl) T.bool PyProof.Rows.boot_bool rfl) pa_nil))))))), ?_⟩
    refine ⟨_, rfl, .int n, .ty "int", .type "int", .type "int", true, rfl, ClsV.ty _, TyX.base (TyOf.int n), kit_ty (by decide +kernel), true, rfl, iteT ?_⟩
    exact ⟨_, rfl, .int n, .ty "bool", .type "int", .type "bool", false, rfl, ClsV.ty _, TyX.base (TyOf.int n), kit_ty (by decide +kernel), false, rfl, k⟩
theorem scInteg : FnScope ["value"] ["value"] (defScope sInteg) := ⟨rfl, rfl, rfl, by decide +kernel, rfl, by decide +kernel, by decide +kernel⟩
theorem ok_integ (F : Fun K "is_integer" "is_integer" sInteg f fd) (T : Free mg) (C : Con K mg) (cW : Cl P w K mg base 1 "is_whole_number" spWhole) : FnOk P w K mg base CX0 2 f fd ["value"] spInteg := by
  refine F.ok scInteg (fun vs H Q E h => ?_) (fun cdv A outer s H vs Q E hr h => ?_)
  · obtain ⟨n, rfl, _⟩ := h
    rfl
  · obtain ⟨n, rfl, n0, n1, k⟩ := h
    obtain ⟨t, hS⟩ := C.sixty
    refine ⟨_, pss_one (ps_ret (pe_and (pe_cl cW hr (by decide) (by rfl) (pa_cons (pv 0) pa_nil))
      (pe_one (pe_cmpR op_lt (pe_callB call_abs (by rfl) T.abs PyProof.Rows.boot_abs (pa_cons (pv 0) pa_nil)) (pe_glob (v := .int big) rfl hS ⟨_, rfl⟩) (nomark _))))), ?_⟩
    refine ⟨_, rfl, n, rfl, true, rfl, iteT ?_⟩
    refine ⟨_, rfl, n, rfl, _, big, rfl, rfl, ?_⟩
    have e : decide ((if n < 0 then -n else n) < big) = true := decide_eq_true (by rw [if_neg (by omega)]; exact n1)
    show Q (.bl (decide ((if n < 0 then -n else n) < big))) H
    rw [e]
    exact k
theorem scWithin : FnScope ["value", "least", "most"] ["value", "least", "most"] (defScope sWithin) := ⟨rfl, rfl, rfl, by decide +kernel, rfl, by decide +kernel, by decide +kernel⟩
theorem ok_within (F : Fun K "is_within" "is_within" sWithin f fd) (cW : Cl P w K mg base 1 "is_whole_number" spWhole) : FnOk P w K mg base CX0 2 f fd ["value", "least", "most"] spWithin := by
  refine F.ok scWithin (fun vs H Q E h => ?_) (fun cdv A outer s H vs Q E hr h => ?_)
  · obtain ⟨n, lo, hi, rfl, _⟩ := h
    rfl
  · obtain ⟨n, lo, hi, rfl, n0, n1, k⟩ := h
    refine ⟨_, pss_one (ps_ret (pe_and (pe_cl cW hr (by decide) (by rfl) (pa_cons (pv 0) pa_nil)) (pe_one (pe_chain op_le op_le (pv 1) (pv 0) (pv 2))))), ?_⟩
    refine ⟨_, rfl, n, rfl, true, rfl, iteT ?_⟩
    refine ⟨_, rfl, _, rfl, lo, n, rfl, rfl, _, rfl, ?_⟩
    rw [decide_eq_true n0]
    refine iteT ⟨_, rfl, n, hi, rfl, rfl, ?_⟩
    show Q (.bl (decide (n ≤ hi))) H
    rw [decide_eq_true n1]
    exact k
theorem scFromZ : FnScope ["value"] ["value"] (defScope sFromZ) := ⟨rfl, rfl, rfl, by decide +kernel, rfl, by decide +kernel, by decide +kernel⟩
theorem ok_fromZ (F : Fun K "is_from_zero" "is_from_zero" sFromZ f fd) (cI : Cl P w K mg base 2 "is_integer" spInteg) : FnOk P w K mg base CX0 3 f fd ["value"] spInteg := by
  refine F.ok scFromZ (fun vs H Q E h => ?_) (fun cdv A outer s H vs Q E hr h => ?_)
  · obtain ⟨n, rfl, _⟩ := h
    rfl
  · obtain ⟨n, rfl, n0, n1, k⟩ := h
    refine ⟨_, pss_one (ps_ret (pe_and (pe_cl cI hr (by decide) (by rfl) (pa_cons (pv 0) pa_nil)) (pe_one (pe_cmpR op_ge (pv 0) pe_int (nomark _))))), ?_⟩
    refine ⟨_, rfl, n, rfl, n0, n1, true, rfl, iteT ?_⟩
    refine ⟨_, rfl, n, 0, rfl, rfl, ?_⟩
    show Q (.bl (decide ((0 : Int) ≤ n))) H
    rw [decide_eq_true n0]
    exact k
theorem scFieldIn : FnScope ["value"] ["value"] (defScope sFieldIn) := ⟨rfl, rfl, rfl, by decide +kernel, rfl, by decide +kernel, by decide +kernel⟩
theorem ok_fieldIn (F : Fun K "is_field_in" "is_field_in" sFieldIn f fd) (C : Con K mg) (cW : Cl P w K mg base 1 "is_whole_number" spWhole) : FnOk P w K mg base CX0 2 f fd ["value"] spFieldIn := by
  refine F.ok scFieldIn (fun vs H Q E h => ?_) (fun cdv A outer s H vs Q E hr h => ?_)
  · obtain ⟨n, _, rfl, _⟩ := h
    rfl
  · obtain ⟨q, hq, rfl, k⟩ := h
    obtain ⟨aF, hF, tF⟩ := C.fields
    refine ⟨_, pss_one (ps_ret (pe_and (pe_cl cW hr (by decide) (by rfl) (pa_cons (pv 0) pa_nil)) (pe_one (pe_cmpR op_in_seq (pv 0) (pe_glob (v := .ref aF) rfl hF rfl) (by rfl))))), ?_⟩
    refine ⟨_, rfl, _, rfl, true, rfl, iteT ?_⟩
    refine ⟨_, rfl, aF, nV flds, rfl, .inr (tF.sq H), rfl, by decide +kernel, ?_⟩
    show Q (.bl (inV (.int (q : Int)) (nV flds))) H
    rw [fld_inV hq]
    exact k
theorem scElemIn : FnScope ["q", "value"] ["q", "value"] (defScope sElemIn) := ⟨rfl, rfl, rfl, by decide +kernel, rfl, by decide +kernel, by decide +kernel⟩
theorem ok_elemIn (F : Fun K "is_element_in" "is_element_in" sElemIn f fd) (cI : Cl P w K mg base 2 "is_within" spWithin) : FnOk P w K mg base CX0 3 f fd ["q", "value"] spElemIn := by
  refine F.ok scElemIn (fun vs H Q E h => ?_) (fun cdv A outer s H vs Q E hr h => ?_)
  · obtain ⟨q, e, _, rfl, _⟩ := h
    rfl
  · obtain ⟨q, e, he, rfl, k⟩ := h
    refine ⟨_, pss_one (ps_ret (pe_cl cI hr (by decide) (by rfl) (pa_cons (pv 1) (pa_cons pe_int (pa_cons (pe_op op_sub (pv 0) pe_int) pa_nil))))), ?_⟩
    exact ⟨_, rfl, _, rfl, (q : Int), 1, rfl, rfl, (e : Int), 0, (q : Int) - 1, rfl, by omega, by omega, k⟩
theorem scReqF : FnScope ["q"] ["q"] (defScope sReqF) := ⟨rfl, rfl, rfl, by decide +kernel, rfl, by decide +kernel, by decide +kernel⟩
theorem ok_reqF (F : Fun K "require_field" "require_field" sReqF f fd) (cF : Cl P w K mg base 2 "is_field_in" spFieldIn) : FnOk P w K mg base CX0 3 f fd ["q"] spReqF := by
  refine F.ok scReqF (fun vs H Q E h => ?_) (fun cdv A outer s H vs Q E hr h => ?_)
  · obtain ⟨q, _, rfl, _⟩ := h
    rfl
  · obtain ⟨q, hq, rfl, k⟩ := h
    refine ⟨_, pss_one (ps_if (pt_not (pt_val (pe_cl cF hr (by decide) (by rfl) (pa_cons (pv 0) pa_nil)))) pss_never pss_nil), ?_⟩
    exact ⟨_, rfl, q, hq, rfl, true, rfl, iteF k⟩
theorem scReqE : FnScope ["q", "value"] ["q", "value"] (defScope sReqE) := ⟨rfl, rfl, rfl, by decide +kernel, rfl, by decide +kernel, by decide +kernel⟩
theorem ok_reqE (F : Fun K "require_element" "require_element" sReqE f fd) (cF : Cl P w K mg base 3 "is_element_in" spElemIn) : FnOk P w K mg base CX0 4 f fd ["q", "value"] spReqE := by
  refine F.ok scReqE (fun vs H Q E h => ?_) (fun cdv A outer s H vs Q E hr h => ?_)
  · obtain ⟨q, e, _, rfl, _⟩ := h
    rfl
  · obtain ⟨q, e, he, rfl, k⟩ := h
    refine ⟨_, pss_one (ps_if (pt_not (pt_val (pe_cl cF hr (by decide) (by rfl) (pa_cons (pv 0) (pa_cons (pv 1) pa_nil))))) pss_never pss_nil), ?_⟩
    exact ⟨_, rfl, _, rfl, q, e, he, rfl, true, rfl, iteF k⟩
theorem scReqZ : FnScope ["value"] ["value"] (defScope sReqZ) := ⟨rfl, rfl, rfl, by decide +kernel, rfl, by decide +kernel, by decide +kernel⟩
theorem ok_reqZ (F : Fun K "require_from_zero" "require_from_zero" sReqZ f fd) (cF : Cl P w K mg base 3 "is_from_zero" spInteg) : FnOk P w K mg base CX0 4 f fd ["value"] spReqZ := by
  refine F.ok scReqZ (fun vs H Q E h => ?_) (fun cdv A outer s H vs Q E hr h => ?_)
  · obtain ⟨n, rfl, _⟩ := h
    rfl
  · obtain ⟨n, rfl, n0, n1, k⟩ := h
    refine ⟨_, pss_one (ps_if (pt_not (pt_val (pe_cl cF hr (by decide) (by rfl) (pa_cons (pv 0) pa_nil)))) pss_never pss_nil), ?_⟩
    exact ⟨_, rfl, n, rfl, n0, n1, true, rfl, iteF k⟩
theorem scReqO : FnScope ["q", "element"] ["q", "element"] (defScope sReqO) := ⟨rfl, rfl, rfl, by decide +kernel, rfl, by decide +kernel, by decide +kernel⟩
theorem ok_reqO (F : Fun K "require_other_than_zero" "require_other_than_zero" sReqO f fd) (cF : Cl P w K mg base 3 "require_field" spReqF) (cE : Cl P w K mg base 4 "require_element" spReqE) : FnOk P w K mg base CX0 5 f fd ["q", "element"] spReqO := by
  refine F.ok scReqO (fun vs H Q E h => ?_) (fun cdv A outer s H vs Q E hr h => ?_)
  · obtain ⟨q, e, _, _, _, rfl, _⟩ := h
    rfl
  · obtain ⟨q, e, hq, e0, he, rfl, k⟩ := h
    refine ⟨_, pss_cons (ps_expr (pe_cl cF hr (by decide) (by rfl) (pa_cons (pv 0) pa_nil))) (pss_cons (ps_expr (pe_cl cE hr (by decide) (by rfl) (pa_cons (pv 0) (pa_cons (pv 1) pa_nil))))
      (pss_one (ps_if (pt_cmpR op_eq (pv 1) pe_int (nomark _)) pss_never pss_nil))), ?_⟩
    refine ⟨_, rfl, q, hq, rfl, _, rfl, _, rfl, q, e, he, rfl, _, rfl, rfl, _, rfl, ?_⟩
    have c : decide (V.int (e : Int) = V.int 0) = false := decide_eq_false fun z => by
      injection z with z
      omega
    rw [c]
    exact iteF k
abbrev nPowIn : List Str := ["q", "element", "k", "table", "found", "turn"]
theorem scPowIn : FnScope nPowIn ["q", "element", "k"] (defScope sPowIn) := ⟨rfl, rfl, rfl, by decide +kernel, rfl, by decide +kernel, by decide +kernel⟩
theorem ok_powIn (F : Fun K "element_power_in" "element_power_in" sPowIn f fd) (T : Free mg) (C : Con K mg) : FnOk P w K mg base CX0 1 f fd ["q", "element", "k"] spPow := by
  have nd := scPowIn.nd
  refine F.ok scPowIn (fun vs H Q E h => ?_) (fun cdv A outer s H vs Q E hr h => ?_)
  · obtain ⟨q, e, k, _, _, _, _, rfl, _⟩ := h
    rfl
  · obtain ⟨q, e, n, hq, he, n0, n1, rfl, k⟩ := h
    have q9 := flds_le hq
    obtain ⟨aD, hD, tD⟩ := C.tables
    obtain ⟨t, rows, kt, TQ⟩ := tabB_ok tD hq
    refine ⟨_, pss_cons (ps_if (pt_cmpR op_eq (pv 1) pe_int (nomark _)) (pss_one (ps_ret (pe_callTy call_int1 (by rfl) T.int PyProof.Rows.boot_int (pa_cons (pe_cmpR op_eq (pv 2) pe_int (nomark _)) pa_nil)))) pss_nil)
      (pss_cons (ps_par (i := 3) (j := 4) (by rfl) nd rfl rfl (by decide) rfl rfl (pa_cons (pe_ix ix_kint (pe_glob (v := .ref aD) rfl hD rfl) (pv 0) (fun _ _ => rfl)) (pa_cons pe_int pa_nil)) (by rfl))
      (pss_cons (ps_for PassesOwn.never rfl (pi_range1 rfl T.range (pa_cons (pe_op op_mod (pv 2) (pe_op op_sub (pv 0) pe_int)) pa_nil)) (pg_name (i := 5) nd rfl (.inl rfl))
        (pss_one (ps_set (i := 4) nd rfl (.inl rfl) (pe_ix ix_tup (pe_ix ix_tup (pv 3) (pv 4) (fun _ _ => rfl)) (pv 1) (fun _ _ => rfl)))))
      (pss_one (ps_ret (pv 4))))), ?_⟩
    refine ⟨_, rfl, rfl, _, rfl, ?_⟩
    by_cases e0 : e = 0
    · subst e0
      refine iteT ⟨_, rfl, rfl, .inr ⟨_, rfl, ?_⟩⟩
      unfold powT at k
      rw [if_pos rfl] at k
      by_cases c : n = 0
      · subst c
        exact k
      · have d : decide (V.int n = V.int 0) = false := decide_eq_false fun z => c (by injection z)
        rw [d]
        rw [if_neg c] at k
        exact k
    · have d : decide (V.int (e : Int) = V.int 0) = false := decide_eq_false fun z => by
        injection z with z
        omega
      rw [d]
      refine iteF ?_
      unfold powT at k
      rw [if_neg e0] at k
      refine ⟨_, rfl, aD, (q : Int), .ref t, rfl, rfl, kt, _, _, rfl, ?_⟩
      have em : n % ((q : Int) - 1) = ((n.toNat % (q - 1) : Nat) : Int) := by
        have h1 : ((q - 1 : Nat) : Int) = (q : Int) - 1 := by omega
        have h2 : ((n.toNat : Nat) : Int) = n := by omega
        rw [Int.natCast_emod, h1, h2]
      have lt : n.toNat % (q - 1) < q - 1 := Nat.mod_lt _ (by omega)
      generalize hm : n.toNat % (q - 1) = m at *
      refine ⟨_, rfl, _, rfl, (q : Int), 1, rfl, rfl, n, (q : Int) - 1, rfl, rfl, (by show (0 : Int) < (q : Int) - 1; omega), n % ((q : Int) - 1), rfl, by omega, by omega, ?_⟩
      rw [em]
      refine for_range (n := ((m : Int)).toNat) (fun i σ H2 => ∃ x, σ = [some (.int (q : Int)), some (.int (e : Int)), some (.int n), some (.ref t), some (.int (pw q e i : Int)), x] ∧ H2 = H) ⟨none, rfl, rfl⟩ ?_ ?_
      · rintro i σ H2 hi ⟨x, rfl, rfl⟩
        have hp := pw_lt hq he i
        obtain ⟨r, hrow⟩ : ∃ r, rows[pw q e i]? = some r := ⟨_, List.getElem?_eq_getElem (by rw [TQ.len]; exact hp)⟩
        refine ⟨_, rfl, _, rfl, t, rows.map V.ref, (pw q e i : Int), .ref r, rfl, rfl, TQ.tup.sq H2, atI_nat (by rw [List.getElem?_map, hrow]; rfl), _, rfl, r, rowV q (pw q e i), (e : Int), _, rfl, rfl, (TQ.row _ _ hrow).sq H2, rowV_at he, ?_⟩
        exact ⟨_, rfl, rfl⟩
      · rintro σ H2 ⟨x, rfl, rfl⟩
        exact ⟨_, rfl, k⟩
abbrev nOrdIn : List Str := ["q", "element", "table", "found", "power"]
theorem scOrdIn : FnScope nOrdIn ["q", "element"] (defScope sOrdIn) := ⟨rfl, rfl, rfl, by decide +kernel, rfl, by decide +kernel, by decide +kernel⟩
theorem ok_ordIn (F : Fun K "element_order_in" "element_order_in" sOrdIn f fd) (C : Con K mg) : FnOk P w K mg base CX0 1 f fd ["q", "element"] spOrd := by
  have nd := scOrdIn.nd
  refine F.ok scOrdIn (fun vs H Q E h => ?_) (fun cdv A outer s H vs Q E hr h => ?_)
  · obtain ⟨q, e, _, _, _, rfl, _⟩ := h
    rfl
  · obtain ⟨q, e, hq, e0, he, rfl, k⟩ := h
    have q9 := flds_le hq
    obtain ⟨aD, hD, tD⟩ := C.tables
    obtain ⟨t, rows, kt, TQ⟩ := tabB_ok tD hq
    obtain ⟨⟨o1, o2, o3, o4⟩, o5, _⟩ := unit_at hq e0 he
    refine ⟨_, pss_cons (ps_par3 (i := 2) (j := 3) (l := 4) (by rfl) nd rfl rfl rfl (by decide) (by decide) (by decide) rfl rfl rfl (pa_cons (pe_ix ix_kint (pe_glob (v := .ref aD) rfl hD rfl) (pv 0) (fun _ _ => rfl)) (pa_cons pe_int (pa_cons (pv 1) pa_nil))) (by rfl))
      (pss_cons (ps_while PassesOwn.never (pt_cmpR op_ne (pv 4) pe_int (nomark _))
        (pss_cons (ps_set (i := 4) nd rfl (.inl rfl) (pe_ix ix_tup (pe_ix ix_tup (pv 2) (pv 4) (fun _ _ => rfl)) (pv 1) (fun _ _ => rfl)))
        (pss_one (ps_aug (i := 3) nd rfl (.inl rfl) pe_int ip_add))))
      (pss_one (ps_ret (pv 3)))), ?_⟩
    refine ⟨_, rfl, aD, (q : Int), .ref t, rfl, rfl, kt, _, rfl, _, _, _, rfl, ?_⟩
    have e1 : pw q e 1 = e := by
      have c : allu (fun q e => decide (pw q e 1 = e)) = true := by decide +kernel
      exact of_decide_eq_true (allu_at c hq e0 he)
    refine ⟨fun m σ H2 => ∃ n, m + n = ord q e ∧ 0 < n ∧ σ = [some (.int (q : Int)), some (.int (e : Int)), some (.ref t), some (.int (n : Int)), some (.int (pw q e n : Int))] ∧ H2 = H,
      ⟨ord q e - 1, 1, by omega, by decide, by rw [e1]; rfl, rfl⟩, ?_⟩
    rintro m σ H2 ⟨n, hmn, n0, rfl, rfl⟩
    refine ⟨_, rfl, rfl, _, rfl, ?_⟩
    by_cases c : n = ord q e
    · subst c
      rw [o4]
      refine iteF ⟨_, rfl, k⟩
    · have d : decide (V.int (pw q e n : Int) = V.int 1) = false := decide_eq_false fun z => by
        injection z with z
        exact o5 n n0 (by omega) (by omega)
      rw [d]
      refine iteT ?_
      have hp := pw_lt hq he n
      obtain ⟨r, hrow⟩ : ∃ r, rows[pw q e n]? = some r := ⟨_, List.getElem?_eq_getElem (by rw [TQ.len]; exact hp)⟩
      refine ⟨fun σ' H' => ∃ n', (m - 1) + n' = ord q e ∧ 0 < n' ∧ σ' = [some (.int (q : Int)), some (.int (e : Int)), some (.ref t), some (.int (n' : Int)), some (.int (pw q e n' : Int))] ∧ H' = H2, fun σ' H' z => ⟨m - 1, by omega, z⟩, ?_⟩
      refine ⟨_, rfl, _, rfl, t, rows.map V.ref, (pw q e n : Int), .ref r, rfl, rfl, TQ.tup.sq H2, atI_nat (by rw [List.getElem?_map, hrow]; rfl), _, rfl, r, rowV q (pw q e n), (e : Int), _, rfl, rfl, (TQ.row _ _ hrow).sq H2, rowV_at he, ?_⟩
      refine ⟨_, rfl, (n : Int), 1, rfl, rfl, ?_⟩
      exact ⟨n + 1, by omega, by omega, rfl, rfl⟩
theorem scPow : FnScope ["q", "element", "k"] ["q", "element", "k"] (defScope sPow) := ⟨rfl, rfl, rfl, by decide +kernel, rfl, by decide +kernel, by decide +kernel⟩
theorem ok_pow (F : Fun K "element_power" "element_power" sPow f fd) (cF : Cl P w K mg base 3 "require_field" spReqF) (cE : Cl P w K mg base 4 "require_element" spReqE) (cZ : Cl P w K mg base 4 "require_from_zero" spReqZ) (cP : Cl P w K mg base 1 "element_power_in" spPow) :
    FnOk P w K mg base CX0 5 f fd ["q", "element", "k"] spPow := by
  refine F.ok scPow (fun vs H Q E h => ?_) (fun cdv A outer s H vs Q E hr h => ?_)
  · obtain ⟨q, e, k, _, _, _, _, rfl, _⟩ := h
    rfl
  · obtain ⟨q, e, n, hq, he, n0, n1, rfl, k⟩ := h
    refine ⟨_, pss_cons (ps_expr (pe_cl cF hr (by decide) (by rfl) (pa_cons (pv 0) pa_nil))) (pss_cons (ps_expr (pe_cl cE hr (by decide) (by rfl) (pa_cons (pv 0) (pa_cons (pv 1) pa_nil))))
      (pss_cons (ps_expr (pe_cl cZ hr (by decide) (by rfl) (pa_cons (pv 2) pa_nil))) (pss_one (ps_ret (pe_cl cP hr (by decide) (by rfl) (pa_cons (pv 0) (pa_cons (pv 1) (pa_cons (pv 2) pa_nil)))))))), ?_⟩
    exact ⟨_, rfl, q, hq, rfl, _, rfl, _, rfl, q, e, he, rfl, _, rfl, n, rfl, n0, n1, _, rfl, _, rfl, _, rfl, q, e, n, hq, he, n0, n1, rfl, k⟩
theorem scOrd : FnScope ["q", "element"] ["q", "element"] (defScope sOrd) := ⟨rfl, rfl, rfl, by decide +kernel, rfl, by decide +kernel, by decide +kernel⟩
theorem ok_ord (F : Fun K "element_order" "element_order" sOrd f fd) (cO : Cl P w K mg base 5 "require_other_than_zero" spReqO) (cI : Cl P w K mg base 1 "element_order_in" spOrd) : FnOk P w K mg base CX0 6 f fd ["q", "element"] spOrd := by
  refine F.ok scOrd (fun vs H Q E h => ?_) (fun cdv A outer s H vs Q E hr h => ?_)
  · obtain ⟨q, e, _, _, _, rfl, _⟩ := h
    rfl
  · obtain ⟨q, e, hq, e0, he, rfl, k⟩ := h
    refine ⟨_, pss_cons (ps_expr (pe_cl cO hr (by decide) (by rfl) (pa_cons (pv 0) (pa_cons (pv 1) pa_nil)))) (pss_one (ps_ret (pe_cl cI hr (by decide) (by rfl) (pa_cons (pv 0) (pa_cons (pv 1) pa_nil))))), ?_⟩
    exact ⟨_, rfl, _, rfl, q, e, hq, e0, he, rfl, _, rfl, _, rfl, q, e, hq, e0, he, rfl, k⟩
end
end Ka
namespace Ka
open PySem L2
/-- a grid of numbers: its list at D, its rows at rows, n of them -/
structure GridAt (H : Hp) (D : Addr) (fn : Nat → Nat → Nat) (q n : Nat) (rows : List Addr) : Prop where
  top : H D = some (.lst (rows.map V.ref))
  len : rows.length = n
  row : ∀ i r, rows[i]? = some r → H r = some (.lst (nV ((List.range q).map (fn i))))
theorem GridAt.same {H H' : Hp} {D : Addr} {fn : Nat → Nat → Nat} {q n : Nat} {rows : List Addr} (g : GridAt H D fn q n rows) (s : Same H H') : GridAt H' D fn q n rows :=
  ⟨s _ _ g.top, g.len, fun i r h => s _ _ (g.row i r h)⟩
theorem nV_len {l : List Nat} : (nV l).length = l.length := List.length_map ..
theorem nV_snoc {q j : Nat} {g : Nat → Nat} : nV ((List.range j).map g) ++ [V.int (g j : Int)] = nV ((List.range (j + 1)).map g) := by
  unfold nV
  rw [List.range_succ, List.map_append, List.map_append]
  rfl
theorem yes_ {σ : L2.St} {H : Hp} {Q : Bool → Hp → Prop} (h : Q true H) : tYes σ H Q := h
abbrev rQ : TI := iRng1 (tCons (tVar 0) tNil)
/-- [[fn(p, f, one, other) for other in range(q)] for one in range(q)] -/
theorem grid_ok {q : Nat} {p f : V} {x3 x4 : Option V} {fn : Nat → Nat → Nat} {te : TE} {H : Hp} {Q : VK} (h9 : q ≤ 9)
    (hte : ∀ i j x3 x4 H1 Q1, i < q → j < q → (∀ H2, Same H1 H2 → Q1 (.int (fn i j : Int)) H2) → te [some (.int (q : Int)), some p, some f, x3, x4, some (.int (i : Int)), some (.int (j : Int)), none] H1 Q1)
    (k : ∀ D rows H', Same H H' → H D = none → (∀ r ∈ rows, H r = none) → GridAt H' D fn q q rows → Q (.ref D) H') :
    tLc rQ (gName 5) tYes (tLc rQ (gName 6) tYes te [6]) [5] [some (.int (q : Int)), some p, some f, x3, x4, none, none, none] H Q := by
  have eq0 : ((q : Int)).toNat = q := Int.toNat_natCast q
  refine ⟨_, rfl, (q : Int), rfl, by omega, by omega, fun D hD => ?_⟩
  refine lc_range (n := ((q : Int)).toNat) (fun i H2 => ∃ rows, Same H H2 ∧ (∀ r ∈ rows, H r = none) ∧ GridAt H2 D fn q i rows) ⟨[], sameNew hD, (fun r z => by cases z), upd_same, rfl, fun i r e => by cases e⟩ ?_ ?_
  · rintro i H2 hi ⟨rows, s2, w2, g2⟩
    rw [eq0] at hi
    refine ⟨rfl, yes_ (iteT ?_)⟩
    refine ⟨_, rfl, (q : Int), rfl, by omega, by omega, fun L hL => ?_⟩
    have nL : L ≠ D := fun e => by rw [e, g2.top] at hL; cases hL
    refine lc_range (n := ((q : Int)).toNat) (fun j H3 => But L H2 H3 ∧ H3 L = some (.lst (nV ((List.range j).map (fn i))))) ⟨But.of (sameNew hL), upd_same⟩ ?_ ?_
    · rintro j H3 hj ⟨b3, e3⟩
      rw [eq0] at hj
      refine ⟨rfl, yes_ (iteT ?_)⟩
      have ez : (0 : Int) + (i : Int) = (i : Int) := Int.zero_add _
      have ew : (0 : Int) + (j : Int) = (j : Int) := Int.zero_add _
      rw [ez, ew]
      refine hte i j x3 x4 H3 _ hi hj fun H4 s4 => ?_
      refine ⟨_, s4 _ _ e3, (by rw [nV_len, List.length_map, List.length_range]; exact small1000 (by omega)), (b3.same s4).set, ?_⟩
      rw [upd_same, nV_snoc (q := q)]
    · rintro H3 ⟨b3, e3⟩
      rw [eq0] at e3
      have s3 : Same H H3 := fun b o e => b3 b o (ne_of_none (s2 b o e) hL) (s2 b o e)
      have tD : H3 D = some (.lst (rows.map V.ref)) := b3 _ _ nL.symm g2.top
      have hlen : rows.length = i := g2.len
      refine ⟨_, tD, (by rw [List.length_map, hlen]; exact small1000 (by omega)), rows ++ [L], fun b o e => ?_, fun r hr => ?_, ?_⟩
      · rw [upd_ne (ne_of_none e hD)]
        exact s3 b o e
      · rcases List.mem_append.mp hr with z | z
        · exact w2 r z
        · rw [List.mem_singleton.mp z]
          exact s2.free hL
      · refine ⟨by rw [upd_same, List.map_append]; rfl, by rw [List.length_append, hlen]; rfl, fun m r hm => ?_⟩
        have nrD : r ≠ D := fun z => by
          by_cases hmi : m < rows.length
          · rw [List.getElem?_append_left hmi] at hm
            have := g2.row m r hm
            rw [z, g2.top] at this
            have h7 : (HO.lst (rows.map V.ref)) = .lst (nV ((List.range q).map (fn m))) := Option.some.inj this
            have h8 : rows.map V.ref = nV ((List.range q).map (fn m)) := by injection h7
            cases rows with
            | nil => cases hmi
            | cons r0 rs =>
              cases q with
              | zero => omega
              | succ q' => rw [List.range_succ_eq_map] at h8; cases h8
          · rw [List.getElem?_append_right (by omega)] at hm
            cases hz : m - rows.length with
            | zero =>
              rw [hz] at hm
              have : L = r := Option.some.inj hm
              exact nL (this.trans z)
            | succ z' => rw [hz] at hm; cases hm
        rw [upd_ne nrD]
        by_cases hmi : m < rows.length
        · rw [List.getElem?_append_left hmi] at hm
          have hr := g2.row m r hm
          exact b3 _ _ (ne_of_none hr hL) hr
        · rw [List.getElem?_append_right (by omega)] at hm
          cases hz : m - rows.length with
          | zero =>
            rw [hz] at hm
            obtain rfl : L = r := Option.some.inj hm
            have : m = i := by omega
            rw [this]
            exact e3
          | succ z' => rw [hz] at hm; cases hm
  · rintro H2 ⟨rows, s2, w2, g2⟩
    rw [eq0] at g2
    exact k D rows H2 s2 hD w2 g2
/-- the grid given to a name -/
theorem grid_set {q slot : Nat} {p f : V} {x3 x4 : Option V} {fn : Nat → Nat → Nat} {te : TE} {H : Hp} {U : TS} {D : Ends} (h9 : q ≤ 9)
    (hte : ∀ i j x3 x4 H1 Q1, i < q → j < q → (∀ H2, Same H1 H2 → Q1 (.int (fn i j : Int)) H2) → te [some (.int (q : Int)), some p, some f, x3, x4, some (.int (i : Int)), some (.int (j : Int)), none] H1 Q1)
    (k : ∀ F rows H', Same H H' → H F = none → (∀ r ∈ rows, H r = none) → GridAt H' F fn q q rows → U D ([some (.int (q : Int)), some p, some f, x3, x4, none, none, none].set slot (some (.ref F))) H') :
    tSeq (tAsg (tLc rQ (gName 5) tYes (tLc rQ (gName 6) tYes te [6]) [5]) (gName slot)) U D [some (.int (q : Int)), some p, some f, x3, x4, none, none, none] H :=
  (by
  show tLc rQ (gName 5) tYes (tLc rQ (gName 6) tYes te [6]) [5] [some (V.int (q : Int)), some p, some f, x3, x4, none, none, none] H (fun x H1 => U D ([some (V.int (q : Int)), some p, some f, x3, x4, none, none, none].set slot (some x)) H1)
  refine grid_ok h9 hte ?_
  exact k)
/-- a written pair of ints, under a written int -/
theorem pairT {key a b : Int} {trs : List (TE × TE)} {σ : L2.St} {H : Hp} {R : List (V × V) → Hp → Prop} (h : ∀ t H', Same H H' → H t = none → H' t = some (.tup [.int a, .int b]) → tPairs trs σ H' fun ps H2 => R ((.int key, .ref t) :: ps) H2) :
    tPairs ((tC (.int key), tTup (tCons (tC (.int a)) (tCons (tC (.int b)) tNil))) :: trs) σ H R := ⟨(by show 2 ≤ sizeLine; decide), fun t ht => h t _ (sameNew ht) ht upd_same⟩
/-- a field stands at F -/
structure FieldAt (H : Hp) (F : Addr) (q : Nat) : Prop where
  ex : ∃ (kvs : List (Key × V)) (aM : Addr) (rows : List Addr), H F = some (.dK kvs) ∧ valV kvs (Sum.inr "q") = some (.int (q : Int)) ∧ valV kvs (Sum.inr "mul") = some (.ref aM) ∧ GridAt H aM (mu q) q q rows
theorem FieldAt.same {H H' : Hp} {F : Addr} {q : Nat} (g : FieldAt H F q) (s : Same H H') : FieldAt H' F q := by
  obtain ⟨kvs, aM, rows, h1, h2, h3, h4⟩ := g.ex
  exact ⟨kvs, aM, rows, s _ _ h1, h2, h3, h4.same s⟩
/-- the field's own things are all new: it stands where they stand -/
def FieldNew (H H' : Hp) (F : Addr) (q : Nat) : Prop := ∀ H2 : Hp, (∀ b o, H b = none → H' b = some o → H2 b = some o) → FieldAt H2 F q
theorem FieldNew.here {H H' : Hp} {F : Addr} {q : Nat} (x : FieldNew H H' F q) : FieldAt H' F q := x H' fun _ _ _ e => e
def spField : Sp := fun vs H Q _ => ∃ q : Nat, q ∈ flds ∧ vs = [.int (q : Int)] ∧ ∀ F H', Same H H' → H F = none → FieldNew H H' F q → Q (.ref F) H'
/-! ### the comprehensions of the def -/
def asgE : Stmt → Expr
  | .Assign _ e _ => e
  | _ => .Name "" ⟨0, 0, 0, 0⟩
def retE : Stmt → Expr
  | .Return (some e) _ => e
  | _ => .Name "" ⟨0, 0, 0, 0⟩
def lcSc : Expr → Scope
  | .ListComp _ _ s _ => s
  | _ => { kind := .function, names := [], isGenerator := false, isCoroutine := false }
def stAt (st : Stmt) (i : Nat) : Stmt := (defBody st).getD i (.Pass ⟨0, 0, 0, 0⟩)
section
variable {P : Program} {w : World} {K : PySem.W.Frag} {mg : Str → Option Value} {base : Heap} {f : Addr} {fd : FuncData}
abbrev nField : List Str := ["_law_q", "_law_p", "_law_f", "_law_plus", "_law_mul", "_law_one", "_law_other", "_law_row"]
theorem scField : FnScope nField ["_law_q"] (defScope sField) := ⟨rfl, rfl, rfl, by decide +kernel, rfl, by decide +kernel, by decide +kernel⟩
theorem mem7 {q : Nat} (h : q ∈ flds) : q = 2 ∨ q = 3 ∨ q = 4 ∨ q = 5 ∨ q = 7 ∨ q = 8 ∨ q = 9 := by
  unfold flds at h
  simp only [List.mem_cons, List.not_mem_nil, or_false] at h
  exact h
theorem fld_keys (t2 t3 t4 t5 t7 t8 t9 : Addr) {q : Nat} (hq : q ∈ flds) (R : Addr → Int → Int → Prop) (h2 : R t2 2 1) (h3 : R t3 3 1) (h4 : R t4 2 2) (h5 : R t5 5 1) (h7 : R t7 7 1) (h8 : R t8 2 3) (h9 : R t9 3 2) :
    ∃ t, valV (mergeK [] [((Sum.inl 2 : Key), V.ref t2), (Sum.inl 3, V.ref t3), (Sum.inl 4, V.ref t4), (Sum.inl 5, V.ref t5), (Sum.inl 7, V.ref t7), (Sum.inl 8, V.ref t8), (Sum.inl 9, V.ref t9)]) (Sum.inl (q : Int)) = some (.ref t) ∧ R t (pOf q) (fOf q : Int) := by
  rcases mem7 hq with rfl | rfl | rfl | rfl | rfl | rfl | rfl
  · exact ⟨t2, by kernel_rfl, h2⟩
  · exact ⟨t3, by kernel_rfl, h3⟩
  · exact ⟨t4, by kernel_rfl, h4⟩
  · exact ⟨t5, by kernel_rfl, h5⟩
  · exact ⟨t7, by kernel_rfl, h7⟩
  · exact ⟨t8, by kernel_rfl, h8⟩
  · exact ⟨t9, by kernel_rfl, h9⟩
theorem fld_strs (q p f aP aM aN : V) : valV (mergeK [] [((Sum.inr "q" : Key), q), (Sum.inr "p", p), (Sum.inr "f", f), (Sum.inr "plus", aP), (Sum.inr "mul", aM), (Sum.inr "minus", aN)]) (Sum.inr "q") = some q ∧
    valV (mergeK [] [((Sum.inr "q" : Key), q), (Sum.inr "p", p), (Sum.inr "f", f), (Sum.inr "plus", aP), (Sum.inr "mul", aM), (Sum.inr "minus", aN)]) (Sum.inr "mul") = some aM := by
  have e : mergeK [] [((Sum.inr "q" : Key), q), (Sum.inr "p", p), (Sum.inr "f", f), (Sum.inr "plus", aP), (Sum.inr "mul", aM), (Sum.inr "minus", aN)] = [((Sum.inr "q" : Key), q), (Sum.inr "p", p), (Sum.inr "f", f), (Sum.inr "plus", aP), (Sum.inr "mul", aM), (Sum.inr "minus", aN)] := by
    kernel_rfl
  rw [e]
  constructor <;> kernel_rfl
end
end Ka
namespace Ka
open PySem L2
section
variable {P : Program} {w : World} {K : PySem.W.Frag} {mg : Str → Option Value} {base : Heap} {f : Addr} {fd : FuncData}
def scPl : Scope := lcSc (asgE (stAt sField 1))
def scMl : Scope := lcSc (asgE (stAt sField 2))
theorem flat_nV : ∀ l : List Nat, (nV l).all flatV = true
  | [] => rfl
  | n :: l => by
    show (flatV (V.int (n : Int)) && (nV l).all flatV) = true
    rw [flat_nV l]
    rfl
theorem ok_field (F : Fun K "_law_field" "_law_field" sField f fd) (T : Free mg) (cS : Cl P w K mg base 1 "_law_element_sum" spSum) (cP : Cl P w K mg base 2 "_law_element_product" spProd) : FnOk P w K mg base CX0 3 f fd ["_law_q"] spField := by
  have nd := scField.nd
  refine F.ok scField (fun vs H Q E h => ?_) (fun cdv A outer s H vs Q E hr h => ?_)
  · obtain ⟨q, _, rfl, _⟩ := h
    rfl
  · obtain ⟨q, hq, rfl, k⟩ := h
    have hu := hu_of hr
    have q9 := flds_le hq
    refine ⟨_, pss_cons (ps_asg (pe_dget hu (pe_disp (pps_cons pe_int (pe_tup (pa_cons pe_int (pa_cons pe_int pa_nil))) (pps_cons pe_int (pe_tup (pa_cons pe_int (pa_cons pe_int pa_nil))) (pps_cons pe_int (pe_tup (pa_cons pe_int (pa_cons pe_int pa_nil))) (pps_cons pe_int (pe_tup (pa_cons pe_int (pa_cons pe_int pa_nil)))
        (pps_cons pe_int (pe_tup (pa_cons pe_int (pa_cons pe_int pa_nil))) (pps_cons pe_int (pe_tup (pa_cons pe_int (pa_cons pe_int pa_nil))) (pps_cons pe_int (pe_tup (pa_cons pe_int (pa_cons pe_int pa_nil))) pps_nil))))))) (by rfl) (by rfl) (fun z => by cases z) (by decide)) (pv 0) (fun _ _ => rfl))
        (pg_tup (by rfl) (pgs_cons (pg_name (i := 1) nd rfl (.inr rfl)) (pgs_cons (pg_name (i := 2) nd rfl (.inr rfl)) pgs_nil))))
      (pss_cons (ps_setLc (i := 3) (own := [("_law_one", 5)]) (g := gName 5) (tt := tYes) (by rfl) nd rfl rfl (sw_true rfl rfl rfl (by decide +kernel)) (pi_range1 rfl T.range (pa_cons (pv 0) pa_nil)) (blkOk_by (N := nField) (sc := defScope sField) (own := [("_law_one", 5)]) (by decide +kernel))
        (fun _ _ _ _ _ => pg_name (i := 5) nd rfl (.inr rfl)) (fun _ _ _ _ _ => pts_nil)
        (fun s1 H1 C1 cl1 fp1 => pe_lc (own := [("_law_other", 6)]) (g := gName 6) (tt := tYes) (by rfl) nd (pi_range1 rfl T.range (pa_cons (pv 0) pa_nil)) (blkOk_by (N := nField) (sc := relS scPl (defScope sField)) (own := [("_law_other", 6)]) (by decide +kernel))
          (fun _ _ _ _ _ => pg_name (i := 6) nd rfl (.inl rfl)) (fun _ _ _ _ _ => pts_nil)
          (fun _ _ _ _ _ => pe_cl cS hr (by decide) (by rfl) (pa_cons (pv 1) (pa_cons (pv 2) (pa_cons (pv 5) (pa_cons (pv 6) pa_nil)))))))
      (pss_cons (ps_setLc (i := 4) (own := [("_law_one", 5)]) (g := gName 5) (tt := tYes) (by rfl) nd rfl rfl (sw_true rfl rfl rfl (by decide +kernel)) (pi_range1 rfl T.range (pa_cons (pv 0) pa_nil)) (blkOk_by (N := nField) (sc := defScope sField) (own := [("_law_one", 5)]) (by decide +kernel))
        (fun _ _ _ _ _ => pg_name (i := 5) nd rfl (.inr rfl)) (fun _ _ _ _ _ => pts_nil)
        (fun s1 H1 C1 cl1 fp1 => pe_lc (own := [("_law_other", 6)]) (g := gName 6) (tt := tYes) (by rfl) nd (pi_range1 rfl T.range (pa_cons (pv 0) pa_nil)) (blkOk_by (N := nField) (sc := relS scMl (defScope sField)) (own := [("_law_other", 6)]) (by decide +kernel))
          (fun _ _ _ _ _ => pg_name (i := 6) nd rfl (.inl rfl)) (fun _ _ _ _ _ => pts_nil)
          (fun _ _ _ _ _ => pe_cl cP hr (by decide) (by rfl) (pa_cons (pv 1) (pa_cons (pv 2) (pa_cons (pv 5) (pa_cons (pv 6) pa_nil)))))))
      (pss_one (ps_ret (pe_disp (pps_cons pe_str (pv 0) (pps_cons pe_str (pv 1) (pps_cons pe_str (pv 2) (pps_cons pe_str (pv 3) (pps_cons pe_str (pv 4) (pps_cons pe_str
        (pe_lc (own := [("_law_row", 7)]) (g := gName 7) (tt := tYes) (te := tBM K "list" (rIndex K) (tVar 7) (tCons (tC (.int 0)) tNil)) (by rfl) nd (pi_list (pv 3)) (blkOk_by (N := nField) (sc := defScope sField) (own := [("_law_row", 7)]) (by decide +kernel)) (fun _ _ _ _ _ => pg_name (i := 7) nd rfl (.inl rfl)) (fun _ _ _ _ _ => pts_nil)
          (fun _ _ _ _ _ => pe_bm PySem.F.plainAttrs_list PySem.F.slot_list_index PySem.F.type_list_index mt_index (pv 7) (pa_cons pe_int pa_nil))) pps_nil)))))) (by rfl) (by rfl) (fun z => by cases z) (by decide)))))), ?_⟩
    -- p and f
    intro dp hdp
    refine pairT fun t2 H2 s2 n2 e2 => pairT fun t3 H3 s3 n3 e3 => pairT fun t4 H4 s4 n4 e4 => pairT fun t5 H5 s5 n5 e5 => pairT fun t7 H7 s7 n7 e7 => pairT fun t8 H8 s8 n8 e8 => pairT fun t9 H9 s9 n9 e9 => ?_
    have d1 : upd H dp (.dK []) dp = some (.dK []) := upd_same
    have d2 := s2 _ _ d1
    have d3 := s3 _ _ d2
    have d4 := s4 _ _ d3
    have d5 := s5 _ _ d4
    have d7 := s7 _ _ d5
    have d8 := s8 _ _ d7
    have d9 := s9 _ _ d8
    have sA : Same H H9 := ((((((((sameNew hdp).trans s2).trans s3).trans s4).trans s5).trans s7).trans s8).trans s9)
    refine ⟨d9, [((Sum.inl 2 : Key), V.ref t2), (Sum.inl 3, V.ref t3), (Sum.inl 4, V.ref t4), (Sum.inl 5, V.ref t5), (Sum.inl 7, V.ref t7), (Sum.inl 8, V.ref t8), (Sum.inl 9, V.ref t9)], rfl, (by show 7 ≤ 15; decide), _, rfl, ?_⟩
    obtain ⟨tq, hv, ht⟩ := fld_keys t2 t3 t4 t5 t7 t8 t9 hq (fun t a b => H9 t = some (.tup [.int a, .int b]) ∧ t ≠ dp)
      ⟨s9 _ _ (s8 _ _ (s7 _ _ (s5 _ _ (s4 _ _ (s3 _ _ e2))))), fun z => by rw [z, d1] at n2; cases n2⟩
      ⟨s9 _ _ (s8 _ _ (s7 _ _ (s5 _ _ (s4 _ _ e3)))), fun z => by rw [z, d2] at n3; cases n3⟩
      ⟨s9 _ _ (s8 _ _ (s7 _ _ (s5 _ _ e4))), fun z => by rw [z, d3] at n4; cases n4⟩
      ⟨s9 _ _ (s8 _ _ (s7 _ _ e5)), fun z => by rw [z, d4] at n5; cases n5⟩
      ⟨s9 _ _ (s8 _ _ e7), fun z => by rw [z, d5] at n7; cases n7⟩
      ⟨s9 _ _ e8, fun z => by rw [z, d7] at n8; cases n8⟩
      ⟨e9, fun z => by rw [z, d8] at n9; cases n9⟩
    have gq := DGet.k (H := upd H9 dp (.dK (mergeK [] [((Sum.inl 2 : Key), V.ref t2), (Sum.inl 3, V.ref t3), (Sum.inl 4, V.ref t4), (Sum.inl 5, V.ref t5), (Sum.inl 7, V.ref t7), (Sum.inl 8, V.ref t8), (Sum.inl 9, V.ref t9)]))) (k := (Sum.inl (q : Int) : Key)) upd_same
    rw [hv] at gq
    refine ⟨dp, _, rfl, gq, tq, _, rfl, SqT.of (by rw [upd_ne ht.2]; exact ht.1), rfl, _, _, rfl, _, _, rfl, rfl, ?_⟩
    have sB : Same H (upd H9 dp (.dK (mergeK [] [((Sum.inl 2 : Key), V.ref t2), (Sum.inl 3, V.ref t3), (Sum.inl 4, V.ref t4), (Sum.inl 5, V.ref t5), (Sum.inl 7, V.ref t7), (Sum.inl 8, V.ref t8), (Sum.inl 9, V.ref t9)]))) := sameSet sA hdp
    generalize upd H9 dp (.dK (mergeK [] [((Sum.inl 2 : Key), V.ref t2), (Sum.inl 3, V.ref t3), (Sum.inl 4, V.ref t4), (Sum.inl 5, V.ref t5), (Sum.inl 7, V.ref t7), (Sum.inl 8, V.ref t8), (Sum.inl 9, V.ref t9)])) = HB at *
    -- the sums
    refine grid_set (fn := su q) q9.2 (fun i j x3 x4 H1 Q1 hi hj k1 => ⟨_, rfl, _, rfl, _, rfl, _, rfl, q, i, j, ⟨hq, hi, hj, rfl⟩, fun H2 s => k1 H2 s⟩) fun aP rP HC sC nP _ gP => ?_
    -- the products
    refine grid_set (fn := mu q) q9.2 (fun i j x3 x4 H1 Q1 hi hj k1 => ⟨_, rfl, _, rfl, _, rfl, _, rfl, q, i, j, ⟨hq, hi, hj, rfl⟩, fun H2 s => k1 H2 s⟩) fun aM rM HD sD nM wM gM => ?_
    intro FA hFA
    have sE : Same HD (upd HD FA (.dK [])) := sameNew hFA
    have gP2 := (gP.same sD).same sE
    have gM2 := gM.same sE
    have eF : upd HD FA (.dK []) FA = some (.dK []) := upd_same
    have sF : Same H (upd HD FA (.dK [])) := ((sB.trans sC).trans sD).trans sE
    have nF : H FA = none := ((sB.trans sC).trans sD).free hFA
    generalize upd HD FA (.dK []) = HE at *
    refine ⟨_, rfl, _, rfl, _, rfl, _, rfl, _, rfl, _, rfl, aP, rfl, ⟨_, SqL.of gP2.top⟩, fun L hL => ?_⟩
    refine lc_list (K := K) (a := aP) (xs := rP.map V.ref) (fun i H6 => ∃ l, Same HE H6 ∧ H6 L = some (.lst l) ∧ l.length = i) ⟨[], sameNew hL, upd_same, rfl⟩ (fun i H6 _ ⟨_, s6, _⟩ => SqL.of (s6 _ _ gP2.top)) ?_ ?_
    · rintro i x H6 hx ⟨l, s6, e6, hl⟩
      obtain ⟨r, rfl, hr'⟩ : ∃ r, x = V.ref r ∧ rP[i]? = some r := by
        rw [List.getElem?_map] at hx
        cases e : rP[i]? with
        | none => rw [e] at hx; cases hx
        | some r => rw [e] at hx; exact ⟨r, (Option.some.inj hx).symm, rfl⟩
      have hi : i < q := by rw [← gP2.len]; exact (List.getElem?_eq_some_iff.mp hr').1
      have hrow := s6 _ _ (gP2.row i r hr')
      obtain ⟨j, hj, z0, zn⟩ := zero_at hq hi
      refine ⟨rfl, yes_ (iteT ?_)⟩
      refine ⟨_, rfl, .inl ⟨rfl, _, SqL.of hrow⟩, r, nV ((List.range q).map (su q i)), .int 0, j, .int (su q i j : Int), rfl, rfl, SqL.of hrow, rfl, flat_nV _, nV_at (by rw [List.getElem?_map, List.getElem?_range hj]; rfl), by rw [z0]; rfl, fun m z' hm hz => ?_, ?_⟩
      · have hmq : m < q := by omega
        have ez : (nV ((List.range q).map (su q i)))[m]? = some (.int (su q i m : Int)) := nV_at (by rw [List.getElem?_map, List.getElem?_range hmq]; rfl)
        rw [ez] at hz
        cases hz
        have := zn m hm
        show decide ((su q i m : Int) = 0) = false
        exact decide_eq_false (by omega)
      · refine ⟨_, e6, (by rw [hl]; exact small1000 (by omega)), _, fun b o e => ?_, upd_same, by rw [List.length_append, hl]; rfl⟩
        rw [upd_ne (ne_of_none e hL)]
        exact s6 b o e
    · rintro H6 ⟨l, s6, e6, hl⟩
      refine ⟨s6 _ _ eF, [((Sum.inr "q" : Key), V.int (q : Int)), (Sum.inr "p", V.int (pOf q)), (Sum.inr "f", V.int (fOf q : Int)), (Sum.inr "plus", V.ref aP), (Sum.inr "mul", V.ref aM), (Sum.inr "minus", V.ref L)], rfl, (by show 6 ≤ 15; decide), ?_⟩
      obtain ⟨k1, k2⟩ := fld_strs (V.int (q : Int)) (V.int (pOf q)) (V.int (fOf q : Int)) (V.ref aP) (V.ref aM) (V.ref L)
      have s8 : Same H (upd H6 FA (.dK (mergeK [] [((Sum.inr "q" : Key), V.int (q : Int)), (Sum.inr "p", V.int (pOf q)), (Sum.inr "f", V.int (fOf q : Int)), (Sum.inr "plus", V.ref aP), (Sum.inr "mul", V.ref aM), (Sum.inr "minus", V.ref L)]))) := sameSet (sF.trans s6) nF
      have gM3 := gM2.same s6
      have neF : ∀ a l, H6 a = some (.lst l) → a ≠ FA := fun a l e z => by
        rw [z, s6 _ _ eF] at e
        cases e
      have top9 := gM3.top
      have row9 := gM3.row
      have nM0 : H aM = none := (sB.trans sC).free nM
      have wM0 : ∀ r ∈ rM, H r = none := fun r hr' => (sB.trans sC).free (wM r hr')
      refine k FA _ s8 nF fun H9 h9 => ⟨_, aM, rM, h9 FA _ nF upd_same, k1, k2, h9 aM _ nM0 (by rw [upd_ne (neF _ _ top9)]; exact top9), gM3.len, fun i r hr' => ?_⟩
      exact h9 r _ (wM0 r (List.mem_of_getElem? hr')) (by rw [upd_ne (neF _ _ (row9 i r hr'))]; exact row9 i r hr')
end
end Ka
namespace Ka
open PySem L2
def spWalk : Sp := fun vs H Q _ => ∃ (F : Addr) (q e : Nat), q ∈ flds ∧ 0 < e ∧ e < q ∧ vs = [.ref F, .int (e : Int)] ∧ FieldAt H F q ∧
  ∀ (L : Addr) (H' : Hp), Same H H' → H L = none → H' L = some (.lst (nV (walkL q e))) → Q (.ref L) H'
def spShared : Sp := fun vs H Q _ => ∃ a b : Nat, vs = [.int (a : Int), .int (b : Int)] ∧ Q (.int (Nat.gcd a b : Int)) H
section
variable {P : Program} {w : World} {K : PySem.W.Frag} {mg : Str → Option Value} {base : Heap} {f : Addr} {fd : FuncData}
abbrev nWalk : List Str := ["_law_field_here", "_law_one", "_law_found", "_law_here"]
theorem scWalk : FnScope nWalk ["_law_field_here", "_law_one"] (defScope sWalk) := ⟨rfl, rfl, rfl, by decide +kernel, rfl, by decide +kernel, by decide +kernel⟩
theorem ok_walk (F : Fun K "_law_walk" "_law_walk" sWalk f fd) : FnOk P w K mg base CX0 1 f fd ["_law_field_here", "_law_one"] spWalk := by
  have nd := scWalk.nd
  refine F.ok scWalk (fun vs H Q E h => ?_) (fun cdv A outer s H vs Q E hr h => ?_)
  · obtain ⟨Fa, q, e, _, _, _, rfl, _⟩ := h
    rfl
  · obtain ⟨Fa, q, e, hq, e0, he, rfl, hF, k⟩ := h
    have hu := hu_of hr
    have q9 := flds_le hq
    obtain ⟨⟨o1, o2, o3, o4⟩, o5, _⟩ := unit_at hq e0 he
    refine ⟨_, pss_cons (ps_par (i := 2) (j := 3) (by rfl) nd rfl rfl (by decide) rfl rfl (pa_cons (pe_lst (pa_cons pe_int pa_nil)) (pa_cons (pv 1) pa_nil)) (by rfl))
      (pss_cons (ps_while PassesOwn.never (pt_cmpR op_ne (pv 3) pe_int (nomark _))
        (pss_cons (ps_expr (pe_bm PySem.F.plainAttrs_list PySem.F.slot_list_append PySem.F.type_list_append mt_append (pv 2) (pa_cons (pv 3) pa_nil)))
        (pss_one (ps_set (i := 3) nd rfl (.inl rfl) (pe_ix ix_list (pe_ix ix_list (pe_dget hu (pv 0) pe_str (fun _ _ => rfl)) (pv 3) (fun _ _ => rfl)) (pv 1) (fun _ _ => rfl))))))
      (pss_one (ps_ret (pv 2)))), ?_⟩
    refine ⟨(by show 1 ≤ sizeLine; decide), fun l hl => ⟨_, rfl, _, _, rfl, ?_⟩⟩
    have e1 : pw q e 1 = e := by
      have c : allu (fun q e => decide (pw q e 1 = e)) = true := by decide +kernel
      exact of_decide_eq_true (allu_at c hq e0 he)
    refine ⟨fun m σ H2 => ∃ n, m + n = ord q e ∧ 0 < n ∧ σ = [some (.ref Fa), some (.int (e : Int)), some (.ref l), some (.int (pw q e n : Int))] ∧ Same H H2 ∧ H2 l = some (.lst (nV ((List.range n).map (pw q e)))),
      ⟨ord q e - 1, 1, by omega, by decide, by rw [e1]; rfl, sameNew hl, upd_same⟩, ?_⟩
    rintro m σ H2 ⟨n, hmn, n0, rfl, s2, h2⟩
    refine ⟨_, rfl, rfl, _, rfl, ?_⟩
    by_cases c : n = ord q e
    · subst c
      rw [o4]
      refine iteF ⟨_, rfl, ?_⟩
      exact k l H2 s2 hl h2
    · have d : decide (V.int (pw q e n : Int) = V.int 1) = false := decide_eq_false fun z => by
        injection z with z
        exact o5 n n0 (by omega) (by omega)
      rw [d]
      refine iteT ?_
      have hp := pw_lt hq he n
      refine ⟨fun σ' H' => ∃ n', (m - 1) + n' = ord q e ∧ 0 < n' ∧ σ' = [some (.ref Fa), some (.int (e : Int)), some (.ref l), some (.int (pw q e n' : Int))] ∧ Same H H' ∧ H' l = some (.lst (nV ((List.range n').map (pw q e)))), fun σ' H' z => ⟨m - 1, by omega, z⟩, ?_⟩
      refine ⟨_, rfl, .inl ⟨rfl, _, SqL.of h2⟩, _, rfl, l, _, _, rfl, rfl, h2, (by rw [nV_len, List.length_map, List.length_range]; exact small1000 (by omega)), ?_⟩
      have s3 : Same H (upd H2 l (.lst (nV ((List.range n).map (pw q e)) ++ [V.int (pw q e n : Int)]))) := sameSet s2 hl
      have h3 : upd H2 l (.lst (nV ((List.range n).map (pw q e)) ++ [V.int (pw q e n : Int)])) l = some (.lst (nV ((List.range (n + 1)).map (pw q e)))) := by
        rw [upd_same, nV_snoc (q := q)]
      generalize upd H2 l (.lst (nV ((List.range n).map (pw q e)) ++ [V.int (pw q e n : Int)])) = H3 at *
      obtain ⟨kvs, aM, rows, f1, f2, f3, f4⟩ := (hF.same s3).ex
      obtain ⟨r, hrow⟩ : ∃ r, rows[pw q e n]? = some r := ⟨_, List.getElem?_eq_getElem (by rw [f4.len]; exact hp)⟩
      have g := DGet.k (H := H3) (k := (Sum.inr "mul" : Key)) f1
      rw [f3] at g
      refine ⟨_, rfl, Fa, _, rfl, g, _, rfl, aM, rows.map V.ref, (pw q e n : Int), .ref r, rfl, rfl, SqL.of f4.top, atI_nat (by rw [List.getElem?_map, hrow]; rfl), _, rfl, r, _, (e : Int), _, rfl, rfl, SqL.of (f4.row _ _ hrow), atI_nat (nV_at (by rw [List.getElem?_map, List.getElem?_range he]; rfl)), ?_⟩
      exact ⟨n + 1, by omega, by omega, rfl, s3, h3⟩
theorem scShared : FnScope ["_law_one", "_law_other"] ["_law_one", "_law_other"] (defScope sShared) := ⟨rfl, rfl, rfl, by decide +kernel, rfl, by decide +kernel, by decide +kernel⟩
theorem ok_shared (F : Fun K "_law_shared" "_law_shared" sShared f fd) : FnOk P w K mg base CX0 1 f fd ["_law_one", "_law_other"] spShared := by
  have nd := scShared.nd
  refine F.ok scShared (fun vs H Q E h => ?_) (fun cdv A outer s H vs Q E hr h => ?_)
  · obtain ⟨a, b, rfl, _⟩ := h
    rfl
  · obtain ⟨a, b, rfl, k⟩ := h
    refine ⟨_, pss_cons (ps_while PassesOwn.never (pt_cmpR op_ne (pv 1) pe_int (nomark _))
        (pss_one (ps_par (i := 0) (j := 1) (by rfl) nd rfl rfl (by decide) rfl rfl (pa_cons (pv 1) (pa_cons (pe_op op_mod (pv 0) (pv 1)) pa_nil)) (by rfl))))
      (pss_one (ps_ret (pv 0))), ?_⟩
    refine ⟨fun m σ H2 => ∃ x y : Nat, y ≤ m ∧ Nat.gcd x y = Nat.gcd a b ∧ σ = [some (.int (x : Int)), some (.int (y : Int))] ∧ H2 = H, ⟨b, a, b, Nat.le_refl _, rfl, rfl, rfl⟩, ?_⟩
    rintro m σ H2 ⟨x, y, hy, hg, rfl, rfl⟩
    refine ⟨_, rfl, rfl, _, rfl, ?_⟩
    by_cases c : y = 0
    · subst c
      refine iteF ⟨_, rfl, ?_⟩
      rw [Nat.gcd_zero_right] at hg
      rw [hg]
      exact k
    · have d : decide (V.int (y : Int) = V.int 0) = false := decide_eq_false fun z => by
        injection z with z
        omega
      rw [d]
      have hlt : x % y < y := Nat.mod_lt _ (by omega)
      refine iteT ⟨fun σ' H' => ∃ x' y' : Nat, y' ≤ m - 1 ∧ Nat.gcd x' y' = Nat.gcd a b ∧ σ' = [some (.int (x' : Int)), some (.int (y' : Int))] ∧ H' = H2, fun σ' H' z => ⟨m - 1, by omega, z⟩, ?_⟩
      refine ⟨_, rfl, _, rfl, _, rfl, (x : Int), (y : Int), rfl, rfl, (by show (0 : Int) < (y : Int); omega), _, _, rfl, ?_⟩
      refine ⟨y, x % y, by omega, ?_, ?_, rfl⟩
      · rw [← hg, Nat.gcd_comm x y, Nat.gcd_rec y x, Nat.gcd_comm]
      · rw [Int.natCast_emod]
        rfl
end
end Ka
namespace Ka
open PySem L2 PySem.Spec PyProof.Rows
/-! next(elt for target in iter if test, default), where an item passes the test -/
/-- the context of the generator's own frame -/
abbrev gxOf (X : Cx) (A : Around) (s : Shared) (H : Hp) (cenv : Env) (fp : List Addr) : Cx :=
  { X with A := A, s_0 := s, H_0 := H, env := cenv, outer := X.stack, stack := cenv :: X.stack, ex := fp, fn := fun _ => false, pn := [], xe := fun _ _ => False }
section
variable {X : Cx} {pins : List (Addr × Obj)} {σ : L2.St} {H : Hp} {s s' : Shared}
theorem gen_frame {scope : Scope} {own : List (Str × Nat)} {fp : List Addr} {B : Around} {cv : Value} {bi : Addr} {mm : Str → Option Value} (I : Inv X pins σ H s) (ok : BlkOk X.N X.env.scope scope own) (nd : X.N.Nodup)
    (nc : ∀ y ∈ scope.names, y.2 ≠ .cell) (hB : B.handled = none) (hf : B.frames = some (genEnv scope (cloFrom X.env.cells scope.names []) s.heap.objs.size cv bi X.env :: X.stack)) (hbi : bi = builtinsNs)
    (ff : ∀ b ∈ fp, FpOk X pins H b ∧ b < s.heap.objs.size) (ho : s'.os = s.os) (hb : AllBare s'.gens) (kp : ∀ b o, s.heap.get? b = some o → s'.heap.get? b = some o) (hn : s'.heap.Ns s.heap.objs.size mm) :
    Inv (gxOf X B s H (genEnv scope (cloFrom X.env.cells scope.names []) s.heap.objs.size cv bi X.env) fp) [] (wipe σ (own.map (·.2))) H s' := by
  have fr : ∀ y ∈ scope.names, y.2 = .free → ∃ c, X.env.cells.lookup y.1 = some c := fun y hy e => by
    rcases ok.free y hy e with kc | kf
    · exact I.ok.has _ (.inl kc)
    · exact I.ok.has _ (.inr kf)
  have cin : ∀ {y : Str} {c : Addr}, (cloFrom X.env.cells scope.names []).lookup y = some c → X.env.cells.lookup y = some c ∧ c < s.heap.objs.size := fun {y c} e => by
    rcases cloFrom_mem (PySem.mem_of_lookup e) with hm | ⟨z1, rfl⟩
    · cases hm
    · obtain ⟨c, hc⟩ := fr _ z1 rfl
      rw [hc]
      obtain ⟨u, z⟩ := I.cell _ _ hc
      exact ⟨rfl, z.lt⟩
  have cget : ∀ {y : Str}, scope.names.lookup y = some .free → ∃ c, (cloFrom X.env.cells scope.names []).lookup y = some c := fun {y} hl => by
    exact mem_lookup (cloFrom_has (cells := X.env.cells) (acc := []) (PySem.mem_of_lookup hl))
  generalize hce : genEnv scope (cloFrom X.env.cells scope.names []) s.heap.objs.size cv bi X.env = ce at *
  have eL : ce.locals = s.heap.objs.size := by rw [← hce]; rfl
  have eC : ce.cells = cloFrom X.env.cells scope.names [] := by rw [← hce]; rfl
  have eS : ce.scope = scope := by rw [← hce]; rfl
  have eK : ∀ y, ce.kindOf y = scope.names.lookup y := fun y => by rw [← hce]; rfl
  rw [← eC] at cin cget
  have okG : (gxOf X B s H ce fp).Ok := by
    refine ⟨I.ok.mod, (by show ce.scope.kind = _; rw [eS]; exact ok.kind), (by show ce.globals = _; rw [← hce]; exact I.ok.glob), (by show ce.builtins = _; rw [← hce]; exact hbi), (by show _ ≤ ce.locals; rw [eL]; exact Nat.le_refl _),
      fun y z c e1 e2 => I.ok.inj y z c (cin e1).1 (cin e2).1, fun y hy => ?_, fun y c z _ => (by cases z), fun _ => hB, hf, .inr ⟨rfl, (by rw [← hce]; rfl)⟩, fun b hb => ⟨?_, fun y c e z => ?_⟩, I.bs, Nat.le_trans I.ok.bsz I.sz, fun b o e hb => ?_, fun b hb z => ?_, I.stack, I.stkFree⟩
    · have hy : ce.kindOf y = some .cell ∨ ce.kindOf y = some .free := hy
      rw [eK] at hy
      rcases hy with hy | hy
      · exact absurd rfl (nc _ (PySem.mem_of_lookup hy))
      · exact cget hy
    · show b ≠ ce.locals
      rw [eL]
      exact Nat.ne_of_lt (ff b hb).2
    · exact (ff b hb).1.2.2.2.2.1 y c (cin e).1 z
    · rcases (ff b hb).1.2.2.2.1 with z | z
      · exact I.ok.noex b o e z
      · exact (Nat.lt_irrefl _ (Nat.lt_of_lt_of_le (Heap.lt_size e) (Nat.le_trans I.ok.bsz z))).elim
    · rcases List.mem_cons.mp (I.stkSub b z) with own1 | old1
      · exact (ff b hb).1.2.1 own1
      · exact (ff b hb).1.2.2.1 old1
  refine ⟨okG, ho, hb, Un.kept kp, ⟨mm, (by show s'.heap.Ns ce.locals mm; rw [eL]; exact hn), fun i y av e1 e2 e3 => ?_⟩, fun y c e => ?_, ?_, fun y c e => I.freeC y c (cin e).1, fun p hp => ?_, I.hok.kept kp, (by rw [wipe_length]; exact I.len)⟩
  · obtain ⟨e4, hne⟩ := wipe_some e2
    have e3 : Vis ce.scope y := e3
    rw [eS] at e3
    have no : ∀ k, scope.names.lookup y = some k → ¬ (k = .local ∨ k = .cell) := fun k e hh => by
      rcases ok.own _ (PySem.mem_of_lookup e) hh with mine | none1
      · obtain ⟨p, pm, py⟩ := List.mem_map.mp mine
        have q := ok.ix p pm
        have py : p.1 = y := py
        rw [py] at q
        exact hne (List.mem_map.mpr ⟨p, pm, nodup_ix nd q e1⟩)
      · exact none1 (List.mem_of_getElem? e1)
    have ef : scope.names.lookup y = some .free := by
      rcases e3 with e3 | e3 | e3
      · exact absurd (.inl rfl) (no _ e3)
      · exact absurd (.inr rfl) (no _ e3)
      · exact e3
    obtain ⟨m0, _, hl⟩ := I.loc
    have hv : Vis X.env.scope y := (ok.free _ (PySem.mem_of_lookup ef) rfl).elim (fun k => .inr (.inl k)) (fun k => .inr (.inr k))
    obtain ⟨u, r, q⟩ := hl i y av e1 e4 hv
    refine ⟨u, r, .inr ⟨.inr (by rw [eK]; exact ef), ?_⟩⟩
    obtain ⟨c, hc⟩ := cget ef
    rcases q with ⟨lo, _⟩ | ⟨_, c9, e9, z⟩
    · have lo : X.env.scope.names.lookup y = some .local := lo
      rcases ok.free _ (PySem.mem_of_lookup ef) rfl with k' | k'
      · rw [show X.env.scope.names.lookup y = _ from k'] at lo
        cases lo
      · rw [show X.env.scope.names.lookup y = _ from k'] at lo
        cases lo
    · rw [(cin hc).1] at e9
      cases e9
      exact ⟨c, hc, z.keeps kp⟩
  · obtain ⟨u, z⟩ := I.cell y c (cin e).1
    exact ⟨u, z.keeps kp⟩
  · show H ce.locals = none
    rw [eL]
    exact I.hok.fresh (Nat.le_refl _)
  · cases (show p ∈ ([] : List (Addr × Obj)) from hp)
end
end Ka
namespace Ka
open PySem L2 PySem.Spec PyProof.Rows
/-- the first item that passes; W by the turn and a measure -/
def tFirst (P : Addr) (wi : TI) (g : TG) (tt : TT) (te : TE) (vs : List Nat) : TE := fun σ H Q => wi σ H fun J H1 => GxR.TabG H1 P ∧ ∀ H2, GxR.Tabbed P H1 H2 → ∃ W : Nat → Nat → Hp → Prop, (∃ m, W 0 m H2) ∧ ∀ i m H, W i m H →
  J.go i H ∧ ∃ Nx : Hp → Prop, (∀ H', Nx H' → ∃ m', m' < m ∧ W (i + 1) m' H') ∧ ∀ x H', J.yld i H x H' → g x (wipe σ vs) H' fun σ2 H3 => wipe σ2 vs = wipe σ vs ∧ tt σ2 H3 fun b H4 => if b = true then te σ2 H4 Q else Nx H4
section
variable {X : Cx} {pins : List (Addr × Obj)} {σ : L2.St} {H : Hp} {s : Shared}
/-- what the generator hands out, seen from the def -/
def OutY (X : Cx) (pins : List (Addr × Obj)) (σ : L2.St) (Q : VK) : Protocol := fun _ _ v s1 _ => ∃ x H', RelV x v ∧ Inv X pins σ H' s1 ∧ Q x H'
theorem first_loop {elt tg iter : Expr} {ifs : List Expr} {scope : Scope} {own : List (Str × Nat)} {gpos : Pos} {g : TG} {tt : TT} {te : TE} {J : It} {fp : List Addr} {it : Addr} {tn : Nat → Heap → Prop} {A0 : Around} {ce : Env} {Q : VK} {R : GenEnd}
    {W : Nat → Nat → Hp → Prop} (hA : A0.handled = none) (hcalm : X.calm = true) (nd : X.N.Nodup) (I : Inv X pins σ H s) (T : Turn X.prog X.w X.K tg J fp it tn) (ff : ∀ b ∈ fp, FpOk X pins H b) (hco : ce.scope.isCoroutine = false)
    (pg : PG (gxOf X (A0.over (.compLoop (.GeneratorExp elt [⟨tg, iter, ifs, 0⟩] scope gpos) 0 (.ref it) .none ce) []) s H ce fp) tg g)
    (pt : PTs (gxOf X (A0.over (.compLoop (.GeneratorExp elt [⟨tg, iter, ifs, 0⟩] scope gpos) 0 (.ref it) .none ce) []) s H ce fp) ifs tt)
    (pe : PE (gxOf X (A0.over (.compLoop (.GeneratorExp elt [⟨tg, iter, ifs, 0⟩] scope gpos) 0 (.ref it) .none ce) []) s H ce fp) elt te)
    (turn : ∀ i m H, W i m H → J.go i H ∧ ∃ Nx : Hp → Prop, (∀ H', Nx H' → ∃ m', m' < m ∧ W (i + 1) m' H') ∧ ∀ x H', J.yld i H x H' → g x (wipe σ (own.map (·.2))) H' fun σ2 H3 => wipe σ2 (own.map (·.2)) = wipe σ (own.map (·.2)) ∧ tt σ2 H3 fun b H4 => if b = true then te σ2 H4 Q else Nx H4) :
    ∀ (m i : Nat) (H5 : Hp) (s0 s5 : Shared), Inv (gxOf X (A0.over (.compLoop (.GeneratorExp elt [⟨tg, iter, ifs, 0⟩] scope gpos) 0 (.ref it) .none ce) []) s H ce fp) [] (wipe σ (own.map (·.2))) H5 s5 → tn i s5.heap → (∀ b ∈ fp, H5 b = none) → W i m H5 →
      Seg (model X.prog X.w) A0 R (OutY X pins σ Q) 1 s0 (.compLoop (.GeneratorExp elt [⟨tg, iter, ifs, 0⟩] scope gpos) 0 (.ref it) .none ce) ((model X.prog X.w).den (.compLoop (.GeneratorExp elt [⟨tg, iter, ifs, 0⟩] scope gpos) 0 (.ref it) .none ce)) [] s5 := by
  generalize hGA : A0.over (.compLoop (.GeneratorExp elt [⟨tg, iter, ifs, 0⟩] scope gpos) 0 (.ref it) .none ce) [] = GA at *
  have stat : ∀ {σ' : L2.St} {H' : Hp} {s' : Shared}, Inv (gxOf X GA s H ce fp) [] σ' H' s' → (∀ b ∈ fp, H' b = none) → ∀ b ∈ fp, FpOk (gxOf X GA s H ce fp) [] H' b := fun {σ' H' s'} J' hn b hb =>
    ⟨hn b hb, (J'.ok.exf b hb).1, J'.ok.exfs b hb, .inl hb, fun x c e => (J'.ok.exf b hb).2 x c e, fun p hp => (by cases (show p ∈ ([] : List (Addr × Obj)) from hp))⟩
  intro m
  induction m using Nat.strongRecOn with
  | ind m ih =>
    intro i H5 s0 s5 I5 st5 n5 w5
    obtain ⟨go, Nx, hNx, step⟩ := turn i m H5 w5
    show Seg _ A0 _ _ _ s0 _ ((compTurn (.GeneratorExp elt [⟨tg, iter, ifs, 0⟩] scope gpos) 0 (.ref it) .none ce).onRaise (leaving ce)) [] s5
    rw [compTurn_gen, Sem.onRaise_eq_wrap]; refine seg_bind_wrap (wpAny_standAt (seg_bind_wrap ?_))
    rw [hGA]
    refine wpAny_mono (T.item (gxOf X GA s H ce fp) rfl rfl rfl hcalm i [] s5 _ H5 (fun _ _ => False) I5 (stat I5 n5) st5 go) (fun r s6 ⟨u, hr, h6⟩ => ?_) fun _ _ z => z.elim
    subst hr
    refine seg_bind_wrap ?_
    rw [hGA]
    refine wpAny_mono h6 (fun _ s7 ⟨x, H7, I7, r7, y7, st7, n7⟩ => ?_) fun _ _ z => z.elim
    have I7p := I7.pinned (stat I7 n7) (T.obj _ _ st7)
    refine seg_bind_wrap ?_
    rw [hGA]
    refine wpAny_mono (pg.run _ s7 _ H7 x u _ I7p r7 (step x H7 y7)) (fun _ s8 ⟨σ8, H8, I8, hw8, q8⟩ => ?_) fun _ _ z => z.elim
    refine seg_bind_wrap ?_
    rw [hGA]
    refine wpAny_mono (pt.run _ s8 σ8 H8 _ I8 q8) (fun b s9 ⟨H9, I9, q9⟩ => ?_) fun _ _ z => z.elim
    cases b with
    | false =>
      simp only [if_false, Bool.false_eq_true] at q9 ⊢
      obtain ⟨m', hm, w'⟩ := hNx H9 q9
      have hold : ∀ b ∈ fp, ∀ o, s7.heap.get? b = some o → s9.heap.get? b = some o ∧ H9 b = none := fun b hb o e =>
        let z := I9.pin (b, o) (List.mem_append_right _ (List.mem_append_right _ (mem_pinsAt hb e)))
        ⟨z.1, z.2.1⟩
      have len8 : (wipe σ (own.map (·.2))).length = σ8.length := by rw [← hw8, wipe_length]
      refine seg_again rfl (ih m' hm (i + 1) H9 s0 s9 ?_ ?_ ?_ w')
      · refine (I9.unpinned (pins := [])).weak len8 fun j v e => ?_
        rw [← hw8] at e
        exact (wipe_some e).1
      · exact T.keep _ _ _ st7 fun b hb o e => (hold b hb o e).1
      · intro b hb
        obtain ⟨o, at7, _⟩ := T.obj _ _ st7 b hb
        exact (hold b hb o at7).2
    | true =>
      simp only [if_true] at q9 ⊢
      have hy : ∀ v, yieldOut ce v = yieldValue v := fun v => by simp only [yieldOut, hco, Bool.false_eq_true, if_false]
      simp only [hy]
      rw [Sem.bind_eq_wrap', Sem.bind_eq_wrap']
      rw [Sem.wrap_wrap, Sem.wrap_wrap]
      refine seg_wrap ?_
      rw [hGA]
      refine wpAny_mono (pe.run _ s9 σ8 H9 _ I9 q9) (fun y s10 ⟨xv, H10, I10, r10, q10⟩ => ?_) fun _ _ z => z.elim
      refine seg_at (seg_yield rfl rfl rfl ?_)
      refine ⟨xv, H10, r10, ?_, q10⟩
      exact I.call' (ch := fp) I10.os I10.base I10.hok I10.bare fun b hb => ⟨(ff b hb).2.2.2.1, (ff b hb).2.1, (ff b hb).2.2.2.2.1, (ff b hb).2.2.2.2.2⟩
end
end Ka
namespace Ka
open PySem L2 PySem.Spec PyProof.Rows
section
variable {X : Cx} {pins : List (Addr × Obj)} {σ : L2.St} {H : Hp} {s : Shared}
theorem first_begin {elt tg iter : Expr} {ifs : List Expr} {scope : Scope} {gpos : Pos} {J : It} {fp : List Addr} {it : Addr} {tn : Nat → Heap → Prop} {A0 : Around} {ce : Env} {R : GenEnd} {Y : Protocol} {n : Nat} {s0 s5 : Shared}
    (T : Turn X.prog X.w X.K tg J fp it tn) (st : tn 0 s5.heap)
    (loop : Seg (model X.prog X.w) A0 R Y n s0 (.compLoop (.GeneratorExp elt [⟨tg, iter, ifs, 0⟩] scope gpos) 0 (.ref it) .none ce) ((model X.prog X.w).den (.compLoop (.GeneratorExp elt [⟨tg, iter, ifs, 0⟩] scope gpos) 0 (.ref it) .none ce)) [] s5) :
    Seg (model X.prog X.w) A0 R Y n s0 (.compStart (.GeneratorExp elt [⟨tg, iter, ifs, 0⟩] scope gpos) 0 (.ref it) .none ce) ((model X.prog X.w).den (.compStart (.GeneratorExp elt [⟨tg, iter, ifs, 0⟩] scope gpos) 0 (.ref it) .none ce)) [] s5 := by
  show Seg _ A0 _ _ _ s0 _ ((compStart (.GeneratorExp elt [⟨tg, iter, ifs, 0⟩] scope gpos) 0 (.ref it) .none ce).onRaise (leaving ce)) [] s5
  unfold compStart
  rw [Sem.onRaise_eq_wrap]
  show Seg _ A0 _ _ _ s0 _ ((ask >>= _).wrap _ _ _ _) [] s5
  refine seg_bind_wrap (wpAny_askSetting ?_); split
  · exact seg_again rfl loop
  · refine seg_bind_wrap (wpAny_rule ?_)
    show Seg _ A0 _ _ _ s0 _ ((standAt iter.pos >>= _).wrap _ _ _ _) [] s5
    exact seg_bind_wrap (wpAny_standAt (seg_bind_wrap (T.self _ 0 s5 _ _ st (seg_again rfl loop))))
/-- the built-in next of a generator that has not begun, with a default, where an item comes -/
theorem call_next_gen {P : Program} {w : World} {A : Around} {E : Value → Shared → Prop} {s : Shared} {a : Addr} {gn : Nat} {c : Code} {Y : Protocol} {d : Value} {Q : Value → Shared → Prop} (hh : A.handled = none) (hl : s.heap.NoLimit) (hd : A.depth < recursionLimit)
    (hg : s.heap.IsGen a gn) (hs : s.gens[gn]? = some (.fresh c))
    (hgo : ∀ R : GenEnd, Seg (model P w) A.in1.in1 R Y 1 (s.setGen gn .running) c ((model P w).den c) [] (s.setGen gn .running))
    (hY : ∀ v s1 gs, gs.bare = true → ∀ kap, Y 0 (s.setGen gn .running) v s1 kap → Q v (s1.setGen gn gs)) :
    wpAny (model P w) A (call (.builtin "next") [.ref a, d]) Q E s := by
  refine Calls.call_function_entry (by decide +kernel) (by decide +kernel) PySem.W.kdk_entry_next (PySem.W.kdk_args_next2 _ _) ?_
  unfold Builtin.«next»
  refine wpAny_bind (m := someArgs "next" 1 2 _) (wpAny_of_eq (a := [Value.ref a, d]) (by first | rfl | kernel_rfl!) ?_)
  dsimp only
  refine wpAny_bind (wpAny_specialOf (name := Str.ofString "__next__") hg.typeIs slot_gen_next.lookup ?_)
  refine wpAny_ite_split (fun ab => absurd ab (by decide)) (fun _ => ?_)
  refine wpAny_bind (next_genG (A := A.in1) (F := fun _ _ _ => False) (Er := fun _ _ => False) (Y := Y) (n := 1) hh hl hd hg hs ⟨rfl, hgo _⟩ (fun v s1 gs hb hv => ?_) (fun _ z => z.elim) fun _ _ z => z.elim)
  exact wpAny_pure ⟨_, rfl, hY v s1 gs hb _ hv⟩
/-- the generator is made; next wakes it -/
theorem first_mid {elt tg iter : Expr} {ifs : List Expr} {scope : Scope} {own : List (Str × Nat)} {g : TG} {tt : TT} {te : TE} {k j : Nat} {z : Int} {cp gpos : Pos} {J : It} {fp : List Addr} {it : Addr} {tn : Nat → Heap → Prop} {Q : VK}
    {W : Nat → Nat → Hp → Prop} {m0 : Nat} {H4 : Hp} {s4 : Shared} {cv : Value} {h' : Heap} {E : Value → Shared → Prop}
    (hr : Room (k + 1) X.A) (hcalm : X.calm = true) (nd : X.N.Nodup) (ok : BlkOk X.N X.env.scope scope own) (hco : scope.isCoroutine = false) (nc : ∀ y ∈ scope.names, y.2 ≠ .cell)
    (hpg : ∀ B s H cl C cv fp, PG (gxOf X B s H (genEnv scope cl C cv builtinsNs X.env) fp) tg g)
    (hpt : ∀ B s H cl C cv fp, Room k B → PTs (gxOf X B s H (genEnv scope cl C cv builtinsNs X.env) fp) ifs tt)
    (hpe : ∀ B s H cl C cv fp, PE (gxOf X B s H (genEnv scope cl C cv builtinsNs X.env) fp) elt te)
    (I4 : Inv X pins σ H4 s4) (T : Turn X.prog X.w X.K tg J fp it tn) (st4 : tn 0 s4.heap) (f4 : ∀ b ∈ fp, FpOk X pins H4 b) (w0 : W 0 m0 H4)
    (turn : ∀ i m H, W i m H → J.go i H ∧ ∃ Nx : Hp → Prop, (∀ H', Nx H' → ∃ m', m' < m ∧ W (i + 1) m' H') ∧ ∀ x H', J.yld i H x H' → g x (wipe σ (own.map (·.2))) H' fun σ2 H3 => wipe σ2 (own.map (·.2)) = wipe σ (own.map (·.2)) ∧ tt σ2 H3 fun b H4 => if b = true then te σ2 H4 Q else Nx H4)
    (hn' : h'.Ns s4.heap.objs.size (fun y => if y = ".0" then some (.ref it) else none)) (hs' : Heap.SameBut s4.heap.objs.size (s4.heap.push { cls := .type "frame", data := .dict #[] }) h') :
    wpAny (model X.prog X.w) X.A (spliced [(false, eval (.Constant (.int z) j cp) X.env)]) (fun vs s5 => wpAny (model X.prog X.w) X.A (call (.builtin "next") (.ref h'.objs.size :: vs)) (EP X pins σ Q) E s5) E { s4 with
            gens := s4.gens.push (.fresh (.compStart (.GeneratorExp elt [⟨tg, iter, ifs, 0⟩] scope gpos) 0 (.ref it) .none (genEnv scope (cloFrom X.env.cells scope.names []) s4.heap.objs.size cv builtinsNs X.env))),
            toks := s4.toks + 1 + 1 + 1,
            heap := h'.push { cls := .type "generator", data := .fields #[.int s4.gens.size 0, .str "<genexpr>" (s4.toks + 1), .str (X.env.qual ++ "<genexpr>") (s4.toks + 1 + 1)] } } := by
  have hdp : X.A.depth < recursionLimit := by have := hr.dp; omega
  have k1 : ∀ b o, s4.heap.get? b = some o → h'.get? b = some o := fun b o e => hs'.extBut b o (Nat.ne_of_lt (Heap.lt_size e)) (Heap.get?_push_of_some _ e)
  have k2 : ∀ b o, s4.heap.get? b = some o → (h'.push { cls := .type "generator", data := .fields #[.int s4.gens.size 0, .str "<genexpr>" (s4.toks + 1), .str (X.env.qual ++ "<genexpr>") (s4.toks + 1 + 1)] }).get? b = some o :=
    fun b o e => Heap.get?_push_of_some _ (k1 b o e)
  refine Calls.spliced_cons (wpAny_Constant_int ?_)
  refine Calls.spliced_nil ?_
  refine call_next_gen (gn := s4.gens.size) (Y := OutY X pins σ Q) (I4.ok.hd hcalm) (I4.nolimit.keeps k2) hdp ⟨_, _, _, Heap.get?_push_size _ rfl, rfl, rfl, rfl⟩ (Array.getElem?_push_size ..) (fun R => ?_) (fun v s1 gs hb kap hY => ?_)
  · have fb : ∀ b ∈ fp, FpOk X pins H4 b ∧ b < s4.heap.objs.size := fun b hb => by
      obtain ⟨o, e, _⟩ := T.obj _ _ st4 b hb
      exact ⟨f4 b hb, Heap.lt_size e⟩
    have st5 := T.keep _ _ _ st4 fun b _ o e => k2 b o e
    refine first_begin T st5 ?_
    have hroom : Room k ((X.A.in1.in1).over (.compLoop (.GeneratorExp elt [⟨tg, iter, ifs, 0⟩] scope gpos) 0 (.ref it) .none (genEnv scope (cloFrom X.env.cells scope.names []) s4.heap.objs.size cv builtinsNs X.env)) []) := by
      refine ⟨hr.hd, ?_, ?_⟩
      · have := hr.dp
        show X.A.depth + 0 + 1 + 3 * k + 5 < _
        omega
      · have := hr.un
        show X.A.units + 1 + 1 + 0 + 3 + 16 * k + 200 < _
        omega
    refine first_loop (own := own) (A0 := X.A.in1.in1) (elt := elt) (iter := iter) (ifs := ifs) (scope := scope) (gpos := gpos) (ce := genEnv scope (cloFrom X.env.cells scope.names []) s4.heap.objs.size cv builtinsNs X.env) hr.hd hcalm nd I4 T f4 hco (hpg _ _ _ _ _ _ _) (hpt _ _ _ _ _ _ _ hroom) (hpe _ _ _ _ _ _ _) turn m0 0 H4 _ _ ?_ st5 (fun b hb => (f4 b hb).1) w0
    refine gen_frame I4 ok nd nc hr.hd ?_ rfl fb rfl ?_ k2 (hn'.push _)
    · show pushEnvs (Code.envs (.compLoop (.GeneratorExp elt [⟨tg, iter, ifs, 0⟩] scope gpos) 0 (.ref it) .none (genEnv scope (cloFrom X.env.cells scope.names []) s4.heap.objs.size cv builtinsNs X.env))) (pushEnvs (envsOf []) X.A.in1.in1.frames) = _
      have e : X.A.in1.in1.frames = some X.stack := I4.ok.frames
      rw [e]
      rfl
    · exact allBare_setGen (AllBare.push I4.bare rfl) rfl
  · obtain ⟨x, H', r, I', q⟩ := hY
    exact ⟨x, H', I'.call' (ch := []) rfl Un.refl I'.hok (allBare_setGen I'.bare hb) (fun b z => by cases z), r, q⟩
/-- next((elt for tg in iter if test), n) -/
theorem pe_first {c P : Addr} {elt tg iter : Expr} {ifs : List Expr} {scope : Scope} {own : List (Str × Nat)} {wi : TI} {g : TG} {tt : TT} {te : TE} {k j : Nat} {z : Int} {p pos cp gpos : Pos}
    (hr : Room (k + 1) X.A) (hcalm : X.calm = true) (nd : X.N.Nodup) (hg : Gl X "next") (hm : X.mg "next" = none) (TB : GxR.TabB X.base X.mg c P) (hcode : X.env.code = .ref c) (hi : PI X tg iter wi) (ok : BlkOk X.N X.env.scope scope own)
    (hco : scope.isCoroutine = false) (nc : ∀ y ∈ scope.names, y.2 ≠ .cell) (dot : scope.names.lookup (".0" : Str) = some NameKind.local)
    (hpg : ∀ B s H cl C cv fp, PG (gxOf X B s H (genEnv scope cl C cv builtinsNs X.env) fp) tg g)
    (hpt : ∀ B s H cl C cv fp, Room k B → PTs (gxOf X B s H (genEnv scope cl C cv builtinsNs X.env) fp) ifs tt)
    (hpe : ∀ B s H cl C cv fp, PE (gxOf X B s H (genEnv scope cl C cv builtinsNs X.env) fp) elt te)
    (hs : ∀ v, genFold iter X.env v = pure v) (he : starEach [.GeneratorExp elt [⟨tg, iter, ifs, 0⟩] scope gpos, .Constant (.int z) j cp] X.env = [(false, eval (.GeneratorExp elt [⟨tg, iter, ifs, 0⟩] scope gpos) X.env), (false, eval (.Constant (.int z) j cp) X.env)] := by rfl) :
    PE X (.Call (.Name "next" p) [.GeneratorExp elt [⟨tg, iter, ifs, 0⟩] scope gpos, .Constant (.int z) j cp] [] pos) (tFirst P wi g tt te (own.map (·.2))) := by
  refine ⟨fun pins s σ H Q I h => wpAny_Call_Name_kw (ld_blt I hg hm boot_next (PyProof.Rows.callWith_builtin1 ?_ he (by rfl)))⟩
  rw [he]
  show wpAny _ _ (spliced [(false, eval (.GeneratorExp elt [⟨tg, iter, ifs, 0⟩] scope gpos) X.env), (false, eval (.Constant (.int z) j cp) X.env)]) _ _ s
  refine Calls.spliced_cons ?_
  have fr : ∀ y ∈ scope.names, y.2 = .free → ∃ c, X.env.cells.lookup y.1 = some c := fun y hy e => by
    rcases ok.free y hy e with kk | kk
    · exact I.ok.has _ (.inl kk)
    · exact I.ok.has _ (.inr kk)
  have hdp : X.A.depth < recursionLimit := by have := hr.dp; omega
  refine wpAny_GeneratorExp_make hco (closure_ok fr) nc dot ok.kind hdp ?_ hs
  refine thn (hi.run pins s σ H _ I h) fun xv s1 h1 => thn h1 fun itv s2 h2 => ?_
  obtain ⟨it, fp, tn, J, H2, rfl, I2, T, st2, f2, ⟨ps, hP, ht⟩, q2⟩ := h2
  have hPs : s2.heap.get? P = some { cls := .none, data := .fields ps } := I2.hok P _ hP
  have cd : PySem.W.CodeHd s2.heap c P := TB.code.keeps I2.bk
  have nfp : ∀ b ∈ fp, b ≠ P := fun b hb e => by
    have := (f2 b hb).1
    rw [e, hP] at this
    cases this
  have cont : ∀ (cv : Value) (h3 : Heap) (tk : Nat) (ps' : Array Value), Heap.ExtBut P s2.heap h3 → h3.get? P = some { cls := .none, data := .fields ps' } → (∃ more, ps' = ps ++ more) → TriplesOk ps'.toList →
      wpAny (model X.prog X.w) X.A (builtinsFor X.env.globals X.env.builtins) (fun bi s4 =>
        ∀ h', h'.Ns s4.heap.objs.size (fun y => if y = ".0" then some (.ref it) else none) → Heap.SameBut s4.heap.objs.size (s4.heap.push { cls := .type "frame", data := .dict #[] }) h' →
          wpAny (model X.prog X.w) X.A (spliced [(false, eval (.Constant (.int z) j cp) X.env)]) (fun vs s5 => wpAny (model X.prog X.w) X.A (call (.builtin "next") (.ref h'.objs.size :: vs)) (EP X pins σ Q) X.xe s5) X.xe { s4 with
            gens := s4.gens.push (.fresh (.compStart (.GeneratorExp elt [⟨tg, iter, ifs, 0⟩] scope gpos) 0 (.ref it) .none (genEnv scope (cloFrom X.env.cells scope.names []) s4.heap.objs.size cv bi X.env))),
            toks := s4.toks + 1 + 1 + 1,
            heap := h'.push { cls := .type "generator", data := .fields #[.int s4.gens.size 0, .str "<genexpr>" (s4.toks + 1), .str (X.env.qual ++ "<genexpr>") (s4.toks + 1 + 1)] } }) X.xe { s2 with heap := h3, toks := tk } := by
    intro cv h3 tk ps' hx hP3 ⟨more, em⟩ ht3
    obtain ⟨bm, om, e1, e2, e3, e4, e5, e6, e7, e8⟩ := TB.bm
    subst em
    have I4 : Inv X pins σ (upd H2 P (.tbl (ps ++ more))) { s2 with heap := h3, gens := s2.gens, drawn := s2.drawn, toks := tk } := GxR.inv_tab I2 hP (fun b o hb e => hx b o hb e) hP3 I2.bare
    have keep3 : ∀ b u, b ≠ P → s2.heap.get? b = some u → h3.get? b = some u := fun b u hb e => hx b u hb e
    have hTab : GxR.Tabbed P H2 (upd H2 P (.tbl (ps ++ more))) := ⟨⟨ps ++ more, upd_same, ht3⟩, fun b hb => upd_ne hb⟩
    have st4 : tn 0 h3 := T.keep _ _ _ st2 fun b hb o e => hx b o (nfp b hb) e
    have f4 : ∀ b ∈ fp, FpOk X pins (upd H2 P (.tbl (ps ++ more))) b := fun b hb => ⟨by rw [upd_ne (nfp b hb)]; exact (f2 b hb).1, (f2 b hb).2⟩
    obtain ⟨W, ⟨m0, w0⟩, turn⟩ := q2 _ hTab
    refine wpAny_builtinsFor (m := X.mg) (by rw [I2.ok.glob]; exact (I2.mod.glob.keeps I2.bk).extBut hx TB.gP) e1 e2 (keep3 _ _ e4 (I2.bk _ _ e5)) e6 e7 e8 ?_
    intro h' hn' hs'
    exact first_mid hr hcalm nd ok hco nc hpg hpt hpe I4 T st4 f4 w0 turn hn' hs'
  refine ⟨I2.nolimit, ?_⟩
  cases hca : codeAmong gpos ps.toList with
  | none =>
    refine wpAny_genexprCodeX hcode (cd.code hPs ht) (cd.tab hPs) hca fun c' h' tk hx hge hlt hco' _ htab' _ => ?_
    obtain ⟨o1, vs, g1, tf, fl, tg1, inF, tx, tt1, op, _, _, _, _, _, _, _, _, _, htr, _⟩ := hco'
    exact cont _ h' tk _ hx htab'.2 ⟨_, rfl⟩ htr
  | some cv =>
    refine wpAny_genexprCode_hit hcode (cd.code hPs ht) hca ?_
    exact cont cv s2.heap s2.toks ps (Heap.ExtBut.refl _ _) hPs ⟨#[], by simp⟩ ht
end
end Ka
namespace Ka
open PySem L2
def spMak (P : Addr) : Sp := fun vs H Q _ => ∃ q : Nat, q ∈ flds ∧ vs = [.int (q : Int)] ∧ GxR.TabG H P ∧ ∀ H', GxR.Tabbed P H H' → Q (.int (maker q : Int)) H'
/-- the generator's scope -/
def genSc : Expr → Scope
  | .Call _ (.GeneratorExp _ _ s _ :: _) _ _ => s
  | _ => { kind := .function, names := [], isGenerator := true, isCoroutine := false }
def retOf : Stmt → Expr
  | .Return (some e) _ => e
  | _ => .Name "" ⟨0, 0, 0, 0⟩
def scGen : Scope := genSc (retOf ((defBody sMakIn).getD 0 (.Pass ⟨0, 0, 0, 0⟩)))
section
variable {P : Program} {w : World} {K : PySem.W.Frag} {mg : Str → Option Value} {base : Heap} {f : Addr} {fd : FuncData}
abbrev nMak : List Str := ["q", "element"]
theorem scMakIn : FnScope nMak ["q"] (defScope sMakIn) := ⟨rfl, rfl, rfl, by decide +kernel, rfl, by decide +kernel, by decide +kernel⟩
theorem ok_makIn {c T : Addr} (F : Fun K "element_maker_in" "element_maker_in" sMakIn f fd) (hc : fd.code = .ref c) (TB : GxR.TabB base mg c T) (Fr : Free mg) (cO : Cl P w K mg base 1 "element_order_in" spOrd) : FnOk P w K mg base CX0 3 f fd ["q"] (spMak T) := by
  have nd := scMakIn.nd
  obtain ⟨oc, od, kV, dc, pm, an, cdv, ct, sl, rfl, look, code⟩ := F.ex
  obtain rfl : cdv = Value.ref c := hc
  refine fn_of look code scMakIn (fun vs H Q E h => ?_) fun A outer s H vs Q E hr h => ?_
  · obtain ⟨q, _, rfl, _⟩ := h
    rfl
  · obtain ⟨q, hq, rfl, hT, k⟩ := h
    have q9 := flds_le hq
    obtain ⟨⟨m0, m1, m2, m3⟩, m4, _⟩ := mak_at hq
    have hb : ∃ t, PSs (cxOf CX0 P w K mg base nMak "element_maker_in" (defScope sMakIn) f (Value.ref c) A outer s H E).nox (defBody sMakIn) t ∧ t { nx := fun _ H' => Q .non H', rt := Q } (start nMak [.int (q : Int)]) H := by
      refine ⟨_, pss_one (ps_ret (pe_first (X := (cxOf CX0 P w K mg base nMak "element_maker_in" (defScope sMakIn) f (Value.ref c) A outer s H E).nox) (own := [("element", 1)]) (g := gName 1) (te := tVar 1) (scope := scGen)
        (tt := tB (tOp rEq (tCall spOrd [] E0 (tCons (tVar 0) (tCons (tVar 1) tNil))) (tOp (rI0 fun i j => .int (i - j)) (tVar 0) (tC (.int 1))))) (k := 1)
        hr rfl nd rfl Fr.next TB rfl (pi_range2 rfl Fr.range (pa_cons pe_int (pa_cons (pv 0) pa_nil))) (blkOk_by (N := nMak) (sc := defScope sMakIn) (own := [("element", 1)]) (by decide +kernel)) rfl (by decide +kernel) rfl
        (fun _ _ _ _ _ _ _ => pg_name (i := 1) nd rfl (.inl rfl)) (fun _ _ _ _ _ _ _ hB => pts_one (pt_cmpR op_eq (pe_cl cO hB (by decide) (by rfl) (pa_cons (pv 0) (pa_cons (pv 1) pa_nil))) (pe_op op_sub (pv 0) pe_int) (nomark _)))
        (fun _ _ _ _ _ _ _ => pv 1) (fun _ => rfl))), ?_⟩
      refine ⟨_, rfl, 1, (q : Int), rfl, ⟨by omega, by omega, by omega, by omega⟩, hT, fun H2 h2 => ?_⟩
      refine ⟨fun i m H3 => i + m + 1 = maker q ∧ H3 = H2, ⟨maker q - 1, by omega, rfl⟩, ?_⟩
      rintro i m H3 ⟨him, rfl⟩
      refine ⟨(by show i < ((q : Int) - 1).toNat; omega), fun H' => m ≠ 0 ∧ H' = H3, fun H' z => ⟨m - 1, by omega, by omega, z.2⟩, ?_⟩
      rintro x H' ⟨rfl, rfl⟩
      have ei : (1 : Int) + (i : Int) = ((i + 1 : Nat) : Int) := by omega
      rw [ei]
      refine ⟨rfl, _, rfl, _, rfl, q, i + 1, hq, by omega, by omega, rfl, _, rfl, (q : Int), 1, rfl, rfl, rfl, _, rfl, ?_⟩
      by_cases cm : m = 0
      · subst cm
        have e : i + 1 = maker q := by omega
        rw [e, m2]
        have d : decide (V.int ((q - 1 : Nat) : Int) = V.int ((q : Int) - 1)) = true := decide_eq_true (congrArg V.int (by omega))
        rw [d]
        exact iteT ⟨_, rfl, k H' h2⟩
      · have d : decide (V.int (ord q (i + 1) : Int) = V.int ((q : Int) - 1)) = false := decide_eq_false fun z => by
          injection z with z
          exact m4 (i + 1) (by omega) (by omega) (by omega)
        rw [d]
        exact iteF ⟨cm, rfl⟩
    obtain ⟨t, ht, hq2⟩ := hb
    exact ⟨t, ht.nox, hq2⟩
theorem scMak : FnScope ["q"] ["q"] (defScope sMak) := ⟨rfl, rfl, rfl, by decide +kernel, rfl, by decide +kernel, by decide +kernel⟩
theorem ok_mak {T : Addr} (F : Fun K "element_maker" "element_maker" sMak f fd) (cF : Cl P w K mg base 3 "require_field" spReqF) (cI : Cl P w K mg base 3 "element_maker_in" (spMak T)) : FnOk P w K mg base CX0 4 f fd ["q"] (spMak T) := by
  refine F.ok scMak (fun vs H Q E h => ?_) (fun cdv A outer s H vs Q E hr h => ?_)
  · obtain ⟨q, _, rfl, _⟩ := h
    rfl
  · obtain ⟨q, hq, rfl, hT, k⟩ := h
    refine ⟨_, pss_cons (ps_expr (pe_cl cF hr (by decide) (by rfl) (pa_cons (pv 0) pa_nil))) (pss_one (ps_ret (pe_cl cI hr (by decide) (by rfl) (pa_cons (pv 0) pa_nil)))), ?_⟩
    exact ⟨_, rfl, q, hq, rfl, _, rfl, q, hq, rfl, hT, k⟩
end
end Ka
namespace Ka
open PySem L2
theorem op_powB {X : Cx} : OpR X (binaryOp .Pow) (rI (fun i j => 0 ≤ j ∧ (Builtin.Int.intBits i : Int) * j ≤ 2 ^ 27) fun i j => .int (i ^ j.toNat)) := opI fun _ _ _ _ _ _ _ hc q => PyProof.Rows.pow_int hc.1 hc.2 q
def spDice (K : PySem.W.Frag) : Sp := fun vs H Q _ => ∃ (S : Addr) (ns : List Int) (i : Nat), vs = [.ref S, .int (i : Int)] ∧ i < 1000 ∧ SqL K H S (ns.map V.int) ∧
  ∀ d H', Same H H' → H d = none → DiceAt H' d → Q (.ref d) H'
section
variable {P : Program} {w : World} {K : PySem.W.Frag} {mg : Str → Option Value} {base : Heap} {f : Addr} {fd : FuncData}
abbrev nDice : List Str := ["_law_script", "_law_at", "_law_cell", "_law_great", "_law_left", "_law_mixed"]
theorem scDice : FnScope nDice ["_law_script", "_law_at"] (defScope sDice) := ⟨rfl, rfl, rfl, by decide +kernel, rfl, by decide +kernel, by decide +kernel⟩
theorem ok_dice (F : Fun K "_law_dice" "_law_dice" sDice f fd) (T : Free mg) : FnOk P w K mg base CX0 1 f fd ["_law_script", "_law_at"] (spDice K) := by
  have nd := scDice.nd
  refine F.ok scDice (fun vs H Q E h => ?_) (fun cdv A outer s H vs Q E hr h => ?_)
  · obtain ⟨S, ns, i, rfl, _⟩ := h
    rfl
  · obtain ⟨S, ns, i, rfl, hi, hS, k⟩ := h
    refine ⟨_, pss_cons (ps_set (i := 2) nd rfl (.inl rfl) (pe_op op_add (pe_op op_mul pe_int (pv 1)) pe_int))
      (pss_cons (ps_if (pt_cmpR op_lt (pv 1) (pe_callB call_len_seq (by rfl) T.len PySem.boot_len (pa_cons (pv 0) pa_nil)) (nomark _)) (pss_one (ps_set (i := 2) nd rfl (.inl rfl) (pe_ix ix_list (pv 0) (pv 1) (fun _ _ => rfl)))) pss_nil)
      (pss_cons (ps_set (i := 3) nd rfl (.inl rfl) (pe_op op_mod (pe_callTy call_int1 (by rfl) T.int PyProof.Rows.boot_int (pa_cons (pe_callB call_abs (by rfl) T.abs PyProof.Rows.boot_abs (pa_cons (pv 2) pa_nil)) pa_nil)) (pe_op op_powB (pe_op op_pow pe_int pe_int) pe_int)))
      (pss_cons (ps_set (i := 4) nd rfl (.inl rfl) (pe_op op_fdivW (pv 3) (pe_op op_pow pe_int pe_int)))
      (pss_cons (ps_set (i := 5) nd rfl (.inl rfl) (pe_op op_add (pe_op op_add (pe_op op_add (pe_op op_mul (pe_op op_mod (pv 3) pe_int) pe_int) (pe_op op_mul pe_int (pv 1))) (pe_op op_mul pe_int (pe_callTy call_int1 (by rfl) T.int PyProof.Rows.boot_int (pa_cons (pe_cmpR op_lt (pv 2) pe_int (nomark _)) pa_nil)))) pe_int))
      (pss_one (ps_ret (pe_lst (pa_cons (pv 4) (pa_cons (pe_op op_mod (pv 5) pe_int) (pa_cons pe_int pa_nil)))))))))), ?_⟩
    refine ⟨_, rfl, 103, (i : Int), rfl, rfl, mul_fits (by decide) (by decide), _, _, rfl, rfl, ?_⟩
    refine ⟨_, rfl, _, rfl, S, ns.map V.int, rfl, .inl hS, (i : Int), _, rfl, rfl, _, rfl, ?_⟩
    have b10 : (Builtin.Int.intBits ((10 : Int) ^ (60 : Int).toNat) : Int) * 10 ≤ 2 ^ 27 := by decide +kernel
    have p10 : (0 : Int) < ((10 : Int) ^ (60 : Int).toNat) ^ (10 : Int).toNat := by decide +kernel
    have d18 : CDivW 0 ((10 : Int) ^ (18 : Int).toNat) := wide_div (b := 60) (by decide +kernel) (by decide +kernel) (by decide) (by decide)
    have key : decide ((i : Int) < ((ns.map V.int).length : Int)) = true → i < ns.length := fun c => by
      have c := of_decide_eq_true c
      rw [List.length_map] at c
      omega
    refine ite2 (fun c => ⟨_, rfl, _, rfl, S, ns.map V.int, (i : Int), _, rfl, rfl, hS, atI_nat (iV_at (key c)), ?_⟩) (fun _ => ?_)
    all_goals
      refine ⟨_, rfl, _, rfl, .inl ⟨_, rfl, 10, 60, rfl, rfl, ⟨by decide, by decide, by decide⟩, _, 10, rfl, rfl, ⟨by decide, b10⟩, _, _, rfl, rfl, p10, ?_⟩⟩
      have g0 : ∀ z : Int, 0 ≤ z % ((10 : Int) ^ (60 : Int).toNat) ^ (10 : Int).toNat := fun z => Int.emod_nonneg _ (by omega)
      refine ⟨_, rfl, 10, 18, rfl, rfl, ⟨by decide, by decide, by decide⟩, _, _, rfl, rfl, d18, ?_⟩
      refine ⟨_, rfl, _, 2147482661, rfl, rfl, (by show (0 : Int) < 2147482661; decide), _, 60509, rfl, rfl, mul_fitsR (by decide) (by decide), _, rfl, 3539, (i : Int), rfl, rfl, mul_fits (by decide) (by decide), _, _, rfl, rfl, _, rfl, _, 0, rfl, rfl, .inr ⟨_, rfl, 97, _, rfl, rfl, mul_fits (by decide) (by decide), _, _, rfl, rfl, _, 113, rfl, rfl, ?_⟩⟩
      refine ⟨_, rfl, _, rfl, _, 2147482591, rfl, rfl, (by show (0 : Int) < 2147482591; decide), (by show 3 ≤ sizeLine; decide), fun d hd => ?_⟩
      exact k d _ (sameNew hd) hd ⟨_, _, 0, Int.ediv_nonneg (g0 _) (by decide +kernel), upd_same⟩
end
end Ka
namespace Ka
open PySem L2
/-- a field that stays where only the dice turn -/
def FieldBut (H : Hp) (d F : Addr) (q : Nat) : Prop := ∀ H', But d H H' → FieldAt H' F q
theorem FieldBut.here {H : Hp} {d F : Addr} {q : Nat} (x : FieldBut H d F q) : FieldAt H F q := x H (But.refl H)
theorem FieldBut.but {H H1 : Hp} {d F : Addr} {q : Nat} (x : FieldBut H d F q) (b : But d H H1) : FieldBut H1 d F q := fun H' b' => x H' (b.trans b')
theorem FieldNew.but {H H1 H2 : Hp} {d F : Addr} {q : Nat} (x : FieldNew H H1 F q) (hd : H d ≠ none) (b : But d H1 H2) : FieldBut H2 d F q := fun H' b' => x H' fun c o hc e => by
  have n : c ≠ d := fun z => hd (by rw [← z]; exact hc)
  exact b' c o n (b c o n e)
theorem DiceAt.same {H H' : Hp} {d : Addr} (x : DiceAt H d) (s : Same H H') : DiceAt H' d := by
  obtain ⟨l, m, c, h0, h⟩ := x
  exact ⟨l, m, c, h0, s _ _ h⟩
theorem DiceAt.some {H : Hp} {d : Addr} (x : DiceAt H d) : H d ≠ none := by
  obtain ⟨l, m, c, h0, h⟩ := x
  rw [h]
  exact fun z => by cases z
/-- the powers of an element that the law takes from the walk -/
def walkP (q e : Nat) : List Nat := if 0 < e then walkL q e else [0]
theorem walkP_at {q e : Nat} {k : Int} (hq : q ∈ flds) (he : e < q) (k0 : 0 < k) : ∃ m : Nat, k % ((walkP q e).length : Int) = (m : Int) ∧ (walkP q e)[m]? = some (powT q e k) := by
  unfold walkP powT
  by_cases e0 : 0 < e
  · obtain ⟨⟨o1, o2, _, _⟩, _⟩ := unit_at hq e0 he
    have hl : (walkL q e).length = ord q e := by
      unfold walkL
      rw [List.length_map, List.length_range]
    rw [if_pos e0, if_neg (by omega), hl, pw_rest hq e0 he]
    refine ⟨k.toNat % ord q e, ?_, ?_⟩
    · have h2 : ((k.toNat : Nat) : Int) = k := by omega
      rw [Int.natCast_emod, h2]
    · unfold walkL
      rw [List.getElem?_map, List.getElem?_range (Nat.mod_lt _ (by omega))]
      rfl
  · have z : e = 0 := by omega
    subst z
    rw [if_neg e0, if_pos rfl, if_neg (by omega)]
    refine ⟨0, ?_, rfl⟩
    show k % (1 : Int) = 0
    omega
theorem walkP_pos {q e : Nat} (hq : q ∈ flds) (he : e < q) : 0 < (walkP q e).length := by
  unfold walkP
  by_cases e0 : 0 < e
  · obtain ⟨⟨o1, o2, _, _⟩, _⟩ := unit_at hq e0 he
    rw [if_pos e0]
    unfold walkL
    rw [List.length_map, List.length_range]
    omega
  · rw [if_neg e0]
    decide
theorem powT_zero {q e : Nat} : powT q e 0 = 1 := by
  unfold powT
  by_cases e0 : e = 0
  · rw [if_pos e0, if_pos rfl]
  · rw [if_neg e0]
    show pw q e (0 % (q - 1)) = 1
    rw [Nat.zero_mod]
    rfl
theorem powT_q {q e : Nat} (hq : q ∈ flds) (he : e < q) : powT q e (q : Int) = e := by
  have q9 := flds_le hq
  unfold powT
  by_cases e0 : e = 0
  · rw [if_pos e0, if_neg (by omega), e0]
  · rw [if_neg e0, Int.toNat_natCast]
    exact qth_at hq (by omega) he
def spPowers : Sp := fun vs H Q _ => ∃ (d F : Addr) (q e : Nat), q ∈ flds ∧ e < q ∧ vs = [.ref d, .ref F, .int (e : Int)] ∧ DiceAt H d ∧ FieldBut H d F q ∧
  ∀ H', DiceAt H' d → But d H H' → Q (.bl true) H'
theorem if_same {c : Bool} {ta tb : TE} {σ : L2.St} {H : Hp} {Q : VK} (R : V → Hp → Prop) (h1 : c = true → ∀ Q : VK, (∀ x H1, R x H1 → Q x H1) → ta σ H Q) (h2 : c = false → ∀ Q : VK, (∀ x H1, R x H1 → Q x H1) → tb σ H Q)
    (k : ∀ x H1, R x H1 → Q x H1) : if c = true then ta σ H Q else tb σ H Q := by
  cases c with
  | true => exact iteT (h1 rfl Q k)
  | false => exact iteF (h2 rfl Q k)
section
variable {P : Program} {w : World} {K : PySem.W.Frag} {mg : Str → Option Value} {base : Heap} {f : Addr} {fd : FuncData}
abbrev nPowers : List Str := ["_law_dice_here", "_law_field_here", "_law_one", "_law_q", "_law_walk_here", "_law_great", "_law_k", "_law_due"]
abbrev p3 : List Str := ["_law_dice_here", "_law_field_here", "_law_one"]
theorem scPowers : FnScope nPowers p3 (defScope sPowers) := ⟨rfl, rfl, rfl, by decide +kernel, rfl, by decide +kernel, by decide +kernel⟩
theorem great_lt {r s q : Int} (r0 : 0 ≤ r) (r1 : r < (10 : Int) ^ (9 : Int).toNat) (s0 : 0 ≤ s) (s1 : s < (10 : Int) ^ (9 : Int).toNat) (q2 : 2 ≤ q) (q9 : q ≤ 9) :
    0 < r * (10 : Int) ^ (50 : Int).toNat + s + 1 ∧ r * (10 : Int) ^ (50 : Int).toNat + s + 1 < big ∧ 0 < (r * (10 : Int) ^ (50 : Int).toNat + s + 1) * (q - 1) ∧ (r * (10 : Int) ^ (50 : Int).toNat + s + 1) * (q - 1) < big := by
  have e9 : (10 : Int) ^ (9 : Int).toNat = 1000000000 := by decide +kernel
  have e50 : (10 : Int) ^ (50 : Int).toNat = 100000000000000000000000000000000000000000000000000 := by decide +kernel
  have eb : big = 1000000000000000000000000000000000000000000000000000000000000 := by decide +kernel
  rw [e9] at r1 s1
  rw [e50, eb]
  have h1 : 0 < r * 100000000000000000000000000000000000000000000000000 + s + 1 := by omega
  refine ⟨h1, by omega, Int.mul_pos h1 (by omega), ?_⟩
  have h2 : (r * 100000000000000000000000000000000000000000000000000 + s + 1) * (q - 1) ≤ (r * 100000000000000000000000000000000000000000000000000 + s + 1) * 8 := Int.mul_le_mul_of_nonneg_left (by omega) (by omega)
  omega
theorem ok_powers (F : Fun K "_law_powers_right" "_law_powers_right" sPowers f fd) (T : Free mg) (cW : Cl P w K mg base 1 "_law_walk" spWalk) (cR : Cl P w K mg base 1 "_law_roll" spRoll) (cP : Cl P w K mg base 5 "element_power" spPow) :
    FnOk P w K mg base CX0 6 f fd p3 spPowers := by
  have nd := scPowers.nd
  refine F.ok scPowers (fun vs H Q E h => ?_) (fun cdv A outer s H vs Q E hr h => ?_)
  · obtain ⟨d, Fa, q, e, _, _, rfl, _⟩ := h
    rfl
  · obtain ⟨d, Fa, q, e, hq, he, rfl, hd, hF, k⟩ := h
    have hu := hu_of hr
    have q9 := flds_le hq
    refine ⟨_, pss_cons (ps_set (i := 3) nd rfl (.inl rfl) (pe_dget hu (pv 1) pe_str (fun _ _ => rfl)))
      (pss_cons (ps_set (i := 4) nd rfl (.inl rfl) (pe_ifExp (pt_cmpR op_gt (pv 2) pe_int (nomark _)) (pe_cl cW hr (by decide) (by rfl) (pa_cons (pv 1) (pa_cons (pv 2) pa_nil))) (pe_lst (pa_cons pe_int pa_nil))))
      (pss_cons (ps_set (i := 5) nd rfl (.inl rfl) (pe_op op_add (pe_op op_add (pe_op op_mul (pe_cl cR hr (by decide) (by rfl) (pa_cons (pv 0) (pa_cons (pe_op op_pow pe_int pe_int) pa_nil))) (pe_op op_pow pe_int pe_int)) (pe_cl cR hr (by decide) (by rfl) (pa_cons (pv 0) (pa_cons (pe_op op_pow pe_int pe_int) pa_nil)))) pe_int))
      (pss_cons (ps_for PassesOwn.never rfl (pi_tup (pe_tup (pa_cons pe_int (pa_cons pe_int (pa_cons pe_int (pa_cons (pe_op op_sub (pv 3) pe_int) (pa_cons (pv 3) (pa_cons (pe_cl cR hr (by decide) (by rfl) (pa_cons (pv 0) (pa_cons pe_int pa_nil))) (pa_cons (pv 5) (pa_cons (pe_op op_mul (pv 5) (pe_op op_sub (pv 3) pe_int)) pa_nil)))))))))) (pg_name (i := 6) nd rfl (.inl rfl))
        (pss_cons (ps_set (i := 7) nd rfl (.inl rfl) (pe_ifExp (pt_cmpR op_eq (pv 6) pe_int (nomark _)) pe_int (pe_ix ix_list (pv 4) (pe_op op_mod (pv 6) (pe_callB call_len_seq (by rfl) T.len PySem.boot_len (pa_cons (pv 4) pa_nil))) (fun _ _ => rfl))))
        (pss_one (ps_if (pt_cmpR op_ne (pe_cl cP hr (by decide) (by rfl) (pa_cons (pv 3) (pa_cons (pv 2) (pa_cons (pv 6) pa_nil)))) (pv 7) (nomark _)) (pss_one (ps_ret pe_bl)) pss_nil))))
      (pss_one (ps_ret (pe_cmpR op_eq (pe_cl cP hr (by decide) (by rfl) (pa_cons (pv 3) (pa_cons (pv 2) (pa_cons (pv 3) pa_nil)))) (pv 2) (nomark _))))))), ?_⟩
    obtain ⟨kvs, aM, rows, f1, f2, f3, f4⟩ := hF.here.ex
    have g := DGet.k (H := H) (k := (Sum.inr "q" : Key)) f1
    rw [f2] at g
    refine ⟨_, rfl, Fa, _, rfl, g, ?_⟩
    refine ⟨_, rfl, _, _, rfl, rfl, _, rfl, ?_⟩
    refine if_same (fun x H1 => ∃ Lw : Addr, x = .ref Lw ∧ Same H H1 ∧ H Lw = none ∧ H1 Lw = some (.lst (nV (walkP q e)))) (fun c Q1 k1 => ?_) (fun c Q1 k1 => ?_) ?_
    · have e0 : 0 < e := by
        have := of_decide_eq_true c
        omega
      refine ⟨_, rfl, _, rfl, Fa, q, e, hq, e0, he, rfl, hF.here, fun Lw H1 s1 n1 h1 => k1 _ _ ⟨Lw, rfl, s1, n1, ?_⟩⟩
      unfold walkP
      rw [if_pos e0]
      exact h1
    · have e0 : ¬ 0 < e := by
        have := of_decide_eq_false c
        omega
      refine ⟨(by show 1 ≤ sizeLine; decide), fun Lw n1 => k1 _ _ ⟨Lw, rfl, sameNew n1, n1, ?_⟩⟩
      unfold walkP
      rw [if_neg e0]
      exact upd_same
    rintro x H1 ⟨Lw, rfl, s1, n1, h1⟩
    have hd1 := hd.same s1
    have nL : Lw ≠ d := fun z => hd.some (by rw [← z]; exact n1)
    have p9 : (0 : Int) < (10 : Int) ^ (9 : Int).toNat ∧ (10 : Int) ^ (9 : Int).toNat < 1073741824 := by decide +kernel
    refine ⟨_, rfl, 10, 9, rfl, rfl, ⟨by decide, by decide, by decide⟩, d, _, rfl, hd1, p9.1, p9.2, fun r H2 r0 r1 hd2 b2 _ => ?_⟩
    refine ⟨10, 50, rfl, rfl, ⟨by decide, by decide, by decide⟩, _, _, rfl, rfl, mul_fits r0 (by omega), ?_⟩
    refine ⟨_, rfl, 10, 9, rfl, rfl, ⟨by decide, by decide, by decide⟩, d, _, rfl, hd2, p9.1, p9.2, fun t H3 t0 t1 hd3 b3 _ => ?_⟩
    refine ⟨_, _, rfl, rfl, _, 1, rfl, rfl, ?_⟩
    obtain ⟨g0, g1, m0, m1⟩ := great_lt (q := (q : Int)) r0 r1 t0 t1 (by omega) (by omega)
    dsimp only
    generalize r * (10 : Int) ^ (50 : Int).toNat + t + 1 = great at *
    have b03 : But d H H3 := ((But.of s1).trans b2).trans b3
    have h3 : H3 Lw = some (.lst (nV (walkP q e))) := b3 _ _ nL (b2 _ _ nL h1)
    refine ⟨_, rfl, (q : Int), 1, rfl, rfl, _, rfl, _, rfl, d, 30, rfl, hd3, by decide, by decide, fun u H4 u0 u1 hd4 b4 _ => ?_⟩
    refine ⟨_, rfl, _, rfl, _, rfl, (q : Int), 1, rfl, rfl, great, (q : Int) - 1, rfl, rfl, mul_fitsR (by omega) (by omega), (by show 8 ≤ sizeLine; decide), fun t ht => ?_⟩
    have h4 : H4 Lw = some (.lst (nV (walkP q e))) := b4 _ _ nL h3
    have b04 := b03.trans b4
    have ht' : upd H4 t (.tup [V.int 0, V.int 1, V.int 2, V.int ((q : Int) - 1), V.int (q : Int), V.int u, V.int great, V.int (great * ((q : Int) - 1))]) t = some (.tup [V.int 0, V.int 1, V.int 2, V.int ((q : Int) - 1), V.int (q : Int), V.int u, V.int great, V.int (great * ((q : Int) - 1))]) := upd_same
    have s5 : Same H4 (upd H4 t (.tup [V.int 0, V.int 1, V.int 2, V.int ((q : Int) - 1), V.int (q : Int), V.int u, V.int great, V.int (great * ((q : Int) - 1))])) := sameNew ht
    refine ⟨t, rfl, ⟨_, SqT.of ht'⟩, ?_⟩
    generalize upd H4 t (.tup [V.int 0, V.int 1, V.int 2, V.int ((q : Int) - 1), V.int (q : Int), V.int u, V.int great, V.int (great * ((q : Int) - 1))]) = H5 at *
    have h5 := s5 _ _ h4
    have hlen : (0 : Int) < ((nV (walkP q e)).length : Int) := by
      have := walkP_pos hq he
      rw [nV_len]
      omega
    have range : ∀ x ∈ [V.int 0, V.int 1, V.int 2, V.int ((q : Int) - 1), V.int (q : Int), V.int u, V.int great, V.int (great * ((q : Int) - 1))], ∃ k : Int, x = .int k ∧ 0 ≤ k ∧ k < big := by
      have eb : big = 1000000000000000000000000000000000000000000000000000000000000 := by decide +kernel
      intro x hx
      simp only [List.mem_cons, List.not_mem_nil, or_false] at hx
      rcases hx with rfl | rfl | rfl | rfl | rfl | rfl | rfl | rfl
      · exact ⟨_, rfl, by omega, by omega⟩
      · exact ⟨_, rfl, by omega, by omega⟩
      · exact ⟨_, rfl, by omega, by omega⟩
      · exact ⟨_, rfl, by omega, by omega⟩
      · exact ⟨_, rfl, by omega, by omega⟩
      · exact ⟨_, rfl, by omega, by omega⟩
      · exact ⟨_, rfl, by omega, by omega⟩
      · exact ⟨_, rfl, by omega, by omega⟩
    refine for_tup (xs := [V.int 0, V.int 1, V.int 2, V.int ((q : Int) - 1), V.int (q : Int), V.int u, V.int great, V.int (great * ((q : Int) - 1))])
      (fun i σ H6 => ∃ y z, σ = [some (.ref d), some (.ref Fa), some (.int (e : Int)), some (.int (q : Int)), some (.ref Lw), some (.int great), y, z] ∧ H6 = H5) ⟨_, _, rfl, rfl⟩ (fun i σ H6 _ ⟨_, _, _, e6⟩ => by rw [e6]; exact SqT.of ht') ?_ ?_
    · rintro i x σ H6 hx ⟨y, z, rfl, rfl⟩
      obtain ⟨kk, rfl, k0, k1⟩ := range x (List.mem_of_getElem? hx)
      refine ⟨_, rfl, rfl, _, rfl, ?_⟩
      refine if_same (fun x H1 => x = .int (powT q e kk : Int) ∧ H1 = H6) (fun c Q1 z1 => ?_) (fun c Q1 z1 => ?_) ?_
      · have c := of_decide_eq_true c
        injection c with c
        subst c
        refine z1 _ _ ⟨?_, rfl⟩
        rw [powT_zero]
        rfl
      · have c : kk ≠ 0 := fun z => by
          have := of_decide_eq_false c
          exact this (by rw [z])
        obtain ⟨m, em, gm⟩ := walkP_at hq he (k := kk) (by omega)
        refine ⟨_, rfl, _, rfl, _, rfl, Lw, _, rfl, .inl (SqL.of h5), kk, _, rfl, rfl, hlen, Lw, _, _, _, rfl, rfl, SqL.of h5, ?_, z1 _ _ ⟨rfl, rfl⟩⟩
        rw [nV_len, em]
        exact atI_nat (nV_at gm)
      rintro x H1 ⟨rfl, rfl⟩
      refine ⟨_, rfl, _, rfl, _, rfl, q, e, kk, hq, he, k0, k1, rfl, _, rfl, rfl, _, rfl, ?_⟩
      rw [decide_eq_true rfl]
      exact iteF ⟨_, _, rfl, rfl⟩
    · rintro σ H6 ⟨y, z, rfl, rfl⟩
      have qb : (q : Int) < big := by
        have eb : big = 1000000000000000000000000000000000000000000000000000000000000 := by decide +kernel
        omega
      refine ⟨_, rfl, _, rfl, _, rfl, q, e, (q : Int), hq, he, by omega, qb, rfl, _, rfl, rfl, ?_⟩
      rw [powT_q hq he, decide_eq_true rfl]
      exact k _ (hd4.same s5) (b04.same s5)
end
end Ka
namespace Ka
open PySem L2
def toI : V → Int
  | .int z => z
  | _ => 0
def phiN (n j : Nat) : Nat := ((List.range j).filter fun i => Nat.gcd (i + 1) n == 1).length
theorem phiN_yes {n j : Nat} (h : Nat.gcd (j + 1) n = 1) : phiN n (j + 1) = phiN n j + 1 := by
  unfold phiN
  rw [List.range_succ, List.filter_append, List.length_append, List.filter_cons_of_pos (by rw [h]; rfl)]
  rfl
theorem phiN_no {n j : Nat} (h : ¬ Nat.gcd (j + 1) n = 1) : phiN n (j + 1) = phiN n j := by
  unfold phiN
  rw [List.range_succ, List.filter_append, List.length_append, List.filter_cons_of_neg (by simpa using h)]
  rfl
/-- the orders counted, the first i elements done -/
def cntK (q : Nat) : Nat → List (Key × V)
  | 0 => []
  | i + 1 => putK (cntK q i) (Sum.inl (ord q (i + 1) : Int)) (.int (toI ((valV (cntK q i) (Sum.inl (ord q (i + 1) : Int))).getD (.int 0)) + 1))
def dueK (q : Nat) : Nat → List (Key × V)
  | 0 => []
  | i + 1 => if (q - 1) % (i + 1) = 0 then dueK q i ++ [((Sum.inl ((i + 1 : Nat) : Int) : Key), .int (phiN (i + 1) (i + 1) : Int))] else dueK q i
def cntC (q : Nat) : Bool := (List.range (q - 1)).all fun i => decide ((valV (cntK q i) (Sum.inl (ord q (i + 1) : Int))).getD (.int 0) = .int (toI ((valV (cntK q i) (Sum.inl (ord q (i + 1) : Int))).getD (.int 0))) ∧ (cntK q i).length < 10)
theorem cnts : allq cntC = true := by decide +kernel
theorem cnt_at {q i : Nat} (hq : q ∈ flds) (hi : i < q - 1) : (valV (cntK q i) (Sum.inl (ord q (i + 1) : Int))).getD (.int 0) = .int (toI ((valV (cntK q i) (Sum.inl (ord q (i + 1) : Int))).getD (.int 0))) ∧ (cntK q i).length < 10 :=
  of_decide_eq_true (List.all_eq_true.mp (allq_at cnts hq) i (List.mem_range.mpr hi))
def dueC (q : Nat) : Bool := decide ((cntK q (q - 1)).length = (mergeK [] (dueK q (q - 1))).length) && (cntK q (q - 1)).all fun p => decide (valV (mergeK [] (dueK q (q - 1))) p.1 = some p.2) && flatB p.2
theorem dues : allq dueC = true := by decide +kernel
theorem due_at {q : Nat} (hq : q ∈ flds) : (cntK q (q - 1)).length = (mergeK [] (dueK q (q - 1))).length ∧ ∀ p ∈ cntK q (q - 1), valV (mergeK [] (dueK q (q - 1))) p.1 = some p.2 ∧ flatB p.2 = true := by
  have h := allq_at dues hq
  unfold dueC at h
  simp only [Bool.and_eq_true, decide_eq_true_eq, List.all_eq_true] at h
  exact h
theorem dueK_len {q : Nat} : ∀ i, (dueK q i).length ≤ i
  | 0 => Nat.le_refl _
  | i + 1 => by
    have := dueK_len (q := q) i
    unfold dueK
    split
    · rw [List.length_append, List.length_cons, List.length_nil]
      omega
    · omega
end Ka
namespace Ka
open PySem L2
def spOrders : Sp := fun vs H Q _ => ∃ (F : Addr) (q : Nat), q ∈ flds ∧ vs = [.ref F] ∧ FieldAt H F q ∧ ∀ H', Same H H' → Q (.bl true) H'
/-- the pairs (n, count) that stand in the list -/
def PairsAt (K : PySem.W.Frag) (H : Hp) (ps : List Addr) (kvs : List (Key × V)) : Prop := Paired (fun p (kv : Key × V) => SqT K H p [kV kv.1, kv.2]) ps kvs
theorem SqT.keep {K : PySem.W.Frag} {H H' : Hp} {a : Addr} {xs : List V} (s : ∀ b o, H b = some o → (∀ l, o ≠ .lst l) → H' b = some o) (h : SqT K H a xs) : SqT K H' a xs := by
  rcases h with (h | ⟨o, h⟩) | h
  · exact .inl (.inl (s _ _ h fun l z => by cases z))
  · exact .inl (.inr ⟨o, s _ _ h fun l z => by cases z⟩)
  · exact .inr h
theorem PairsAt.keep {K : PySem.W.Frag} {H H' : Hp} {ps : List Addr} {kvs : List (Key × V)} (s : ∀ b o, H b = some o → (∀ l, o ≠ .lst l) → H' b = some o) (h : PairsAt K H ps kvs) : PairsAt K H' ps kvs := by
  unfold PairsAt at *
  induction h with
  | nil => exact .nil
  | cons r _ ih => exact .cons (SqT.keep s r) ih
theorem PairsAt.snoc {K : PySem.W.Frag} {H : Hp} {ps : List Addr} {kvs : List (Key × V)} {p : Addr} {kv : Key × V} (h : PairsAt K H ps kvs) (r : SqT K H p [kV kv.1, kv.2]) : PairsAt K H (ps ++ [p]) (kvs ++ [kv]) := by
  unfold PairsAt at *
  induction h with
  | nil => exact .cons r .nil
  | cons a _ ih => exact .cons a ih
theorem PairsAt.len {K : PySem.W.Frag} {H : Hp} {ps : List Addr} {kvs : List (Key × V)} (h : PairsAt K H ps kvs) : ps.length = kvs.length := by
  unfold PairsAt at h
  induction h with
  | nil => rfl
  | cons _ _ ih => rw [List.length_cons, List.length_cons, ih]
/-- the comprehension that is handed to dict -/
def dueE (st : Stmt) : Expr := match asgE st with
  | .Call _ (e :: _) _ _ => e
  | e => e
def eltE : Expr → Expr
  | .ListComp e _ _ _ => e
  | e => e
def scDue : Scope := lcSc (dueE (stAt sOrders 2))
abbrev lenR (K : PySem.W.Frag) : List V → Hp → VK → Prop := fun xs H Q => ∃ p ys, xs = [.ref p] ∧ (SqL K H p ys ∨ SqT K H p ys) ∧ Q (.int ys.length) H
abbrev tIn : TE := tLc (iRng2 (tCons (tC (.int 1)) (tCons (tOp (rI0 fun i j => .int (i + j)) (tVar 6) (tC (.int 1))) tNil))) (gName 7) (tTest (tOp rEq (tCall spShared [] E0 (tCons (tVar 7) (tCons (tVar 6) tNil))) (tC (.int 1)))) (tVar 7) [7]
abbrev tPair (K : PySem.W.Frag) : TE := tTup (tCons (tVar 6) (tCons (tCB (lenR K) (tCons tIn tNil)) tNil))
section
variable {P : Program} {w : World} {K : PySem.W.Frag} {mg : Str → Option Value} {base : Heap} {f : Addr} {fd : FuncData}
abbrev nOrders : List Str := ["_law_field_here", "_law_q", "_law_counts", "_law_one", "_law_size", "_law_due", "_law_n", "_law_i"]
theorem scOrders : FnScope nOrders ["_law_field_here"] (defScope sOrders) := ⟨rfl, rfl, rfl, by decide +kernel, rfl, by decide +kernel, by decide +kernel⟩
theorem ok_orders (F : Fun K "_law_orders_right" "_law_orders_right" sOrders f fd) (T : Free mg) (cW : Cl P w K mg base 1 "_law_walk" spWalk) (cS : Cl P w K mg base 1 "_law_shared" spShared) (cO : Cl P w K mg base 6 "element_order" spOrd) :
    FnOk P w K mg base CX0 7 f fd ["_law_field_here"] spOrders := by
  have nd := scOrders.nd
  refine F.ok scOrders (fun vs H Q E h => ?_) (fun cdv A outer s H vs Q E hr h => ?_)
  · obtain ⟨Fa, q, _, rfl, _⟩ := h
    rfl
  · obtain ⟨Fa, q, hq, rfl, hF, k⟩ := h
    have hu := hu_of hr
    have q9 := flds_le hq
    refine ⟨_, pss_cons (ps_asg (pe_tup (pa_cons (pe_dget hu (pv 0) pe_str (fun _ _ => rfl)) (pa_cons pe_dnewK pa_nil))) (pg_tup (by rfl) (pgs_cons (pg_name (i := 1) nd rfl (.inr rfl)) (pgs_cons (pg_name (i := 2) nd rfl (.inl rfl)) pgs_nil))))
      (pss_cons (ps_for PassesOwn.never rfl (pi_range2 rfl T.range (pa_cons pe_int (pa_cons (pv 1) pa_nil))) (pg_name (i := 3) nd rfl (.inl rfl))
        (pss_cons (ps_set (i := 4) nd rfl (.inl rfl) (pe_callB call_len_seq (by rfl) T.len PySem.boot_len (pa_cons (pe_cl cW hr (by decide) (by rfl) (pa_cons (pv 0) (pa_cons (pv 3) pa_nil))) pa_nil)))
        (pss_cons (ps_if (PW.pt (pw_or (pt_cmpR op_ne (pe_cl cO hr (by decide) (by rfl) (pa_cons (pv 1) (pa_cons (pv 3) pa_nil))) (pv 4) (nomark _)) (pw_or1 (pt_cmpR op_ne (pe_op op_mod (pe_op op_sub (pv 1) pe_int) (pv 4)) pe_int (nomark _))))) (pss_one (ps_ret pe_bl)) pss_nil)
        (pss_one (ps_asg (pe_op op_add (pe_dget2 hu (pv 2) (pv 4) pe_int ⟨rfl, rfl, rfl, rfl⟩) pe_int) (pg_sub (pv 2) (pv 4) (set_dict hu)))))))
      (pss_cons (ps_set (i := 5) nd rfl (.inl rfl) (pe_callTy (call_dictP rfl) (by rfl) T.dict PyProof.Rows.boot_dict (pa_cons
        (pe_lc (own := [("_law_n", 6)]) (g := gName 6) (tt := tTest (tOp rEq (tOp (rI (fun _ j => 0 < j) fun i j => .int (i % j)) (tOp (rI0 fun i j => .int (i - j)) (tVar 1) (tC (.int 1))) (tVar 6)) (tC (.int 0)))) (te := tPair K) (by rfl) nd
          (pi_range2 rfl T.range (pa_cons pe_int (pa_cons (pv 1) pa_nil))) (blkOk_by (N := nOrders) (sc := defScope sOrders) (own := [("_law_n", 6)]) (by decide +kernel)) (fun _ _ _ _ _ => pg_name (i := 6) nd rfl (.inr rfl))
          (fun _ _ _ _ _ => pts_one (pt_cmpR op_eq (pe_op op_mod (pe_op op_sub (pv 1) pe_int) (pv 6)) pe_int (nomark _)))
          (fun _ _ _ _ _ => pe_tup (pa_cons (pv 6) (pa_cons (pe_callB call_len_seq (by rfl) T.len PySem.boot_len (pa_cons
            (pe_lc (own := [("_law_i", 7)]) (g := gName 7) (tt := tTest (tOp rEq (tCall spShared [] E0 (tCons (tVar 7) (tCons (tVar 6) tNil))) (tC (.int 1)))) (te := tVar 7) (by rfl) nd (pi_range2 rfl T.range (pa_cons pe_int (pa_cons (pe_op op_add (pv 6) pe_int) pa_nil)))
              (blkOk_by (N := nOrders) (sc := relS scDue (defScope sOrders)) (own := [("_law_i", 7)]) (by decide +kernel)) (fun _ _ _ _ _ => pg_name (i := 7) nd rfl (.inl rfl))
              (fun _ _ _ _ _ => pts_one (pt_cmpR op_eq (pe_cl cS hr (by decide) (by rfl) (pa_cons (pv 7) (pa_cons (pv 6) pa_nil))) pe_int (nomark _)))
              (fun _ _ _ _ _ => pv 7)) pa_nil)) pa_nil)))) pa_nil)))
      (pss_one (ps_ret (pe_cmpR (op_eq_dictA (Nat.lt_of_succ_lt hu)) (pv 2) (pv 5) (nomark _)))))), ?_⟩
    obtain ⟨kvs, aM, rows, f1, f2, f3, f4⟩ := hF.ex
    have g := DGet.k (H := H) (k := (Sum.inr "q" : Key)) f1
    rw [f2] at g
    refine ⟨_, rfl, Fa, _, rfl, g, fun C hC => ⟨(by show 2 ≤ sizeLine; decide), fun t ht => ?_⟩⟩
    have sA : Same H (upd H C (.dK [])) := sameNew hC
    have nt : H t = none := sA.free ht
    have ntC : C ≠ t := ne_of_none (show upd H C (.dK []) C = some (.dK []) from upd_same) ht
    have eC : upd (upd H C (.dK [])) t (.tup [V.int (q : Int), V.ref C]) C = some (.dK []) := by
      rw [upd_ne ntC]
      exact upd_same
    have sB : Same H (upd (upd H C (.dK [])) t (.tup [V.int (q : Int), V.ref C])) := sameSet sA nt
    refine ⟨t, _, rfl, SqT.of upd_same, rfl, _, _, rfl, _, _, rfl, rfl, ?_⟩
    generalize upd (upd H C (.dK [])) t (.tup [V.int (q : Int), V.ref C]) = HB at *
    refine ⟨_, rfl, 1, (q : Int), rfl, ⟨by omega, by omega, by omega, by omega⟩, ?_⟩
    have en : ((q : Int) - 1).toNat = q - 1 := by omega
    refine for_range (n := ((q : Int) - 1).toNat) (fun i σ H2 => ∃ y z, σ = [some (.ref Fa), some (.int (q : Int)), some (.ref C), y, z, none, none, none] ∧ Same H H2 ∧ H2 C = some (.dK (cntK q i))) ⟨none, none, rfl, sB, eC⟩ ?_ ?_
    · rintro i σ H2 hi ⟨y, z, rfl, s2, h2⟩
      rw [en] at hi
      have ei : (1 : Int) + (i : Int) = ((i + 1 : Nat) : Int) := by omega
      rw [ei]
      obtain ⟨⟨o1, o2, o3, _⟩, _⟩ := unit_at hq (e := i + 1) (by omega) (by omega)
      refine ⟨_, rfl, _, rfl, Fa, q, i + 1, hq, by omega, by omega, rfl, hF.same s2, fun L H3 s3 nL hL => ?_⟩
      have el : ((nV (walkL q (i + 1))).length : Int) = (ord q (i + 1) : Int) := by
        rw [nV_len]
        unfold walkL
        rw [List.length_map, List.length_range]
      refine ⟨L, _, rfl, .inl (SqL.of hL), ?_⟩
      rw [el]
      refine ⟨_, rfl, _, rfl, q, i + 1, hq, by omega, by omega, rfl, _, rfl, rfl, _, rfl, ?_⟩
      rw [decide_eq_true rfl]
      refine iteF ⟨_, rfl, (q : Int), 1, rfl, rfl, _, rfl, _, _, rfl, rfl, (by show (0 : Int) < (ord q (i + 1) : Int); omega), rfl, _, rfl, ?_⟩
      have em : ((q : Int) - 1) % (ord q (i + 1) : Int) = 0 := by
        have h1 : (q : Int) - 1 = ((q - 1 : Nat) : Int) := by omega
        rw [h1, ← Int.natCast_emod, o3]
        rfl
      have dm : decide (V.int (((q : Int) - 1) % (ord q (i + 1) : Int)) = V.int 0) = true := decide_eq_true (by rw [em])
      dsimp only
      rw [dm]
      have h3 := s3 _ _ h2
      obtain ⟨c1, c2⟩ := cnt_at hq hi
      refine iteF ⟨_, rfl, C, rfl, .inl ⟨_, .of h3⟩, _, rfl, _, DGet.k (k := (Sum.inl (ord q (i + 1) : Int) : Key)) h3, _, 1, c1, rfl, _, rfl, _, rfl, C, _, rfl, DPut.k (k := (Sum.inl (ord q (i + 1) : Int) : Key)) h3 (small1000 (by omega)), ?_⟩
      exact ⟨_, _, rfl, sameSet (s2.trans s3) hC, upd_same⟩
    · rintro σ H2 ⟨y, z, rfl, s2, h2⟩
      rw [en] at h2
      refine ⟨_, rfl, 1, (q : Int), rfl, ⟨by omega, by omega, by omega, by omega⟩, fun L hL => ?_⟩
      refine lc_range (n := ((q : Int) - 1).toNat) (fun i H3 => ∃ ps, Same H2 H3 ∧ H3 L = some (.lst (ps.map V.ref)) ∧ PairsAt K H3 ps (dueK q i)) ⟨[], sameNew hL, upd_same, .nil⟩ ?_ ?_
      · rintro i H3 hi ⟨ps, s3, h3, p3⟩
        rw [en] at hi
        have ei : (1 : Int) + (i : Int) = ((i + 1 : Nat) : Int) := by omega
        rw [ei]
        refine ⟨rfl, _, rfl, (q : Int), 1, rfl, rfl, _, rfl, _, _, rfl, rfl, (by show (0 : Int) < ((i + 1 : Nat) : Int); omega), rfl, _, rfl, ?_⟩
        have em : ((q : Int) - 1) % ((i + 1 : Nat) : Int) = (((q - 1) % (i + 1) : Nat) : Int) := by
          have h1 : (q : Int) - 1 = ((q - 1 : Nat) : Int) := by omega
          rw [h1, ← Int.natCast_emod]
        dsimp only
        by_cases c : (q - 1) % (i + 1) = 0
        · have ed : dueK q (i + 1) = dueK q i ++ [((Sum.inl ((i + 1 : Nat) : Int) : Key), .int (phiN (i + 1) (i + 1) : Int))] := by
            rw [dueK, if_pos c]
          have dm : decide (V.int (((q : Int) - 1) % ((i + 1 : Nat) : Int)) = V.int 0) = true := decide_eq_true (by rw [em, c]; rfl)
          rw [dm]
          refine iteT ⟨_, rfl, _, rfl, ((i + 1 : Nat) : Int), 1, rfl, rfl, 1, _, rfl, ⟨by omega, by omega, by omega, by omega⟩, fun L2 hL2 => ?_⟩
          have en2 : (((i + 1 : Nat) : Int) + 1 - 1).toNat = i + 1 := by omega
          refine lc_range (n := (((i + 1 : Nat) : Int) + 1 - 1).toNat) (fun j H4 => ∃ l, Same H3 H4 ∧ H4 L2 = some (.lst l) ∧ l.length = phiN (i + 1) j ∧ l.length ≤ j) ⟨[], sameNew hL2, upd_same, rfl, Nat.le_refl _⟩ ?_ ?_
          · rintro j H4 hj ⟨l, s4, h4, l4, l5⟩
            rw [en2] at hj
            have ej : (1 : Int) + (j : Int) = ((j + 1 : Nat) : Int) := by omega
            rw [ej]
            refine ⟨rfl, _, rfl, _, rfl, j + 1, i + 1, rfl, rfl, _, rfl, ?_⟩
            by_cases cg : Nat.gcd (j + 1) (i + 1) = 1
            · have dg1 : decide (V.int (Nat.gcd (j + 1) (i + 1) : Int) = V.int 1) = true := decide_eq_true (by rw [cg]; rfl)
              rw [dg1]
              refine iteT ⟨_, rfl, l, h4, small1000 (by omega), _, sameSet s4 hL2, upd_same, ?_, ?_⟩
              · rw [List.length_append, l4, phiN_yes cg]
                rfl
              · rw [List.length_append]
                exact Nat.succ_le_succ l5
            · have d : decide (V.int (Nat.gcd (j + 1) (i + 1) : Int) = V.int 1) = false := decide_eq_false fun z => by
                injection z with z
                omega
              rw [d]
              exact iteF ⟨l, s4, h4, by rw [l4, phiN_no cg], by omega⟩
          · rintro H4 ⟨l, s4, h4, l4, l5⟩
            rw [en2] at l4
            refine ⟨L2, l, rfl, .inl (SqL.of h4), (by show 2 ≤ sizeLine; decide), fun p hp => ?_⟩
            rw [l4]
            have s5 : Same H4 (upd H4 p (.tup [V.int ((i + 1 : Nat) : Int), V.int (phiN (i + 1) (i + 1) : Int)])) := sameNew hp
            have e5 : upd H4 p (.tup [V.int ((i + 1 : Nat) : Int), V.int (phiN (i + 1) (i + 1) : Int)]) p = some (.tup [V.int ((i + 1 : Nat) : Int), V.int (phiN (i + 1) (i + 1) : Int)]) := upd_same
            generalize upd H4 p (.tup [V.int ((i + 1 : Nat) : Int), V.int (phiN (i + 1) (i + 1) : Int)]) = H5 at *
            have s35 := s4.trans s5
            have h5 := s35 _ _ h3
            have pl := p3.len
            have dl := dueK_len (q := q) i
            have kp : ∀ b o, H5 b = some o → (∀ l, o ≠ .lst l) → upd H5 L (.lst ((ps ++ [p]).map V.ref)) b = some o := fun b o e nl => by
              rw [upd_ne (fun z => by rw [z, h5] at e; exact nl _ (Option.some.inj e).symm)]
              exact e
            refine ⟨_, h5, (by rw [List.length_map]; exact small1000 (by omega)), ps ++ [p], sameSet (s3.trans s35) hL, ?_, ?_⟩
            · rw [upd_same, List.map_append]
              rfl
            · have q5 : PairsAt K H5 (ps ++ [p]) (dueK q (i + 1)) := by
                rw [ed]
                exact (p3.keep fun b o e _ => s35 b o e).snoc (SqT.of e5)
              have el : ps.map V.ref ++ [V.ref p] = (ps ++ [p]).map V.ref := by
                rw [List.map_append]
                rfl
              rw [el]
              exact q5.keep kp
        · have ed : dueK q (i + 1) = dueK q i := by
            rw [dueK, if_neg c]
          have d : decide (V.int (((q : Int) - 1) % ((i + 1 : Nat) : Int)) = V.int 0) = false := decide_eq_false fun z => by
            injection z with z
            rw [em] at z
            omega
          rw [d]
          exact iteF ⟨ps, s3, h3, by rw [ed]; exact p3⟩
      · rintro H3 ⟨ps, s3, h3, p3⟩
        rw [en] at p3
        refine ⟨L, ps, _, rfl, SqL.of h3, p3, fun D hD => ?_⟩
        obtain ⟨d1, d2⟩ := due_at hq
        have hC3 := s3 _ _ h2
        have nCD : C ≠ D := ne_of_none hC3 hD
        exact ⟨_, rfl, _, rfl, C, D, _, _, rfl, rfl, by rw [upd_ne nCD]; exact hC3, upd_same, d1, d2, k _ (sameSet (s2.trans s3) ((s2.trans s3).free hD))⟩
end
end Ka
namespace Ka
open PySem L2
/-- what the law's steps keep: the dice, the table, the field's things, all older things -/
structure Kept (H H2 H3 : Hp) (d T : Addr) (H' : Hp) : Prop where
  dice : DiceAt H' d
  tab : GxR.TabG H' T
  new : ∀ b o, H2 b = none → H3 b = some o → H' b = some o
  old : ∀ b o, b ≠ d → b ≠ T → H b = some o → H' b = some o
theorem tab_same {H H' : Hp} {T : Addr} (s : Same H H') (t : GxR.TabG H T) : GxR.TabG H' T := by
  obtain ⟨ps, h, ok⟩ := t
  exact ⟨ps, s _ _ h, ok⟩
theorem tab_but {H H' : Hp} {d T : Addr} (s : But d H H') (n : T ≠ d) (t : GxR.TabG H T) : GxR.TabG H' T := by
  obtain ⟨ps, h, ok⟩ := t
  exact ⟨ps, s _ _ n h, ok⟩
theorem tab_some {H : Hp} {T : Addr} (t : GxR.TabG H T) : H T ≠ none := by
  obtain ⟨ps, h, ok⟩ := t
  rw [h]
  exact fun z => by cases z
theorem tab_dice {H : Hp} {d T : Addr} (t : GxR.TabG H T) (x : DiceAt H d) : T ≠ d := by
  obtain ⟨ps, h, ok⟩ := t
  obtain ⟨l, m, c, _, e⟩ := x
  exact fun z => by
    rw [z, e] at h
    cases h
section
variable {H H2 H3 H4 H5 : Hp} {d T F : Addr} {q : Nat}
theorem Kept.same (x : Kept H H2 H3 d T H4) (s : Same H4 H5) : Kept H H2 H3 d T H5 := ⟨x.dice.same s, tab_same s x.tab, fun b o n e => s _ _ (x.new b o n e), fun b o n m e => s _ _ (x.old b o n m e)⟩
theorem Kept.but (x : Kept H H2 H3 d T H4) (nd : H2 d ≠ none) (hd : DiceAt H5 d) (s : But d H4 H5) : Kept H H2 H3 d T H5 :=
  ⟨hd, tab_but s (tab_dice x.tab x.dice) x.tab, fun b o n e => s _ _ (fun z => nd (by rw [← z]; exact n)) (x.new b o n e), fun b o n m e => s _ _ n (x.old b o n m e)⟩
theorem Kept.tabbed (x : Kept H H2 H3 d T H4) (nT : H2 T ≠ none) (s : GxR.Tabbed T H4 H5) : Kept H H2 H3 d T H5 := by
  have nd := tab_dice x.tab x.dice
  refine ⟨?_, s.1, fun b o n e => ?_, fun b o n m e => ?_⟩
  · obtain ⟨l, m, c, h0, e⟩ := x.dice
    exact ⟨l, m, c, h0, by rw [s.2 d nd.symm]; exact e⟩
  · rw [s.2 b fun z => nT (by rw [← z]; exact n)]
    exact x.new b o n e
  · rw [s.2 b m]
    exact x.old b o n m e
theorem Kept.field (x : Kept H H2 H3 d T H4) (nd : H2 d ≠ none) (f : FieldNew H2 H3 F q) : FieldBut H4 d F q := fun H' b => f H' fun c o n e => b c o (fun z => nd (by rw [← z]; exact n)) (x.new c o n e)
end
def spRight (T : Addr) : Sp := fun vs H Q _ => ∃ d : Addr, vs = [.ref d] ∧ DiceAt H d ∧ GxR.TabG H T ∧ ∀ H', GxR.TabG H' T → (∀ b o, b ≠ d → b ≠ T → H b = some o → H' b = some o) → Q (.bl true) H'
def mkU (q i : Nat) : List Nat := (List.range i).filterMap fun i => if ord q (i + 1) = q - 1 then some (i + 1) else none
theorem mkU_yes {q i : Nat} (h : ord q (i + 1) = q - 1) : mkU q (i + 1) = mkU q i ++ [i + 1] := by
  unfold mkU
  rw [List.range_succ, List.filterMap_append]
  simp [h]
theorem mkU_no {q i : Nat} (h : ¬ ord q (i + 1) = q - 1) : mkU q (i + 1) = mkU q i := by
  unfold mkU
  rw [List.range_succ, List.filterMap_append]
  simp [h]
theorem mkU_len {q : Nat} : ∀ i, (mkU q i).length ≤ i
  | 0 => Nat.le_refl _
  | i + 1 => by
    have := mkU_len (q := q) i
    by_cases h : ord q (i + 1) = q - 1
    · rw [mkU_yes h, List.length_append, List.length_cons, List.length_nil]
      omega
    · rw [mkU_no h]
      omega
/-- 1, 2, .. q - 1 -/
def upTo (q : Nat) : List Int := (List.range (q - 1)).map fun (i : Nat) => (1 : Int) + (i : Int)
theorem upTo_sorted (q : Nat) : (upTo q).Pairwise (· ≤ ·) := by
  unfold upTo
  rw [List.pairwise_map]
  refine List.Pairwise.imp ?_ (List.pairwise_lt_range (n := q - 1))
  intro a b h
  omega
theorem sorted_walk {q : Nat} {ns : List Int} (hq : q ∈ flds) (hp : ns.Perm ((walkL q (maker q)).map fun (n : Nat) => (n : Int))) (hs : ns.Pairwise (· ≤ ·)) : ns = upTo q := by
  obtain ⟨_, _, h⟩ := mak_at hq
  have h2 := h.map fun (n : Nat) => (n : Int)
  have e : ((List.range (q - 1)).map (· + 1)).map (fun (n : Nat) => (n : Int)) = upTo q := by
    unfold upTo
    rw [List.map_map]
    refine List.map_congr_left fun i _ => ?_
    show ((i + 1 : Nat) : Int) = 1 + (i : Int)
    omega
  rw [e] at h2
  exact List.Perm.eq_of_pairwise (fun a b _ _ x y => Int.le_antisymm x y) hs (upTo_sorted q) (hp.trans h2)
theorem dp_ints {K : PySem.W.Frag} {H : Hp} : ∀ l : List Int, DpAll K H (l.map V.int) (l.map PyData.int)
  | [] => .nil
  | z :: l => .cons (.int z) (dp_ints l)
def shpC (q : Nat) : Bool := SeqAt.shaped (.list ((upTo q).map PyData.int)) && PyData.eqv (.list ((upTo q).map PyData.int)) (.list ((upTo q).map PyData.int))
theorem shps : allq shpC = true := by decide +kernel
theorem shp_at {q : Nat} (hq : q ∈ flds) : SeqAt.shaped (.list ((upTo q).map PyData.int)) = true ∧ PyData.eqv (.list ((upTo q).map PyData.int)) (.list ((upTo q).map PyData.int)) = true := by
  have h := allq_at shps hq
  unfold shpC at h
  rwa [Bool.and_eq_true] at h
end Ka
namespace Ka
open PySem L2
section
variable {P : Program} {w : World} {K : PySem.W.Frag} {mg : Str → Option Value} {base : Heap} {f : Addr} {fd : FuncData}
abbrev nRight : List Str := ["_law_dice_here", "_law_field_here", "_law_q", "_law_one", "_law_makers"]
theorem scRight : FnScope nRight ["_law_dice_here"] (defScope sRight) := ⟨rfl, rfl, rfl, by decide +kernel, rfl, by decide +kernel, by decide +kernel⟩
abbrev tMk (K : PySem.W.Frag) : TT := tTest (tOp rEq (tCB (lenR K) (tCons (tCall spWalk [] E0 (tCons (tVar 1) (tCons (tVar 3) tNil))) tNil)) (tOp (rI0 fun i j => .int (i - j)) (tVar 2) (tC (.int 1))))
theorem ok_right {Tb : Addr} (F : Fun K "_law_right" "_law_right" sRight f fd) (T : Free mg) (cF : Cl P w K mg base 3 "_law_field" spField) (cN : Cl P w K mg base 2 "_law_one_of" (spOneOf K)) (cW : Cl P w K mg base 1 "_law_walk" spWalk)
    (cM : Cl P w K mg base 4 "element_maker" (spMak Tb)) (cP : Cl P w K mg base 6 "_law_powers_right" spPowers) (cO : Cl P w K mg base 7 "_law_orders_right" spOrders) : FnOk P w K mg base CX0 8 f fd ["_law_dice_here"] (spRight Tb) := by
  have nd := scRight.nd
  refine F.ok scRight (fun vs H Q E h => ?_) (fun cdv A outer s H vs Q E hr h => ?_)
  · obtain ⟨d, rfl, _⟩ := h
    rfl
  · obtain ⟨d, rfl, hd, hT, k⟩ := h
    have hu := hu_of hr
    refine ⟨_, pss_cons (ps_set (i := 1) nd rfl (.inr rfl) (pe_cl cF hr (by decide) (by rfl) (pa_cons (pe_cl cN hr (by decide) (by rfl) (pa_cons (pv 0) (pa_cons (pe_lst (pa_cons pe_int (pa_cons pe_int (pa_cons pe_int (pa_cons pe_int (pa_cons pe_int (pa_cons pe_int (pa_cons pe_int pa_nil)))))))) pa_nil))) pa_nil)))
      (pss_cons (ps_set (i := 2) nd rfl (.inr rfl) (pe_dget hu (pv 1) pe_str (fun _ _ => rfl)))
      (pss_cons (ps_setLc (i := 4) (own := [("_law_one", 3)]) (g := gName 3) (te := tVar 3) (tt := tMk K) (by rfl) nd rfl rfl (sw_true rfl rfl rfl (by decide +kernel)) (pi_range2 rfl T.range (pa_cons pe_int (pa_cons (pv 2) pa_nil))) (blkOk_by (N := nRight) (sc := defScope sRight) (own := [("_law_one", 3)]) (by decide +kernel))
        (fun _ _ _ _ _ => pg_name (i := 3) nd rfl (.inl rfl)) (fun _ _ _ _ _ => pts_one (pt_cmpR op_eq (pe_callB call_len_seq (by rfl) T.len PySem.boot_len (pa_cons (pe_cl cW hr (by decide) (by rfl) (pa_cons (pv 1) (pa_cons (pv 3) pa_nil))) pa_nil)) (pe_op op_sub (pv 2) pe_int) (nomark _)))
        (fun _ _ _ _ _ => pv 3))
      (pss_cons (ps_if (PW.pt (pw_or (pt_cmpR op_ne (pe_cl cM hr (by decide) (by rfl) (pa_cons (pv 2) pa_nil)) (pe_ix ix_list (pv 4) pe_int (fun _ _ => rfl)) (nomark _))
          (pw_or1 (pt_cmpR (op_neD hr.units) (pe_callB cr_sorted (by rfl) T.sorted PyProof.Rows.boot_sorted (pa_cons (pe_cl cW hr (by decide) (by rfl) (pa_cons (pv 1) (pa_cons (pe_ix ix_list (pv 4) pe_int (fun _ _ => rfl)) pa_nil))) pa_nil)) (pe_listRg rfl (by rfl) T.list (prg_2 (by rfl) T.range pe_int (pv 2))) (nomark _))))) (pss_one (ps_ret pe_bl)) pss_nil)
      (pss_cons (ps_for PassesOwn.never rfl (pi_range1 rfl T.range (pa_cons (pv 2) pa_nil)) (pg_name (i := 3) nd rfl (.inl rfl))
        (pss_one (ps_if (pt_not (pt_val (pe_cl cP hr (by decide) (by rfl) (pa_cons (pv 0) (pa_cons (pv 1) (pa_cons (pv 3) pa_nil)))))) (pss_one (ps_ret pe_bl)) pss_nil)))
      (pss_one (ps_ret (pe_cl cO hr (by decide) (by rfl) (pa_cons (pv 1) pa_nil)))))))), ?_⟩
    refine ⟨_, rfl, (by show 7 ≤ sizeLine; decide), fun a ha => ?_⟩
    have s1 : Same H (upd H a (.lst [V.int 2, V.int 3, V.int 4, V.int 5, V.int 7, V.int 8, V.int 9])) := sameNew ha
    have ea : upd H a (.lst [V.int 2, V.int 3, V.int 4, V.int 5, V.int 7, V.int 8, V.int 9]) a = some (.lst [V.int 2, V.int 3, V.int 4, V.int 5, V.int 7, V.int 8, V.int 9]) := upd_same
    have nad : a ≠ d := fun z => hd.some (by rw [← z]; exact ha)
    generalize upd H a (.lst [V.int 2, V.int 3, V.int 4, V.int 5, V.int 7, V.int 8, V.int 9]) = H1 at *
    refine ⟨d, a, _, rfl, hd.same s1, SqL.of ea, nad, by decide, by decide, fun r x H2 hx hd2 b2 hq2 => ?_⟩
    obtain ⟨q, hq, rfl⟩ : ∃ q : Nat, q ∈ flds ∧ x = V.int (q : Int) := by
      have hm := List.mem_of_getElem? hx
      simp only [List.mem_cons, List.not_mem_nil, or_false] at hm
      rcases hm with rfl | rfl | rfl | rfl | rfl | rfl | rfl
      · exact ⟨2, by decide, rfl⟩
      · exact ⟨3, by decide, rfl⟩
      · exact ⟨4, by decide, rfl⟩
      · exact ⟨5, by decide, rfl⟩
      · exact ⟨7, by decide, rfl⟩
      · exact ⟨8, by decide, rfl⟩
      · exact ⟨9, by decide, rfl⟩
    have q9 := flds_le hq
    have hT1 := tab_same s1 hT
    have hT2 := tab_but b2 (tab_dice hT1 (hd.same s1)) hT1
    refine ⟨q, hq, rfl, fun Fa H3 s3 nF fN => ?_⟩
    have nd2 := hd2.some
    have nT2 := tab_some hT2
    have kp3 : Kept H H2 H3 d Tb H3 := ⟨hd2.same s3, tab_same s3 hT2, fun b o _ e => e, fun b o n m e => s3 _ _ (b2 b o n (s1 b o e))⟩
    obtain ⟨kvs, aM, rows, f1, f2, f3, f4⟩ := fN.here.ex
    have g := DGet.k (H := H3) (k := (Sum.inr "q" : Key)) f1
    rw [f2] at g
    refine ⟨_, rfl, Fa, _, rfl, g, ?_⟩
    have en : ((q : Int) - 1).toNat = q - 1 := by omega
    -- the makers
    refine ⟨_, rfl, 1, (q : Int), rfl, ⟨by omega, by omega, by omega, by omega⟩, fun M hM => ?_⟩
    refine lc_range (n := ((q : Int) - 1).toNat) (fun i H4 => Same H3 H4 ∧ H4 M = some (.lst (nV (mkU q i)))) ⟨sameNew hM, upd_same⟩ ?_ ?_
    · rintro i H4 hi ⟨s4, h4⟩
      rw [en] at hi
      have ei : (1 : Int) + (i : Int) = ((i + 1 : Nat) : Int) := by omega
      rw [ei]
      refine ⟨rfl, _, rfl, _, rfl, Fa, q, i + 1, hq, by omega, by omega, rfl, fN.here.same s4, fun L H5 s5 nL hL => ?_⟩
      refine ⟨L, _, rfl, .inl (SqL.of hL), _, rfl, (q : Int), 1, rfl, rfl, rfl, _, rfl, ?_⟩
      have el : ((nV (walkL q (i + 1))).length : Int) = (ord q (i + 1) : Int) := by
        rw [nV_len]
        unfold walkL
        rw [List.length_map, List.length_range]
      rw [el]
      dsimp only
      have h5 := s5 _ _ h4
      have ml := mkU_len (q := q) i
      by_cases c : ord q (i + 1) = q - 1
      · have dm : decide (V.int (ord q (i + 1) : Int) = V.int ((q : Int) - 1)) = true := decide_eq_true (congrArg V.int (by omega))
        rw [dm]
        refine iteT ⟨_, rfl, _, h5, (by rw [nV_len]; exact small1000 (by omega)), sameSet (s4.trans s5) hM, ?_⟩
        rw [upd_same, mkU_yes c]
        unfold nV
        rw [List.map_append]
        rfl
      · have dm : decide (V.int (ord q (i + 1) : Int) = V.int ((q : Int) - 1)) = false := decide_eq_false fun z => by
          injection z with z
          omega
        rw [dm]
        exact iteF ⟨s4.trans s5, by rw [mkU_no c]; exact h5⟩
    · rintro H4 ⟨s4, h4⟩
      rw [en] at h4
      have h4 : H4 M = some (.lst (nV (makers q))) := h4
      obtain ⟨⟨m0, m1, m2, m3⟩, m4, m5⟩ := mak_at hq
      have kp4 := kp3.same s4
      -- element_maker
      refine ⟨_, rfl, q, hq, rfl, kp4.tab, fun H5 t5 => ?_⟩
      have nMT : M ≠ Tb := fun z => tab_some (tab_same s3 hT2) (by rw [← z]; exact hM)
      have h5 : H5 M = some (.lst (nV (makers q))) := by
        rw [t5.2 M nMT]
        exact h4
      have kp5 := kp4.tabbed nT2 t5
      refine ⟨_, rfl, M, _, 0, _, rfl, rfl, SqL.of h5, atI_nat (j := 0) (nV_at m3), rfl, _, rfl, ?_⟩
      rw [decide_eq_true rfl]
      refine iteF ⟨_, rfl, _, rfl, M, _, 0, _, rfl, rfl, SqL.of h5, atI_nat (j := 0) (nV_at m3), Fa, q, maker q, hq, m0, m1, rfl, (kp5.field nd2 fN).here, fun L H6 s6 nL hL => ?_⟩
      have eL : nV (walkL q (maker q)) = ((walkL q (maker q)).map fun (n : Nat) => (n : Int)).map V.int := by
        rw [List.map_map]
        rfl
      have ll : ((walkL q (maker q)).map fun (n : Nat) => (n : Int)).length < 64 := by
        unfold walkL
        rw [List.length_map, List.length_map, List.length_range]
        omega
      refine ⟨L, (walkL q (maker q)).map fun (n : Nat) => (n : Int), rfl, by rw [← eL]; exact SqL.of hL, ll, fun ns p hp hs np => ?_⟩
      have ens := sorted_walk hq hp hs
      subst ens
      refine ⟨_, rfl, 1, (q : Int), rfl, rfl, RgOk.of_le (by decide) (by omega) (by decide) (by omega), fun r1 nr => ?_⟩
      have er : rgV 1 (q : Int) = (upTo q).map V.int := by
        unfold rgV upTo
        rw [List.map_map, en]
        rfl
      obtain ⟨sh1, sh2⟩ := shp_at hq
      have npr : p ≠ r1 := ne_of_none (show upd H6 p (.lst ((upTo q).map V.int)) p = some _ from upd_same) nr
      have s7 : Same H6 (upd (upd H6 p (.lst ((upTo q).map V.int))) r1 (.lst (rgV 1 (q : Int)))) := sameSet (sameNew np) ((sameNew np).free nr)
      have ep : upd (upd H6 p (.lst ((upTo q).map V.int))) r1 (.lst (rgV 1 (q : Int))) p = some (.lst ((upTo q).map V.int)) := by
        rw [upd_ne npr]
        exact upd_same
      have e1 : upd (upd H6 p (.lst ((upTo q).map V.int))) r1 (.lst (rgV 1 (q : Int))) r1 = some (.lst ((upTo q).map V.int)) := by
        rw [upd_same, er]
      generalize upd (upd H6 p (.lst ((upTo q).map V.int))) r1 (.lst (rgV 1 (q : Int))) = H7 at *
      refine ⟨_, _, .lst (SqL.of ep) (dp_ints _), .lst (SqL.of e1) (dp_ints _), sh1, sh1, _, rfl, ?_⟩
      rw [sh2]
      have kp7 := (kp5.same s6).same s7
      refine iteF ⟨_, rfl, (q : Int), rfl, by omega, by omega, ?_⟩
      have en2 : ((q : Int)).toNat = q := by omega
      refine for_range (n := ((q : Int)).toNat) (fun i σ H8 => ∃ y, σ = [some (.ref d), some (.ref Fa), some (.int (q : Int)), y, some (.ref M)] ∧ Kept H H2 H3 d Tb H8) ⟨_, rfl, kp7⟩ ?_ ?_
      · rintro i σ H8 hi ⟨y, rfl, kp8⟩
        rw [en2] at hi
        have ei : (0 : Int) + (i : Int) = (i : Int) := by omega
        rw [ei]
        refine ⟨_, rfl, _, rfl, _, rfl, d, Fa, q, i, hq, hi, rfl, kp8.dice, kp8.field nd2 fN, fun H9 hd9 b9 => ⟨true, rfl, iteF ?_⟩⟩
        exact ⟨_, rfl, kp8.but nd2 hd9 b9⟩
      · rintro σ H8 ⟨y, rfl, kp8⟩
        refine ⟨_, rfl, Fa, q, hq, rfl, (kp8.field nd2 fN).here, fun H9 s9 => ?_⟩
        have kp9 := kp8.same s9
        exact k _ kp9.tab kp9.old
end
end Ka
namespace Ka
open PySem L2
def spLaw (K : PySem.W.Frag) (T : Addr) : Sp := fun vs H Q _ => ∃ (S : Addr) (ns : List Int), vs = [.ref S] ∧ ns.length < 1000000 ∧ SqL K H S (ns.map V.int) ∧ GxR.TabG H T ∧ ∀ H', Q (.bl true) H'
theorem seq_old {K : PySem.W.Frag} {H H1 H' : Hp} {S d T : Addr} {xs : List V} (hS : SqL K H S xs) (hT : GxR.TabG H T) (s : Same H H1) (hd : H d = none) (k : ∀ b o, b ≠ d → b ≠ T → H1 b = some o → H' b = some o) : SqL K H' S xs := by
  obtain ⟨ps, t, _⟩ := hT
  rcases hS with (e | ⟨o, e⟩) | e
  · refine .inl (.inl (k _ _ (ne_of_none e hd) (fun z => ?_) (s _ _ e)))
    rw [z, t] at e
    cases e
  · refine .inl (.inr ⟨o, k _ _ (ne_of_none e hd) (fun z => ?_) (s _ _ e)⟩)
    rw [z, t] at e
    cases e
  · exact .inr e
section
variable {P : Program} {w : World} {K : PySem.W.Frag} {mg : Str → Option Value} {base : Heap} {f : Addr} {fd : FuncData}
theorem scLaw : FnScope ["_law_script", "_law_at"] ["_law_script"] (defScope sLaw) := ⟨rfl, rfl, rfl, by decide +kernel, rfl, by decide +kernel, by decide +kernel⟩
theorem ok_law {Tb : Addr} (F : Fun K "law" "law" sLaw f fd) (T : Free mg) (cD : Cl P w K mg base 1 "_law_dice" (spDice K)) (cR : Cl P w K mg base 8 "_law_right" (spRight Tb)) : FnOk P w K mg base CX0 9 f fd ["_law_script"] (spLaw K Tb) := by
  have nd := scLaw.nd
  refine F.ok scLaw (fun vs H Q E h => ?_) (fun cdv A outer s H vs Q E hr h => ?_)
  · obtain ⟨S, ns, rfl, _⟩ := h
    rfl
  · obtain ⟨S, ns, rfl, hn, hS, hT, k⟩ := h
    refine ⟨_, pss_cons (ps_for PassesOwn.never rfl (pi_range1 rfl T.range (pa_cons (pe_callB (call_max2 rfl) (by rfl) T.max PyProof.Rows.boot_max (pa_cons pe_int (pa_cons (pe_callB (call_min2 rfl) (by rfl) T.min PyProof.Rows.boot_min (pa_cons pe_int (pa_cons (pe_callB call_len_seq (by rfl) T.len PySem.boot_len (pa_cons (pv 0) pa_nil)) pa_nil))) pa_nil))) pa_nil)) (pg_name (i := 1) nd rfl (.inl rfl))
        (pss_one (ps_if (pt_not (pt_val (pe_cl cR hr (by decide) (by rfl) (pa_cons (pe_cl cD hr (by decide) (by rfl) (pa_cons (pv 0) (pa_cons (pv 1) pa_nil))) pa_nil)))) (pss_one (ps_ret pe_bl)) pss_nil)))
      (pss_one (ps_ret pe_bl)), ?_⟩
    refine ⟨_, rfl, S, _, rfl, .inl hS, 5, _, rfl, 1, _, rfl, _, rfl, ?_⟩
    have bd : ∀ n : Nat, 0 ≤ (if (if (n : Int) < 5 then (n : Int) else 5) > 1 then (if (n : Int) < 5 then (n : Int) else 5) else 1) ∧ (if (if (n : Int) < 5 then (n : Int) else 5) > 1 then (if (n : Int) < 5 then (n : Int) else 5) else 1) ≤ 5 := fun n => by
      split <;> split <;> omega
    obtain ⟨b0, b5⟩ := bd (ns.map V.int).length
    generalize (if (if ((ns.map V.int).length : Int) < 5 then ((ns.map V.int).length : Int) else 5) > 1 then (if ((ns.map V.int).length : Int) < 5 then ((ns.map V.int).length : Int) else 5) else 1) = top at *
    refine ⟨by omega, by omega, ?_⟩
    refine for_range (n := top.toNat) (fun i σ H2 => ∃ y, σ = [some (.ref S), y] ∧ SqL K H2 S (ns.map V.int) ∧ GxR.TabG H2 Tb) ⟨_, rfl, hS, hT⟩ ?_ ?_
    · rintro i σ H2 hi ⟨y, rfl, hS2, hT2⟩
      have ei : (0 : Int) + (i : Int) = (i : Int) := by omega
      rw [ei]
      refine ⟨_, rfl, _, rfl, S, ns, i, rfl, by omega, hS2, fun d H3 s3 nd3 hd3 => ?_⟩
      refine ⟨d, rfl, hd3, tab_same s3 hT2, fun H4 t4 k4 => ⟨true, rfl, iteF ?_⟩⟩
      exact ⟨_, rfl, seq_old hS2 hT2 s3 nd3 k4, t4⟩
    · rintro σ H2 ⟨y, rfl, _, _⟩
      exact k H2
end
end Ka
namespace Ka
open PySem L2
/-- what the text's top has written of a def -/
structure DefAt (K : PySem.W.Frag) (x : Str) (st : Stmt) (f : Addr) (fd : FuncData) : Prop where
  ns : PySem.W.nsIn K mainGlobals x = some (some (.ref f))
  fn : Fun K x x st f fd
theorem DefAt.mk1 {K : PySem.W.Frag} {x : Str} {st : Stmt} {f : Addr} {oc : Value} {od an : Option Addr} {sl : Array (Option Value)} {kV dc pm cd ct : Value} (a : PySem.W.nsIn K mainGlobals x = some (some (.ref f)))
    (l : K.lookup f = some ⟨oc, od, .func (PySem.W.fnOf x x (defArgs st) (defBody st) (defScope st) .none kV dc pm an cd ct), sl⟩) (c : PySem.W.codeIn K cd x = true) (k : PySem.W.keepIn K (.ref f) = true) : DefAt K x st f (PySem.W.fnOf x x (defArgs st) (defBody st) (defScope st) .none kV dc pm an cd ct) := ⟨a, fun_mk (st := st) l c k⟩
theorem DefAt.cl {P : Program} {w : World} {K : PySem.W.Frag} {mg : Str → Option Value} {base h : Heap} {x : Str} {st : Stmt} {f : Addr} {fd : FuncData} {k : Nat} {sp : Sp} {ps : List Str} (d : DefAt K x st f fd) (X : K.In h) (G : h.Ns mainGlobals mg)
    (b : Binds K fd ps []) (F : FnOk P w K mg base CX0 k f fd ps sp) : Cl P w K mg base k x sp := ⟨f, fd, ps, F, PySem.W.mg_of X G d.ns, d.fn.kp, b⟩
/-- all that the top has written, as far as the law reaches it -/
structure Txt (K : PySem.W.Frag) (f1 f2 f3 f4 f5 f6 f7 f8 f9 f10 f11 f12 f13 f14 f15 f16 f17 f18 f19 f20 f21 f22 f23 f24 f25 f26 f27 f28 f29 : Addr) (d1 d2 d3 d4 d5 d6 d7 d8 d9 d10 d11 d12 d13 d14 d15 d16 d17 d18 d19 d20 d21 d22 d23 d24 d25 d26 d27 d28 d29 : FuncData) (c Tb aF aT : Addr) (tk : Tok) : Prop where
  D1 : DefAt K "is_whole_number" sWhole f1 d1
  D2 : DefAt K "is_integer" sInteg f2 d2
  D3 : DefAt K "is_within" sWithin f3 d3
  D4 : DefAt K "is_from_zero" sFromZ f4 d4
  D5 : DefAt K "is_field_in" sFieldIn f5 d5
  D6 : DefAt K "is_element_in" sElemIn f6 d6
  D7 : DefAt K "require_field" sReqF f7 d7
  D8 : DefAt K "require_element" sReqE f8 d8
  D9 : DefAt K "require_from_zero" sReqZ f9 d9
  D10 : DefAt K "require_other_than_zero" sReqO f10 d10
  D11 : DefAt K "element_power_in" sPowIn f11 d11
  D12 : DefAt K "element_order_in" sOrdIn f12 d12
  D13 : DefAt K "element_maker_in" sMakIn f13 d13
  D14 : DefAt K "element_power" sPow f14 d14
  D15 : DefAt K "element_order" sOrd f15 d15
  D16 : DefAt K "element_maker" sMak f16 d16
  D17 : DefAt K "_law_dice" sDice f17 d17
  D18 : DefAt K "_law_roll" sRoll f18 d18
  D19 : DefAt K "_law_one_of" sOneOf f19 d19
  D20 : DefAt K "_law_digits" sDig f20 d20
  D21 : DefAt K "_law_element_product" sProd f21 d21
  D22 : DefAt K "_law_element_sum" sSum f22 d22
  D23 : DefAt K "_law_field" sField f23 d23
  D24 : DefAt K "_law_walk" sWalk f24 d24
  D25 : DefAt K "_law_shared" sShared f25 d25
  D26 : DefAt K "_law_orders_right" sOrders f26 d26
  D27 : DefAt K "_law_powers_right" sPowers f27 d27
  D28 : DefAt K "_law_right" sRight f28 d28
  D29 : DefAt K "law" sLaw f29 d29
  z_isi : PySem.W.nsIn K mainGlobals "isinstance" = some none
  z_int : PySem.W.nsIn K mainGlobals "int" = some none
  z_bool : PySem.W.nsIn K mainGlobals "bool" = some none
  z_abs : PySem.W.nsIn K mainGlobals "abs" = some none
  z_range : PySem.W.nsIn K mainGlobals "range" = some none
  z_next : PySem.W.nsIn K mainGlobals "next" = some none
  z_len : PySem.W.nsIn K mainGlobals "len" = some none
  z_enum : PySem.W.nsIn K mainGlobals "enumerate" = some none
  z_dict : PySem.W.nsIn K mainGlobals "dict" = some none
  z_sorted : PySem.W.nsIn K mainGlobals "sorted" = some none
  z_list : PySem.W.nsIn K mainGlobals "list" = some none
  z_max : PySem.W.nsIn K mainGlobals "max" = some none
  z_min : PySem.W.nsIn K mainGlobals "min" = some none
  sixty : PySem.W.nsIn K mainGlobals "SIXTY_DIGITS" = some (some (.int big tk))
  fields : PySem.W.nsIn K mainGlobals "FIELDS" = some (some (.ref aF))
  tables : PySem.W.nsIn K mainGlobals "PRODUCT_TABLES" = some (some (.ref aT))
  fieldsB : tupB K aF (nV flds) = true
  tablesB : tabB K aT = true
  code : d13.code = .ref c
theorem law_fn {P : Program} {w : World} {K : PySem.W.Frag} {mg : Str → Option Value} {h base : Heap} {f1 f2 f3 f4 f5 f6 f7 f8 f9 f10 f11 f12 f13 f14 f15 f16 f17 f18 f19 f20 f21 f22 f23 f24 f25 f26 f27 f28 f29 : Addr} {d1 d2 d3 d4 d5 d6 d7 d8 d9 d10 d11 d12 d13 d14 d15 d16 d17 d18 d19 d20 d21 d22 d23 d24 d25 d26 d27 d28 d29 : FuncData} {c Tb aF aT : Addr} {tk : Tok} (X : K.In h) (G : h.Ns mainGlobals mg) (t : Txt K f1 f2 f3 f4 f5 f6 f7 f8 f9 f10 f11 f12 f13 f14 f15 f16 f17 f18 f19 f20 f21 f22 f23 f24 f25 f26 f27 f28 f29 d1 d2 d3 d4 d5 d6 d7 d8 d9 d10 d11 d12 d13 d14 d15 d16 d17 d18 d19 d20 d21 d22 d23 d24 d25 d26 d27 d28 d29 c Tb aF aT tk) (TB : GxR.TabB base mg c Tb)
    (b1 : Binds K d1 ["value"] []) (b2 : Binds K d2 ["value"] []) (b3 : Binds K d3 ["value", "least", "most"] []) (b4 : Binds K d4 ["value"] []) (b5 : Binds K d5 ["value"] []) (b6 : Binds K d6 ["q", "value"] []) (b7 : Binds K d7 ["q"] []) (b8 : Binds K d8 ["q", "value"] []) (b9 : Binds K d9 ["value"] []) (b10 : Binds K d10 ["q", "element"] []) (b11 : Binds K d11 ["q", "element", "k"] []) (b12 : Binds K d12 ["q", "element"] []) (b13 : Binds K d13 ["q"] []) (b14 : Binds K d14 ["q", "element", "k"] []) (b15 : Binds K d15 ["q", "element"] []) (b16 : Binds K d16 ["q"] []) (b17 : Binds K d17 ["_law_script", "_law_at"] []) (b18 : Binds K d18 ["_law_dice_here", "_law_total"] []) (b19 : Binds K d19 ["_law_dice_here", "_law_items"] []) (b20 : Binds K d20 ["_law_base", "_law_number"] []) (b21 : Binds K d21 ["_law_p", "_law_f", "_law_one", "_law_other"] []) (b22 : Binds K d22 ["_law_p", "_law_f", "_law_one", "_law_other"] []) (b23 : Binds K d23 ["_law_q"] []) (b24 : Binds K d24 ["_law_field_here", "_law_one"] []) (b25 : Binds K d25 ["_law_one", "_law_other"] []) (b26 : Binds K d26 ["_law_field_here"] []) (b27 : Binds K d27 ["_law_dice_here", "_law_field_here", "_law_one"] []) (b28 : Binds K d28 ["_law_dice_here"] []) (b29 : Binds K d29 ["_law_script"] [])
    : FnOk P w K mg base CX0 9 f29 d29 ["_law_script"] (spLaw K Tb) := by
  have T : Free mg := ⟨PySem.W.mg_none_of X G t.z_isi, PySem.W.mg_none_of X G t.z_int, PySem.W.mg_none_of X G t.z_bool, PySem.W.mg_none_of X G t.z_abs, PySem.W.mg_none_of X G t.z_range, PySem.W.mg_none_of X G t.z_next, PySem.W.mg_none_of X G t.z_len, PySem.W.mg_none_of X G t.z_enum, PySem.W.mg_none_of X G t.z_dict, PySem.W.mg_none_of X G t.z_sorted, PySem.W.mg_none_of X G t.z_list, PySem.W.mg_none_of X G t.z_max, PySem.W.mg_none_of X G t.z_min⟩
  have C : Con K mg := ⟨⟨tk, PySem.W.mg_of X G t.sixty⟩, ⟨aF, PySem.W.mg_of X G t.fields, tupB_ok t.fieldsB⟩, ⟨aT, PySem.W.mg_of X G t.tables, t.tablesB⟩⟩
  have hc := t.code
  have c1 : Cl P w K mg base 1 "is_whole_number" spWhole := t.D1.cl X G b1 (ok_whole (P := P) (w := w) (base := base) t.D1.fn T)
  have c2 : Cl P w K mg base 2 "is_integer" spInteg := t.D2.cl X G b2 (ok_integ (P := P) (w := w) (base := base) t.D2.fn T C c1)
  have c3 : Cl P w K mg base 2 "is_within" spWithin := t.D3.cl X G b3 (ok_within (P := P) (w := w) (base := base) t.D3.fn c1)
  have c4 : Cl P w K mg base 3 "is_from_zero" spInteg := t.D4.cl X G b4 (ok_fromZ (P := P) (w := w) (base := base) t.D4.fn c2)
  have c5 : Cl P w K mg base 2 "is_field_in" spFieldIn := t.D5.cl X G b5 (ok_fieldIn (P := P) (w := w) (base := base) t.D5.fn C c1)
  have c6 : Cl P w K mg base 3 "is_element_in" spElemIn := t.D6.cl X G b6 (ok_elemIn (P := P) (w := w) (base := base) t.D6.fn c3)
  have c7 : Cl P w K mg base 3 "require_field" spReqF := t.D7.cl X G b7 (ok_reqF (P := P) (w := w) (base := base) t.D7.fn c5)
  have c8 : Cl P w K mg base 4 "require_element" spReqE := t.D8.cl X G b8 (ok_reqE (P := P) (w := w) (base := base) t.D8.fn c6)
  have c9 : Cl P w K mg base 4 "require_from_zero" spReqZ := t.D9.cl X G b9 (ok_reqZ (P := P) (w := w) (base := base) t.D9.fn c4)
  have c10 : Cl P w K mg base 5 "require_other_than_zero" spReqO := t.D10.cl X G b10 (ok_reqO (P := P) (w := w) (base := base) t.D10.fn c7 c8)
  have c11 : Cl P w K mg base 1 "element_power_in" spPow := t.D11.cl X G b11 (ok_powIn (P := P) (w := w) (base := base) t.D11.fn T C)
  have c12 : Cl P w K mg base 1 "element_order_in" spOrd := t.D12.cl X G b12 (ok_ordIn (P := P) (w := w) (base := base) t.D12.fn C)
  have c13 : Cl P w K mg base 3 "element_maker_in" (spMak Tb) := t.D13.cl X G b13 (ok_makIn (P := P) (w := w) (base := base) t.D13.fn hc TB T c12)
  have c14 : Cl P w K mg base 5 "element_power" spPow := t.D14.cl X G b14 (ok_pow (P := P) (w := w) (base := base) t.D14.fn c7 c8 c9 c11)
  have c15 : Cl P w K mg base 6 "element_order" spOrd := t.D15.cl X G b15 (ok_ord (P := P) (w := w) (base := base) t.D15.fn c10 c12)
  have c16 : Cl P w K mg base 4 "element_maker" (spMak Tb) := t.D16.cl X G b16 (ok_mak (P := P) (w := w) (base := base) t.D16.fn c7 c13)
  have c17 : Cl P w K mg base 1 "_law_dice" (spDice K) := t.D17.cl X G b17 (ok_dice (P := P) (w := w) (base := base) t.D17.fn T)
  have c18 : Cl P w K mg base 1 "_law_roll" spRoll := t.D18.cl X G b18 (ok_roll (P := P) (w := w) (base := base) t.D18.fn T)
  have c19 : Cl P w K mg base 2 "_law_one_of" (spOneOf K) := t.D19.cl X G b19 (ok_oneOf (P := P) (w := w) (base := base) t.D19.fn T c18)
  have c20 : Cl P w K mg base 1 "_law_digits" spDig := t.D20.cl X G b20 (ok_dig (P := P) (w := w) (base := base) t.D20.fn)
  have c21 : Cl P w K mg base 2 "_law_element_product" spProd := t.D21.cl X G b21 (ok_prod (P := P) (w := w) (base := base) t.D21.fn T c20)
  have c22 : Cl P w K mg base 1 "_law_element_sum" spSum := t.D22.cl X G b22 (ok_sum (P := P) (w := w) (base := base) t.D22.fn T)
  have c23 : Cl P w K mg base 3 "_law_field" spField := t.D23.cl X G b23 (ok_field (P := P) (w := w) (base := base) t.D23.fn T c22 c21)
  have c24 : Cl P w K mg base 1 "_law_walk" spWalk := t.D24.cl X G b24 (ok_walk (P := P) (w := w) (base := base) t.D24.fn)
  have c25 : Cl P w K mg base 1 "_law_shared" spShared := t.D25.cl X G b25 (ok_shared (P := P) (w := w) (base := base) t.D25.fn)
  have c26 : Cl P w K mg base 7 "_law_orders_right" spOrders := t.D26.cl X G b26 (ok_orders (P := P) (w := w) (base := base) t.D26.fn T c24 c25 c15)
  have c27 : Cl P w K mg base 6 "_law_powers_right" spPowers := t.D27.cl X G b27 (ok_powers (P := P) (w := w) (base := base) t.D27.fn T c24 c18 c14)
  have c28 : Cl P w K mg base 8 "_law_right" (spRight Tb) := t.D28.cl X G b28 (ok_right (P := P) (w := w) (base := base) t.D28.fn T c23 c19 c24 c16 c27 c26)
  exact ok_law (P := P) (w := w) (base := base) t.D29.fn T c17 c28
theorem all_mk {P : Program} {w : World} {K : PySem.W.Frag} {h : Heap} {mg : Str → Option Value} {fa c Tb aF aT : Addr} {tk : Tok} {f1 f2 f3 f4 f5 f6 f7 f8 f9 f10 f11 f12 f13 f14 f15 f16 f17 f18 f19 f20 f21 f22 f23 f24 f25 f26 f27 f28 f29 : Addr} (X : K.In h) (G : h.Ns mainGlobals mg) (hfa : mg "law" = some (.ref fa))
    {odc : Option Addr} {slc : Array (Option Value)} {occ : Value} {vs : Array Value}
    {od1 an1 od2 an2 od3 an3 od4 an4 od5 an5 od6 an6 od7 an7 od8 an8 od9 an9 od10 an10 od11 an11 od12 an12 od13 an13 od14 an14 od15 an15 od16 an16 od17 an17 od18 an18 od19 an19 od20 an20 od21 an21 od22 an22 od23 an23 od24 an24 od25 an25 od26 an26 od27 an27 od28 an28 od29 an29 : Option Addr} {sl1 sl2 sl3 sl4 sl5 sl6 sl7 sl8 sl9 sl10 sl11 sl12 sl13 sl14 sl15 sl16 sl17 sl18 sl19 sl20 sl21 sl22 sl23 sl24 sl25 sl26 sl27 sl28 sl29 : Array (Option Value)} {oc1 kV1 dc1 pm1 cd1 ct1 oc2 kV2 dc2 pm2 cd2 ct2 oc3 kV3 dc3 pm3 cd3 ct3 oc4 kV4 dc4 pm4 cd4 ct4 oc5 kV5 dc5 pm5 cd5 ct5 oc6 kV6 dc6 pm6 cd6 ct6 oc7 kV7 dc7 pm7 cd7 ct7 oc8 kV8 dc8 pm8 cd8 ct8 oc9 kV9 dc9 pm9 cd9 ct9 oc10 kV10 dc10 pm10 cd10 ct10 oc11 kV11 dc11 pm11 cd11 ct11 oc12 kV12 dc12 pm12 cd12 ct12 oc13 kV13 dc13 pm13 cd13 ct13 oc14 kV14 dc14 pm14 cd14 ct14 oc15 kV15 dc15 pm15 cd15 ct15 oc16 kV16 dc16 pm16 cd16 ct16 oc17 kV17 dc17 pm17 cd17 ct17 oc18 kV18 dc18 pm18 cd18 ct18 oc19 kV19 dc19 pm19 cd19 ct19 oc20 kV20 dc20 pm20 cd20 ct20 oc21 kV21 dc21 pm21 cd21 ct21 oc22 kV22 dc22 pm22 cd22 ct22 oc23 kV23 dc23 pm23 cd23 ct23 oc24 kV24 dc24 pm24 cd24 ct24 oc25 kV25 dc25 pm25 cd25 ct25 oc26 kV26 dc26 pm26 cd26 ct26 oc27 kV27 dc27 pm27 cd27 ct27 oc28 kV28 dc28 pm28 cd28 ct28 oc29 kV29 dc29 pm29 cd29 ct29 : Value}
    (a1 : PySem.W.nsIn K mainGlobals "is_whole_number" = some (some (.ref f1))) (l1 : K.lookup f1 = some ⟨oc1, od1, .func (PySem.W.fnOf "is_whole_number" "is_whole_number" (defArgs sWhole) (defBody sWhole) (defScope sWhole) .none kV1 dc1 pm1 an1 cd1 ct1), sl1⟩) (c1 : PySem.W.codeIn K cd1 "is_whole_number" = true) (k1 : PySem.W.keepIn K (.ref f1) = true)
    (a2 : PySem.W.nsIn K mainGlobals "is_integer" = some (some (.ref f2))) (l2 : K.lookup f2 = some ⟨oc2, od2, .func (PySem.W.fnOf "is_integer" "is_integer" (defArgs sInteg) (defBody sInteg) (defScope sInteg) .none kV2 dc2 pm2 an2 cd2 ct2), sl2⟩) (c2 : PySem.W.codeIn K cd2 "is_integer" = true) (k2 : PySem.W.keepIn K (.ref f2) = true)
    (a3 : PySem.W.nsIn K mainGlobals "is_within" = some (some (.ref f3))) (l3 : K.lookup f3 = some ⟨oc3, od3, .func (PySem.W.fnOf "is_within" "is_within" (defArgs sWithin) (defBody sWithin) (defScope sWithin) .none kV3 dc3 pm3 an3 cd3 ct3), sl3⟩) (c3 : PySem.W.codeIn K cd3 "is_within" = true) (k3 : PySem.W.keepIn K (.ref f3) = true)
    (a4 : PySem.W.nsIn K mainGlobals "is_from_zero" = some (some (.ref f4))) (l4 : K.lookup f4 = some ⟨oc4, od4, .func (PySem.W.fnOf "is_from_zero" "is_from_zero" (defArgs sFromZ) (defBody sFromZ) (defScope sFromZ) .none kV4 dc4 pm4 an4 cd4 ct4), sl4⟩) (c4 : PySem.W.codeIn K cd4 "is_from_zero" = true) (k4 : PySem.W.keepIn K (.ref f4) = true)
    (a5 : PySem.W.nsIn K mainGlobals "is_field_in" = some (some (.ref f5))) (l5 : K.lookup f5 = some ⟨oc5, od5, .func (PySem.W.fnOf "is_field_in" "is_field_in" (defArgs sFieldIn) (defBody sFieldIn) (defScope sFieldIn) .none kV5 dc5 pm5 an5 cd5 ct5), sl5⟩) (c5 : PySem.W.codeIn K cd5 "is_field_in" = true) (k5 : PySem.W.keepIn K (.ref f5) = true)
    (a6 : PySem.W.nsIn K mainGlobals "is_element_in" = some (some (.ref f6))) (l6 : K.lookup f6 = some ⟨oc6, od6, .func (PySem.W.fnOf "is_element_in" "is_element_in" (defArgs sElemIn) (defBody sElemIn) (defScope sElemIn) .none kV6 dc6 pm6 an6 cd6 ct6), sl6⟩) (c6 : PySem.W.codeIn K cd6 "is_element_in" = true) (k6 : PySem.W.keepIn K (.ref f6) = true)
    (a7 : PySem.W.nsIn K mainGlobals "require_field" = some (some (.ref f7))) (l7 : K.lookup f7 = some ⟨oc7, od7, .func (PySem.W.fnOf "require_field" "require_field" (defArgs sReqF) (defBody sReqF) (defScope sReqF) .none kV7 dc7 pm7 an7 cd7 ct7), sl7⟩) (c7 : PySem.W.codeIn K cd7 "require_field" = true) (k7 : PySem.W.keepIn K (.ref f7) = true)
    (a8 : PySem.W.nsIn K mainGlobals "require_element" = some (some (.ref f8))) (l8 : K.lookup f8 = some ⟨oc8, od8, .func (PySem.W.fnOf "require_element" "require_element" (defArgs sReqE) (defBody sReqE) (defScope sReqE) .none kV8 dc8 pm8 an8 cd8 ct8), sl8⟩) (c8 : PySem.W.codeIn K cd8 "require_element" = true) (k8 : PySem.W.keepIn K (.ref f8) = true)
    (a9 : PySem.W.nsIn K mainGlobals "require_from_zero" = some (some (.ref f9))) (l9 : K.lookup f9 = some ⟨oc9, od9, .func (PySem.W.fnOf "require_from_zero" "require_from_zero" (defArgs sReqZ) (defBody sReqZ) (defScope sReqZ) .none kV9 dc9 pm9 an9 cd9 ct9), sl9⟩) (c9 : PySem.W.codeIn K cd9 "require_from_zero" = true) (k9 : PySem.W.keepIn K (.ref f9) = true)
    (a10 : PySem.W.nsIn K mainGlobals "require_other_than_zero" = some (some (.ref f10))) (l10 : K.lookup f10 = some ⟨oc10, od10, .func (PySem.W.fnOf "require_other_than_zero" "require_other_than_zero" (defArgs sReqO) (defBody sReqO) (defScope sReqO) .none kV10 dc10 pm10 an10 cd10 ct10), sl10⟩) (c10 : PySem.W.codeIn K cd10 "require_other_than_zero" = true) (k10 : PySem.W.keepIn K (.ref f10) = true)
    (a11 : PySem.W.nsIn K mainGlobals "element_power_in" = some (some (.ref f11))) (l11 : K.lookup f11 = some ⟨oc11, od11, .func (PySem.W.fnOf "element_power_in" "element_power_in" (defArgs sPowIn) (defBody sPowIn) (defScope sPowIn) .none kV11 dc11 pm11 an11 cd11 ct11), sl11⟩) (c11 : PySem.W.codeIn K cd11 "element_power_in" = true) (k11 : PySem.W.keepIn K (.ref f11) = true)
    (a12 : PySem.W.nsIn K mainGlobals "element_order_in" = some (some (.ref f12))) (l12 : K.lookup f12 = some ⟨oc12, od12, .func (PySem.W.fnOf "element_order_in" "element_order_in" (defArgs sOrdIn) (defBody sOrdIn) (defScope sOrdIn) .none kV12 dc12 pm12 an12 cd12 ct12), sl12⟩) (c12 : PySem.W.codeIn K cd12 "element_order_in" = true) (k12 : PySem.W.keepIn K (.ref f12) = true)
    (a13 : PySem.W.nsIn K mainGlobals "element_maker_in" = some (some (.ref f13))) (l13 : K.lookup f13 = some ⟨oc13, od13, .func (PySem.W.fnOf "element_maker_in" "element_maker_in" (defArgs sMakIn) (defBody sMakIn) (defScope sMakIn) .none kV13 dc13 pm13 an13 cd13 ct13), sl13⟩) (c13 : PySem.W.codeIn K cd13 "element_maker_in" = true) (k13 : PySem.W.keepIn K (.ref f13) = true)
    (a14 : PySem.W.nsIn K mainGlobals "element_power" = some (some (.ref f14))) (l14 : K.lookup f14 = some ⟨oc14, od14, .func (PySem.W.fnOf "element_power" "element_power" (defArgs sPow) (defBody sPow) (defScope sPow) .none kV14 dc14 pm14 an14 cd14 ct14), sl14⟩) (c14 : PySem.W.codeIn K cd14 "element_power" = true) (k14 : PySem.W.keepIn K (.ref f14) = true)
    (a15 : PySem.W.nsIn K mainGlobals "element_order" = some (some (.ref f15))) (l15 : K.lookup f15 = some ⟨oc15, od15, .func (PySem.W.fnOf "element_order" "element_order" (defArgs sOrd) (defBody sOrd) (defScope sOrd) .none kV15 dc15 pm15 an15 cd15 ct15), sl15⟩) (c15 : PySem.W.codeIn K cd15 "element_order" = true) (k15 : PySem.W.keepIn K (.ref f15) = true)
    (a16 : PySem.W.nsIn K mainGlobals "element_maker" = some (some (.ref f16))) (l16 : K.lookup f16 = some ⟨oc16, od16, .func (PySem.W.fnOf "element_maker" "element_maker" (defArgs sMak) (defBody sMak) (defScope sMak) .none kV16 dc16 pm16 an16 cd16 ct16), sl16⟩) (c16 : PySem.W.codeIn K cd16 "element_maker" = true) (k16 : PySem.W.keepIn K (.ref f16) = true)
    (a17 : PySem.W.nsIn K mainGlobals "_law_dice" = some (some (.ref f17))) (l17 : K.lookup f17 = some ⟨oc17, od17, .func (PySem.W.fnOf "_law_dice" "_law_dice" (defArgs sDice) (defBody sDice) (defScope sDice) .none kV17 dc17 pm17 an17 cd17 ct17), sl17⟩) (c17 : PySem.W.codeIn K cd17 "_law_dice" = true) (k17 : PySem.W.keepIn K (.ref f17) = true)
    (a18 : PySem.W.nsIn K mainGlobals "_law_roll" = some (some (.ref f18))) (l18 : K.lookup f18 = some ⟨oc18, od18, .func (PySem.W.fnOf "_law_roll" "_law_roll" (defArgs sRoll) (defBody sRoll) (defScope sRoll) .none kV18 dc18 pm18 an18 cd18 ct18), sl18⟩) (c18 : PySem.W.codeIn K cd18 "_law_roll" = true) (k18 : PySem.W.keepIn K (.ref f18) = true)
    (a19 : PySem.W.nsIn K mainGlobals "_law_one_of" = some (some (.ref f19))) (l19 : K.lookup f19 = some ⟨oc19, od19, .func (PySem.W.fnOf "_law_one_of" "_law_one_of" (defArgs sOneOf) (defBody sOneOf) (defScope sOneOf) .none kV19 dc19 pm19 an19 cd19 ct19), sl19⟩) (c19 : PySem.W.codeIn K cd19 "_law_one_of" = true) (k19 : PySem.W.keepIn K (.ref f19) = true)
    (a20 : PySem.W.nsIn K mainGlobals "_law_digits" = some (some (.ref f20))) (l20 : K.lookup f20 = some ⟨oc20, od20, .func (PySem.W.fnOf "_law_digits" "_law_digits" (defArgs sDig) (defBody sDig) (defScope sDig) .none kV20 dc20 pm20 an20 cd20 ct20), sl20⟩) (c20 : PySem.W.codeIn K cd20 "_law_digits" = true) (k20 : PySem.W.keepIn K (.ref f20) = true)
    (a21 : PySem.W.nsIn K mainGlobals "_law_element_product" = some (some (.ref f21))) (l21 : K.lookup f21 = some ⟨oc21, od21, .func (PySem.W.fnOf "_law_element_product" "_law_element_product" (defArgs sProd) (defBody sProd) (defScope sProd) .none kV21 dc21 pm21 an21 cd21 ct21), sl21⟩) (c21 : PySem.W.codeIn K cd21 "_law_element_product" = true) (k21 : PySem.W.keepIn K (.ref f21) = true)
    (a22 : PySem.W.nsIn K mainGlobals "_law_element_sum" = some (some (.ref f22))) (l22 : K.lookup f22 = some ⟨oc22, od22, .func (PySem.W.fnOf "_law_element_sum" "_law_element_sum" (defArgs sSum) (defBody sSum) (defScope sSum) .none kV22 dc22 pm22 an22 cd22 ct22), sl22⟩) (c22 : PySem.W.codeIn K cd22 "_law_element_sum" = true) (k22 : PySem.W.keepIn K (.ref f22) = true)
    (a23 : PySem.W.nsIn K mainGlobals "_law_field" = some (some (.ref f23))) (l23 : K.lookup f23 = some ⟨oc23, od23, .func (PySem.W.fnOf "_law_field" "_law_field" (defArgs sField) (defBody sField) (defScope sField) .none kV23 dc23 pm23 an23 cd23 ct23), sl23⟩) (c23 : PySem.W.codeIn K cd23 "_law_field" = true) (k23 : PySem.W.keepIn K (.ref f23) = true)
    (a24 : PySem.W.nsIn K mainGlobals "_law_walk" = some (some (.ref f24))) (l24 : K.lookup f24 = some ⟨oc24, od24, .func (PySem.W.fnOf "_law_walk" "_law_walk" (defArgs sWalk) (defBody sWalk) (defScope sWalk) .none kV24 dc24 pm24 an24 cd24 ct24), sl24⟩) (c24 : PySem.W.codeIn K cd24 "_law_walk" = true) (k24 : PySem.W.keepIn K (.ref f24) = true)
    (a25 : PySem.W.nsIn K mainGlobals "_law_shared" = some (some (.ref f25))) (l25 : K.lookup f25 = some ⟨oc25, od25, .func (PySem.W.fnOf "_law_shared" "_law_shared" (defArgs sShared) (defBody sShared) (defScope sShared) .none kV25 dc25 pm25 an25 cd25 ct25), sl25⟩) (c25 : PySem.W.codeIn K cd25 "_law_shared" = true) (k25 : PySem.W.keepIn K (.ref f25) = true)
    (a26 : PySem.W.nsIn K mainGlobals "_law_orders_right" = some (some (.ref f26))) (l26 : K.lookup f26 = some ⟨oc26, od26, .func (PySem.W.fnOf "_law_orders_right" "_law_orders_right" (defArgs sOrders) (defBody sOrders) (defScope sOrders) .none kV26 dc26 pm26 an26 cd26 ct26), sl26⟩) (c26 : PySem.W.codeIn K cd26 "_law_orders_right" = true) (k26 : PySem.W.keepIn K (.ref f26) = true)
    (a27 : PySem.W.nsIn K mainGlobals "_law_powers_right" = some (some (.ref f27))) (l27 : K.lookup f27 = some ⟨oc27, od27, .func (PySem.W.fnOf "_law_powers_right" "_law_powers_right" (defArgs sPowers) (defBody sPowers) (defScope sPowers) .none kV27 dc27 pm27 an27 cd27 ct27), sl27⟩) (c27 : PySem.W.codeIn K cd27 "_law_powers_right" = true) (k27 : PySem.W.keepIn K (.ref f27) = true)
    (a28 : PySem.W.nsIn K mainGlobals "_law_right" = some (some (.ref f28))) (l28 : K.lookup f28 = some ⟨oc28, od28, .func (PySem.W.fnOf "_law_right" "_law_right" (defArgs sRight) (defBody sRight) (defScope sRight) .none kV28 dc28 pm28 an28 cd28 ct28), sl28⟩) (c28 : PySem.W.codeIn K cd28 "_law_right" = true) (k28 : PySem.W.keepIn K (.ref f28) = true)
    (a29 : PySem.W.nsIn K mainGlobals "law" = some (some (.ref f29))) (l29 : K.lookup f29 = some ⟨oc29, od29, .func (PySem.W.fnOf "law" "law" (defArgs sLaw) (defBody sLaw) (defScope sLaw) .none kV29 dc29 pm29 an29 cd29 ct29), sl29⟩) (c29 : PySem.W.codeIn K cd29 "law" = true) (k29 : PySem.W.keepIn K (.ref f29) = true)
    (z_isi : PySem.W.nsIn K mainGlobals "isinstance" = some none)
    (z_int : PySem.W.nsIn K mainGlobals "int" = some none)
    (z_bool : PySem.W.nsIn K mainGlobals "bool" = some none)
    (z_abs : PySem.W.nsIn K mainGlobals "abs" = some none)
    (z_range : PySem.W.nsIn K mainGlobals "range" = some none)
    (z_next : PySem.W.nsIn K mainGlobals "next" = some none)
    (z_len : PySem.W.nsIn K mainGlobals "len" = some none)
    (z_enum : PySem.W.nsIn K mainGlobals "enumerate" = some none)
    (z_dict : PySem.W.nsIn K mainGlobals "dict" = some none)
    (z_sorted : PySem.W.nsIn K mainGlobals "sorted" = some none)
    (z_list : PySem.W.nsIn K mainGlobals "list" = some none)
    (z_max : PySem.W.nsIn K mainGlobals "max" = some none)
    (z_min : PySem.W.nsIn K mainGlobals "min" = some none)
    (s60 : PySem.W.nsIn K mainGlobals "SIXTY_DIGITS" = some (some (.int big tk))) (sF : PySem.W.nsIn K mainGlobals "FIELDS" = some (some (.ref aF))) (sT : PySem.W.nsIn K mainGlobals "PRODUCT_TABLES" = some (some (.ref aT)))
    (bF : tupB K aF (nV flds) = true) (bT : tabB K aT = true)
    (cc : cd13 = .ref c) (lc : K.lookup c = some ⟨occ, odc, .fields vs, slc⟩) (vT : vs[11]? = some (.ref Tb)) (nT : K.lookup Tb = none)
    (tb : PySem.W.tabIn K "element_maker_in" = some (c, Tb) → PySem.W.CodeHd h c Tb ∧ h.get? Tb = some (PySem.W.tabObj #[])) :
    ∃ (fd : FuncData) (c Tb : Addr), (PySem.W.CodeHd h c Tb ∧ h.get? Tb = some (PySem.W.tabObj #[])) ∧ K.lookup Tb = none ∧ (∀ (s : Shared) (u : Value), BindsTo s fd ⟨[u], []⟩ [("_law_script", u)]) ∧ ∀ base : Heap, GxR.TabB base mg c Tb → FnOk P w K mg base CX0 9 fa fd ["_law_script"] (spLaw K Tb) := by
  have e := hfa.symm.trans (PySem.W.mg_of X G a29)
  cases e
  subst cc
  have ht : PySem.W.tabIn K "element_maker_in" = some (c, Tb) := by
    unfold PySem.W.tabIn
    rw [a13]
    dsimp only
    rw [l13]
    show (match K.lookup c with | some ⟨_, _, .fields vs, _⟩ => (match (vs[11]? : Option Value) with | some (.ref P) => some (c, P) | _ => none) | _ => none) = some (c, Tb)
    rw [lc]
    dsimp only
    rw [vT]
  have D1 := DefAt.mk1 (st := sWhole) a1 l1 c1 k1
  have D2 := DefAt.mk1 (st := sInteg) a2 l2 c2 k2
  have D3 := DefAt.mk1 (st := sWithin) a3 l3 c3 k3
  have D4 := DefAt.mk1 (st := sFromZ) a4 l4 c4 k4
  have D5 := DefAt.mk1 (st := sFieldIn) a5 l5 c5 k5
  have D6 := DefAt.mk1 (st := sElemIn) a6 l6 c6 k6
  have D7 := DefAt.mk1 (st := sReqF) a7 l7 c7 k7
  have D8 := DefAt.mk1 (st := sReqE) a8 l8 c8 k8
  have D9 := DefAt.mk1 (st := sReqZ) a9 l9 c9 k9
  have D10 := DefAt.mk1 (st := sReqO) a10 l10 c10 k10
  have D11 := DefAt.mk1 (st := sPowIn) a11 l11 c11 k11
  have D12 := DefAt.mk1 (st := sOrdIn) a12 l12 c12 k12
  have D13 := DefAt.mk1 (st := sMakIn) a13 l13 c13 k13
  have D14 := DefAt.mk1 (st := sPow) a14 l14 c14 k14
  have D15 := DefAt.mk1 (st := sOrd) a15 l15 c15 k15
  have D16 := DefAt.mk1 (st := sMak) a16 l16 c16 k16
  have D17 := DefAt.mk1 (st := sDice) a17 l17 c17 k17
  have D18 := DefAt.mk1 (st := sRoll) a18 l18 c18 k18
  have D19 := DefAt.mk1 (st := sOneOf) a19 l19 c19 k19
  have D20 := DefAt.mk1 (st := sDig) a20 l20 c20 k20
  have D21 := DefAt.mk1 (st := sProd) a21 l21 c21 k21
  have D22 := DefAt.mk1 (st := sSum) a22 l22 c22 k22
  have D23 := DefAt.mk1 (st := sField) a23 l23 c23 k23
  have D24 := DefAt.mk1 (st := sWalk) a24 l24 c24 k24
  have D25 := DefAt.mk1 (st := sShared) a25 l25 c25 k25
  have D26 := DefAt.mk1 (st := sOrders) a26 l26 c26 k26
  have D27 := DefAt.mk1 (st := sPowers) a27 l27 c27 k27
  have D28 := DefAt.mk1 (st := sRight) a28 l28 c28 k28
  have D29 := DefAt.mk1 (st := sLaw) a29 l29 c29 k29
  have t : Txt K _ _ _ _ _ _ _ _ _ _ _ _ _ _ _ _ _ _ _ _ _ _ _ _ _ _ _ _ _ _ _ _ _ _ _ _ _ _ _ _ _ _ _ _ _ _ _ _ _ _ _ _ _ _ _ _ _ _ c Tb aF aT tk := ⟨D1, D2, D3, D4, D5, D6, D7, D8, D9, D10, D11, D12, D13, D14, D15, D16, D17, D18, D19, D20, D21, D22, D23, D24, D25, D26, D27, D28, D29, z_isi, z_int, z_bool, z_abs, z_range, z_next, z_len, z_enum, z_dict, z_sorted, z_list, z_max, z_min, s60, sF, sT, bF, bT, rfl⟩
  refine ⟨_, c, Tb, tb ht, nT, fun s v => .of_eq rfl, fun base TB => law_fn X G t TB
    (D1.fn.binds (ps := ["value"]) fun _ _ _ _ _ _ us hl => match us, hl with | [_], _ => rfl)
    (D2.fn.binds (ps := ["value"]) fun _ _ _ _ _ _ us hl => match us, hl with | [_], _ => rfl)
    (D3.fn.binds (ps := ["value", "least", "most"]) fun _ _ _ _ _ _ us hl => match us, hl with | [_, _, _], _ => rfl)
    (D4.fn.binds (ps := ["value"]) fun _ _ _ _ _ _ us hl => match us, hl with | [_], _ => rfl)
    (D5.fn.binds (ps := ["value"]) fun _ _ _ _ _ _ us hl => match us, hl with | [_], _ => rfl)
    (D6.fn.binds (ps := ["q", "value"]) fun _ _ _ _ _ _ us hl => match us, hl with | [_, _], _ => rfl)
    (D7.fn.binds (ps := ["q"]) fun _ _ _ _ _ _ us hl => match us, hl with | [_], _ => rfl)
    (D8.fn.binds (ps := ["q", "value"]) fun _ _ _ _ _ _ us hl => match us, hl with | [_, _], _ => rfl)
    (D9.fn.binds (ps := ["value"]) fun _ _ _ _ _ _ us hl => match us, hl with | [_], _ => rfl)
    (D10.fn.binds (ps := ["q", "element"]) fun _ _ _ _ _ _ us hl => match us, hl with | [_, _], _ => rfl)
    (D11.fn.binds (ps := ["q", "element", "k"]) fun _ _ _ _ _ _ us hl => match us, hl with | [_, _, _], _ => rfl)
    (D12.fn.binds (ps := ["q", "element"]) fun _ _ _ _ _ _ us hl => match us, hl with | [_, _], _ => rfl)
    (D13.fn.binds (ps := ["q"]) fun _ _ _ _ _ _ us hl => match us, hl with | [_], _ => rfl)
    (D14.fn.binds (ps := ["q", "element", "k"]) fun _ _ _ _ _ _ us hl => match us, hl with | [_, _, _], _ => rfl)
    (D15.fn.binds (ps := ["q", "element"]) fun _ _ _ _ _ _ us hl => match us, hl with | [_, _], _ => rfl)
    (D16.fn.binds (ps := ["q"]) fun _ _ _ _ _ _ us hl => match us, hl with | [_], _ => rfl)
    (D17.fn.binds (ps := ["_law_script", "_law_at"]) fun _ _ _ _ _ _ us hl => match us, hl with | [_, _], _ => rfl)
    (D18.fn.binds (ps := ["_law_dice_here", "_law_total"]) fun _ _ _ _ _ _ us hl => match us, hl with | [_, _], _ => rfl)
    (D19.fn.binds (ps := ["_law_dice_here", "_law_items"]) fun _ _ _ _ _ _ us hl => match us, hl with | [_, _], _ => rfl)
    (D20.fn.binds (ps := ["_law_base", "_law_number"]) fun _ _ _ _ _ _ us hl => match us, hl with | [_, _], _ => rfl)
    (D21.fn.binds (ps := ["_law_p", "_law_f", "_law_one", "_law_other"]) fun _ _ _ _ _ _ us hl => match us, hl with | [_, _, _, _], _ => rfl)
    (D22.fn.binds (ps := ["_law_p", "_law_f", "_law_one", "_law_other"]) fun _ _ _ _ _ _ us hl => match us, hl with | [_, _, _, _], _ => rfl)
    (D23.fn.binds (ps := ["_law_q"]) fun _ _ _ _ _ _ us hl => match us, hl with | [_], _ => rfl)
    (D24.fn.binds (ps := ["_law_field_here", "_law_one"]) fun _ _ _ _ _ _ us hl => match us, hl with | [_, _], _ => rfl)
    (D25.fn.binds (ps := ["_law_one", "_law_other"]) fun _ _ _ _ _ _ us hl => match us, hl with | [_, _], _ => rfl)
    (D26.fn.binds (ps := ["_law_field_here"]) fun _ _ _ _ _ _ us hl => match us, hl with | [_], _ => rfl)
    (D27.fn.binds (ps := ["_law_dice_here", "_law_field_here", "_law_one"]) fun _ _ _ _ _ _ us hl => match us, hl with | [_, _, _], _ => rfl)
    (D28.fn.binds (ps := ["_law_dice_here"]) fun _ _ _ _ _ _ us hl => match us, hl with | [_], _ => rfl)
    (D29.fn.binds (ps := ["_law_script"]) fun _ _ _ _ _ _ us hl => match us, hl with | [_], _ => rfl)⟩
end Ka
namespace Ka
open PySem L2
open PySem.Spec PyProof.Rows in
/-- the law's promise at the head, the table of the maker's generator told -/
theorem law_walk {l : PySem.W.OpenLaw} {q : Program} {loose : List Str} {XP : (Str → Option Value) → Heap → Prop} {YP : World → Heap → Prop} {d : DefRec} {K : Params → PySem.W.Frag} (hn : l.most = some 63) (hdf : d.params.defaults = [])
    (kin : ∀ (w : World) (h : Heap), YP w h → (K w.params).In h) (F : ∀ (w : World) (mg mb : Str → Option Value) (fa : Addr) (h : Heap) (lo : List Str) (mean : ExcName → Option Value), Top q lo mean mg mb h → (K w.params).In h → h.Ns mainGlobals mg → mg d.name = some (.ref fa) →
      ∃ (fd : FuncData) (c Tb : Addr), (PySem.W.CodeHd h c Tb ∧ h.get? Tb = some (PySem.W.tabObj #[])) ∧ (K w.params).lookup Tb = none ∧ (∀ (s : Shared) (u : Value), BindsTo s fd ⟨[u], []⟩ [("_law_script", u)]) ∧
        ∀ base : Heap, GxR.TabB base mg c Tb → FnOk l.prog w (K w.params) mg base CX0 9 fa fd ["_law_script"] (spLaw (K w.params) Tb)) :
    PySem.W.WalkO q loose XP YP l.row.toRowW d [] fun f vs => PySem.call f vs := by
  refine Att.attach_callB hn hdf fun w s₀ s₁ mg mb fa o pm cd doc a vs ns G Y ho hd hcd hmg hobj hints hlen _ hg => ?_
  have KX := kin w _ Y
  obtain ⟨fd, c, Tb, ⟨ch, ct⟩, nT, hb, hF⟩ := F w mg mb fa _ _ _ G.T KX G.T.g hmg
  refine LamX.law_callTs (cs := [(c, Tb)]) (CX := CX0) (k := 9) (sp := spLaw (K w.params) Tb) KX G.T.g G.T.b G.T.builtins G.T.nolimit hg (fun p hp => ?_) (fun p hp => ?_) (fun p hp => ?_) G.T.bmain hobj hints (Nat.le_trans hlen (by decide)) ⟨rfl, by decide, by decide⟩ (fun base _ _ TB => ?_) hb (fun H hH hS => ?_) fun H e s' z => z
  · rw [List.mem_singleton.mp hp]
    exact ct
  · rw [List.mem_singleton.mp hp]
    exact nT
  · rw [List.mem_singleton.mp hp]
    exact ch
  · obtain ⟨t1, t2, t3⟩ := TB (c, Tb) (List.mem_singleton.mpr rfl)
    exact hF base ⟨t1, t2, t3⟩
  · exact ⟨a, ns, rfl, by omega, hS, ⟨#[], hH (c, Tb) (List.mem_singleton.mpr rfl), trivial⟩, fun _ => rfl⟩
open PySem.Spec PyProof.Rows in
theorem tab_fact {p : Program} {lo : List Str} {mean : ExcName → Option Value} {mg mb : Str → Option Value} {h : Heap} {K : PySem.W.Frag} {c Tb : Addr} {x : Str} (HT : Top p lo mean mg mb h) (KX : K.In h)
    (hr : ((recsOf p).find? fun e => e.name == x).isSome = true) (ht : PySem.W.tabIn K x = some (c, Tb)) : PySem.W.CodeHd h c Tb ∧ h.get? Tb = some (PySem.W.tabObj #[]) := by
  obtain ⟨d, hd⟩ := Option.isSome_iff_exists.mp hr
  exact PySem.W.tab_of HT KX hd ht
end Ka
open PySem PySem.W PyProof.Rows in
set_option maxRecDepth 100000 in
set_option maxHeartbeats 0 in
theorem PySem.Challenge.cw_monicsums_k01_whole_orders_and_powers_of_holds : PySem.Challenge.rw_monicsums_k01_whole_orders_and_powers_of.Holds := by
  w_on; o_law; k_head; (case hw => w_witness2)
  k_fill
  refine Ka.law_walk (l := PySem.Challenge.rw_monicsums_k01_whole_orders_and_powers_of) rfl rfl (fun w h Y => PySem.W.kIn_of Y) ?F
  case F =>
    intro w mg mb fa h lo mean HT KX G hmg
    refine' Ka.all_mk KX G hmg ?a1 ?l1 ?c1 ?k1 ?a2 ?l2 ?c2 ?k2 ?a3 ?l3 ?c3 ?k3 ?a4 ?l4 ?c4 ?k4 ?a5 ?l5 ?c5 ?k5 ?a6 ?l6 ?c6 ?k6 ?a7 ?l7 ?c7 ?k7 ?a8 ?l8 ?c8 ?k8 ?a9 ?l9 ?c9 ?k9 ?a10 ?l10 ?c10 ?k10 ?a11 ?l11 ?c11 ?k11 ?a12 ?l12 ?c12 ?k12 ?a13 ?l13 ?c13 ?k13 ?a14 ?l14 ?c14 ?k14 ?a15 ?l15 ?c15 ?k15 ?a16 ?l16 ?c16 ?k16 ?a17 ?l17 ?c17 ?k17 ?a18 ?l18 ?c18 ?k18 ?a19 ?l19 ?c19 ?k19 ?a20 ?l20 ?c20 ?k20 ?a21 ?l21 ?c21 ?k21 ?a22 ?l22 ?c22 ?k22 ?a23 ?l23 ?c23 ?k23 ?a24 ?l24 ?c24 ?k24 ?a25 ?l25 ?c25 ?k25 ?a26 ?l26 ?c26 ?k26 ?a27 ?l27 ?c27 ?k27 ?a28 ?l28 ?c28 ?k28 ?a29 ?l29 ?c29 ?k29 ?z_isi ?z_int ?z_bool ?z_abs ?z_range ?z_next ?z_len ?z_enum ?z_dict ?z_sorted ?z_list ?z_max ?z_min ?s60 ?sF ?sT ?bF ?bT ?cc ?lc ?vT ?nT ?tb
    (case a1 => k_is)
    (case l1 => k_is)
    (case c1 => k_is)
    (case k1 => k_is)
    (case a2 => k_is)
    (case l2 => k_is)
    (case c2 => k_is)
    (case k2 => k_is)
    (case a3 => k_is)
    (case l3 => k_is)
    (case c3 => k_is)
    (case k3 => k_is)
    (case a4 => k_is)
    (case l4 => k_is)
    (case c4 => k_is)
    (case k4 => k_is)
    (case a5 => k_is)
    (case l5 => k_is)
    (case c5 => k_is)
    (case k5 => k_is)
    (case a6 => k_is)
    (case l6 => k_is)
    (case c6 => k_is)
    (case k6 => k_is)
    (case a7 => k_is)
    (case l7 => k_is)
    (case c7 => k_is)
    (case k7 => k_is)
    (case a8 => k_is)
    (case l8 => k_is)
    (case c8 => k_is)
    (case k8 => k_is)
    (case a9 => k_is)
    (case l9 => k_is)
    (case c9 => k_is)
    (case k9 => k_is)
    (case a10 => k_is)
    (case l10 => k_is)
    (case c10 => k_is)
    (case k10 => k_is)
    (case a11 => k_is)
    (case l11 => k_is)
    (case c11 => k_is)
    (case k11 => k_is)
    (case a12 => k_is)
    (case l12 => k_is)
    (case c12 => k_is)
    (case k12 => k_is)
    (case a13 => k_is)
    (case l13 => k_is)
    (case c13 => k_is)
    (case k13 => k_is)
    (case a14 => k_is)
    (case l14 => k_is)
    (case c14 => k_is)
    (case k14 => k_is)
    (case a15 => k_is)
    (case l15 => k_is)
    (case c15 => k_is)
    (case k15 => k_is)
    (case a16 => k_is)
    (case l16 => k_is)
    (case c16 => k_is)
    (case k16 => k_is)
    (case a17 => k_is)
    (case l17 => k_is)
    (case c17 => k_is)
    (case k17 => k_is)
    (case a18 => k_is)
    (case l18 => k_is)
    (case c18 => k_is)
    (case k18 => k_is)
    (case a19 => k_is)
    (case l19 => k_is)
    (case c19 => k_is)
    (case k19 => k_is)
    (case a20 => k_is)
    (case l20 => k_is)
    (case c20 => k_is)
    (case k20 => k_is)
    (case a21 => k_is)
    (case l21 => k_is)
    (case c21 => k_is)
    (case k21 => k_is)
    (case a22 => k_is)
    (case l22 => k_is)
    (case c22 => k_is)
    (case k22 => k_is)
    (case a23 => k_is)
    (case l23 => k_is)
    (case c23 => k_is)
    (case k23 => k_is)
    (case a24 => k_is)
    (case l24 => k_is)
    (case c24 => k_is)
    (case k24 => k_is)
    (case a25 => k_is)
    (case l25 => k_is)
    (case c25 => k_is)
    (case k25 => k_is)
    (case a26 => k_is)
    (case l26 => k_is)
    (case c26 => k_is)
    (case k26 => k_is)
    (case a27 => k_is)
    (case l27 => k_is)
    (case c27 => k_is)
    (case k27 => k_is)
    (case a28 => k_is)
    (case l28 => k_is)
    (case c28 => k_is)
    (case k28 => k_is)
    (case a29 => k_is)
    (case l29 => k_is)
    (case c29 => k_is)
    (case k29 => k_is)
    (case z_isi => k_is)
    (case z_int => k_is)
    (case z_bool => k_is)
    (case z_abs => k_is)
    (case z_range => k_is)
    (case z_next => k_is)
    (case z_len => k_is)
    (case z_enum => k_is)
    (case z_dict => k_is)
    (case z_sorted => k_is)
    (case z_list => k_is)
    (case z_max => k_is)
    (case z_min => k_is)
    (case s60 => k_is)
    (case sF => k_is)
    (case sT => k_is)
    (case bF => kernel_rfl)
    (case bT => kernel_rfl)
    (case cc => rfl)
    (case lc => k_is)
    (case vT => rfl)
    (case nT => kernel_rfl)
    (case tb => exact Ka.tab_fact HT KX (by kernel_rfl))
