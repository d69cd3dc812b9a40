import PyProof.Rows.All
import Wide.All
import OpenK.AllK
import Wide.FinOn
import HandS.ForMost
import HandS.Steps
import HandS.Wide
import HandS.IsInst
import HandS.RevRange
import HandS.Rev
import HandS.Style
import HandS.SetFor
import HandS.ForExc
import HandS.ExcIs
import HandS.HotCalls
import HandS.Conv
import HandS.SortKw
import PySem.Challenge.RW_fewsums_k14_refused
set_option Elab.async false
set_option linter.all false
set_option maxRecDepth 100000
set_option maxHeartbeats 4000000
/-! ## Words of my own over the hand layer: readings step by step (conclusion: the reading; premises: what is left) -/
namespace Fs
open PySem PySem.Spec PyProof.Rows L2

/-- a fact that omega is not to look at -/
structure Hid (p : Prop) : Prop where
  out : p
/-! ### heaps -/
theorem same_new {H : Hp} {p : Addr} {o : HO} (h : H p = none) : Same H (upd H p o) := fun b u q => by rw [upd_ne (ne_of_none q h)]; exact q
theorem same_mut {H H' : Hp} {p : Addr} {o : HO} (e : Same H H') (h : H p = none) : Same H (upd H' p o) := fun a u ha => by
  rw [upd_ne (ne_of_none ha h)]
  exact e a u ha
theorem same_get {H H' : Hp} {a : Addr} {o : HO} (e : Same H H') (h : H a = some o) : H' a = some o := e a o h
theorem get_new {H : Hp} {a p : Addr} {o u : HO} (h : H a = some o) (hp : H p = none) : upd H p u a = some o := by
  rw [upd_ne (ne_of_none h hp)]; exact h
theorem get_ne {H : Hp} {a p : Addr} {o u : HO} (n : a ≠ p) (h : H a = some o) : upd H p u a = some o := by
  rw [upd_ne n]; exact h
theorem none_ne {H : Hp} {a p : Addr} {u : HO} (n : a ≠ p) (h : H a = none) : upd H p u a = none := by
  rw [upd_ne n]; exact h

/-! ### values of lists of ints, by place -/
/-- ns[i] as Python reads it -/
def gi (ns : List Int) (i : Int) : Int := if 0 ≤ i then ns.getD i.toNat 0 else ns.getD (i + ns.length).toNat 0
theorem gi_nat (ns : List Int) (i : Nat) : gi ns (i : Int) = ns.getD i 0 := by
  unfold gi
  rw [if_pos (by omega), Int.toNat_natCast]
theorem gi_nn {ns : List Int} {i : Int} (h : 0 ≤ i) : gi ns i = ns.getD i.toNat 0 := by
  unfold gi
  rw [if_pos h]
theorem gi_last (ns : List Int) (h : ns ≠ []) : gi ns (-1) = ns.getD (ns.length - 1) 0 := by
  have hl : 0 < ns.length := List.length_pos_iff.mpr h
  unfold gi
  rw [if_neg (by omega), show (-1 + (ns.length : Int)).toNat = ns.length - 1 by omega]
theorem getD_get {α : Type} {ns : List α} {i : Nat} (d : α) (h : i < ns.length) : ns[i]? = some (ns.getD i d) := by
  rw [List.getD_eq_getElem?_getD, List.getElem?_eq_getElem h]
  rfl
theorem atI_gi {ns : List Int} {i : Int} (h1 : -(ns.length : Int) ≤ i) (h2 : i < ns.length) : atI (ns.map V.int) i = some (.int (gi ns i)) := by
  unfold atI ixN gi
  rw [List.length_map]
  by_cases h : 0 ≤ i
  · rw [if_pos h, if_pos h2, if_pos h, Option.bind_some, List.getElem?_map, getD_get 0 (by omega)]
    rfl
  · rw [if_neg h, if_pos h1, if_neg h, Option.bind_some, List.getElem?_map, getD_get 0 (by omega)]
    rfl

section
variable {σ : L2.St} {H : Hp} {Q : VK} {K : PySem.W.Frag} {ta tb tc te : TE} {t : TA} {r r' : R2} {tt tu : TT} {QB : Bool → Hp → Prop} {QA : List V → Hp → Prop}
/-! ### expressions -/
theorem e_var {i : Nat} {v : V} (h : σ[i]? = some (some v)) (q : Q v H) : tVar i σ H Q := ⟨v, h, q⟩
theorem e_c {v : V} (q : Q v H) : tC v σ H Q := q
theorem e_op (q : ta σ H fun x H1 => tb σ H1 fun y H2 => r x y H2 Q) : tOp r ta tb σ H Q := q
theorem e_un {g : V → Hp → VK → Prop} (q : ta σ H fun x H1 => g x H1 Q) : tUn g ta σ H Q := q
theorem e_I0 {g : Int → Int → V} {i j : Int} (q : Q (g i j) H) : rI0 g (.int i) (.int j) H Q := ⟨i, j, rfl, rfl, q⟩
theorem e_I {C : Int → Int → Prop} {g : Int → Int → V} {i j : Int} (c : C i j) (q : Q (g i j) H) : rI C g (.int i) (.int j) H Q := ⟨i, j, rfl, rfl, c, q⟩
theorem e_U {g : Int → V} {i : Int} (q : Q (g i) H) : rU g (.int i) H Q := ⟨i, rfl, q⟩
theorem e_eqI {i j : Int} (q : Q (.bl (decide (i = j))) H) : rEq (.int i) (.int j) H Q := ⟨rfl, by
  rw [dec_int, Bool.beq_eq_decide_eq]
  exact q⟩
theorem e_neI {i j : Int} (q : Q (.bl (!decide (i = j))) H) : rNe (.int i) (.int j) H Q := ⟨rfl, by
  rw [dec_int, Bool.beq_eq_decide_eq]
  exact q⟩
theorem e_eqS {i j : Str} (q : Q (.bl (decide (i = j))) H) : rEq (.str i) (.str j) H Q := ⟨rfl, by
  rw [dec_str, Bool.beq_eq_decide_eq]
  exact q⟩
theorem e_neS {i j : Str} (q : Q (.bl (!decide (i = j))) H) : rNe (.str i) (.str j) H Q := ⟨rfl, by
  rw [dec_str, Bool.beq_eq_decide_eq]
  exact q⟩
theorem e_ixI {p : Addr} {ns : List Int} {i : Int} (h : SqL K H p (ns.map V.int)) (h1 : -(ns.length : Int) ≤ i) (h2 : i < ns.length) (q : Q (.int (gi ns i)) H) : rIxL K (.ref p) (.int i) H Q :=
  ⟨p, _, i, _, rfl, rfl, h, atI_gi h1 h2, q⟩
theorem e_ixV {p : Addr} {xs : List V} {i : Int} {v : V} (h : SqL K H p xs) (ha : atI xs i = some v) (q : Q v H) : rIxL K (.ref p) (.int i) H Q := ⟨p, xs, i, v, rfl, rfl, h, ha, q⟩
theorem e_ixT {p : Addr} {xs : List V} {i : Int} {v : V} (h : SqT K H p xs) (ha : atI xs i = some v) (q : Q v H) : rIxT K (.ref p) (.int i) H Q := ⟨p, xs, i, v, rfl, rfl, h, ha, q⟩
theorem e_nil (q : QA [] H) : tNil σ H QA := q
theorem e_cons (q : ta σ H fun x H1 => t σ H1 fun xs H2 => QA (x :: xs) H2) : tCons ta t σ H QA := q
/-- a new list, a new tuple -/
def NewL (Q : VK) (xs : List V) (H : Hp) : Prop := xs.length ≤ sizeLine ∧ ∀ p, H p = none → Q (.ref p) (upd H p (.lst xs))
def NewT (Q : VK) (xs : List V) (H : Hp) : Prop := xs.length ≤ sizeLine ∧ ∀ p, H p = none → Q (.ref p) (upd H p (.tup xs))
theorem e_lst (q : t σ H fun xs H1 => NewL Q xs H1) : tLst t σ H Q := q
theorem e_tup (q : t σ H fun xs H1 => NewT Q xs H1) : tTup t σ H Q := q
theorem e_cb {g : List V → Hp → VK → Prop} (q : t σ H fun vs H1 => g vs H1 Q) : tCB g t σ H Q := q
theorem e_call {sp : Sp} {E : XK} (q : t σ H fun vs H1 => sp vs H1 Q E) : tCall sp [] E t σ H Q := by
  have e : (fun (vs : List V) (H1 : Hp) => sp (vs ++ []) H1 Q E) = fun vs H1 => sp vs H1 Q E := by
    funext vs H1
    rw [List.append_nil]
  show t σ H fun vs H1 => sp (vs ++ []) H1 Q E
  rw [e]
  exact q
theorem e_bm {T : String} {g : V → List V → Hp → VK → Prop} (q : ta σ H fun x H1 => tyV K T x H1 ∧ t σ H1 fun xs H2 => g x xs H2 Q) : tBM K T g ta t σ H Q := q
theorem e_ifx (q : tt σ H fun c H1 => if c = true then ta σ H1 Q else tb σ H1 Q) : tIf tt ta tb σ H Q := q
/-- the library's rules by names -/
def rLn (K : PySem.W.Frag) : List V → Hp → VK → Prop := fun xs H Q => ∃ p ys, xs = [.ref p] ∧ (SqL K H p ys ∨ SqT K H p ys) ∧ Q (.int ys.length) H
theorem f_len {X : Cx} : CallR X (.builtin "len") (rLn X.K) := call_len_seq
def rLnS : List V → Hp → VK → Prop := fun xs H Q => ∃ z, xs = [.str z] ∧ z.length ≤ sizeLine ∧ Q (.int z.length) H
theorem f_lenS {X : Cx} : CallR X (.builtin "len") rLnS := call_len_str
def rLs (K : PySem.W.Frag) : List V → Hp → VK → Prop := fun xs H Q => ∃ p ys, xs = [.ref p] ∧ (SqL K H p ys ∨ SqT K H p ys) ∧ ∀ l, H l = none → Q (.ref l) (upd H l (.lst ys))
theorem f_list {X : Cx} : CallR X (.type "list") (rLs X.K) := call_list_of
def rInt1 : List V → Hp → VK → Prop := fun xs H Q => (∃ i, xs = [.int i] ∧ Q (.int i) H) ∨ ∃ k, xs = [.bl k] ∧ Q (.int (if k then 1 else 0)) H
theorem f_int {X : Cx} : CallR X (.type "int") rInt1 := call_int1
def rStrI : List V → Hp → VK → Prop := fun xs H Q => ∃ i : Int, xs = [.int i] ∧ i.natAbs.log2 < 1920 ∧ Q (.str (toString i)) H
theorem f_str {X : Cx} : CallR X (.type "str") rStrI := call_str_int
def rIntS : List V → Hp → VK → Prop := fun xs H Q => ∃ a n, xs = [.str a] ∧ PySem.intText? a = some n ∧ a.length ≤ 640 ∧ Q (.int n) H
theorem f_intS {X : Cx} : CallR X (.type "int") rIntS := call_int_str
def rMx : List V → Hp → VK → Prop := fun xs H Q => ∃ i j : Int, xs = [.int i, .int j] ∧ Q (.int (if j > i then j else i)) H
theorem f_max {X : Cx} (hc : X.calm = true) : CallR X (.builtin "max") rMx := call_max2 hc
def rMn : List V → Hp → VK → Prop := fun xs H Q => ∃ i j : Int, xs = [.int i, .int j] ∧ Q (.int (if j < i then j else i)) H
theorem f_min {X : Cx} (hc : X.calm = true) : CallR X (.builtin "min") rMn := call_min2 hc
theorem r_len {p : Addr} {ns : List Int} (h : SqL K H p (ns.map V.int)) (q : Q (.int (ns.length : Int)) H) : rLn K [.ref p] H Q :=
  ⟨p, _, rfl, .inl h, by
    rw [List.length_map]
    exact q⟩
theorem r_lenV {p : Addr} {xs : List V} (h : SqL K H p xs) (q : Q (.int (xs.length : Int)) H) : rLn K [.ref p] H Q := ⟨p, _, rfl, .inl h, q⟩
theorem r_lenT {p : Addr} {xs : List V} (h : SqT K H p xs) (q : Q (.int (xs.length : Int)) H) : rLn K [.ref p] H Q := ⟨p, _, rfl, .inr h, q⟩
theorem r_lenS {z : Str} (h : z.length ≤ sizeLine) (q : Q (.int (z.length : Int)) H) : rLnS [.str z] H Q := ⟨z, rfl, h, q⟩
theorem r_list {p : Addr} {xs : List V} (h : SqL K H p xs) (q : ∀ l, H l = none → Q (.ref l) (upd H l (.lst xs))) : rLs K [.ref p] H Q := ⟨p, _, rfl, .inl h, q⟩
theorem n_list {p : Addr} {xs : List V} (h : SqL K H p xs) (q : ∀ l H1, H l = none → Same H H1 → H1 l = some (.lst xs) → Q (.ref l) H1) : rLs K [.ref p] H Q := ⟨p, _, rfl, .inl h, fun l hl => q l _ hl (same_new hl) upd_same⟩
theorem r_intB {b : Bool} (q : Q (.int (if b then 1 else 0)) H) : rInt1 [.bl b] H Q := .inr ⟨b, rfl, q⟩
theorem r_str {i : Int} (h : i.natAbs.log2 < 1920) (q : Q (.str (toString i)) H) : rStrI [.int i] H Q := ⟨i, rfl, h, q⟩
theorem r_intS {a : Str} {n : Int} (h : PySem.intText? a = some n) (hl : a.length ≤ 640) (q : Q (.int n) H) : rIntS [.str a] H Q := ⟨a, n, rfl, h, hl, q⟩
theorem r_max {i j : Int} (q : Q (.int (if j > i then j else i)) H) : rMx [.int i, .int j] H Q := ⟨i, j, rfl, q⟩
theorem r_min {i j : Int} (q : Q (.int (if j < i then j else i)) H) : rMn [.int i, .int j] H Q := ⟨i, j, rfl, q⟩
theorem r_isN {x : V} (q : Q (.bl (decide (x = .non))) H) : rIsN x .non H Q := ⟨rfl, q⟩
theorem r_notN {x : V} (q : Q (.bl (!decide (x = .non))) H) : rNotN x .non H Q := ⟨rfl, q⟩
theorem r_isB {a b : Bool} (q : Q (.bl (decide (a = b))) H) : rIsB (.bl a) (.bl b) H Q := ⟨a, b, rfl, rfl, q⟩
theorem r_notB {a b : Bool} (q : Q (.bl (!decide (a = b))) H) : rNotB (.bl a) (.bl b) H Q := ⟨a, b, rfl, rfl, q⟩
/-! ### tests -/
theorem t_test (q : te σ H fun x H1 => ∃ k, x = .bl k ∧ QB k H1) : tTest te σ H QB := q
theorem t_B (q : te σ H fun x H1 => ∃ k, x = .bl k ∧ QB k H1) : tB te σ H QB := q
theorem t_bl {b : Bool} (q : QB b H) : ∃ k, V.bl b = .bl k ∧ QB k H := ⟨b, rfl, q⟩
theorem t_bl' {b : Bool} {R : Bool → Prop} (q : R b) : ∃ k, V.bl b = .bl k ∧ R k := ⟨b, rfl, q⟩
theorem e_andV (q : ta σ H fun x H1 => ∃ c, x = .bl c ∧ if c = true then tb σ H1 Q else Q (.bl false) H1) : tAndV ta tb σ H Q := q
theorem e_orV (q : ta σ H fun x H1 => ∃ c, x = .bl c ∧ if c = true then Q (.bl true) H1 else tb σ H1 Q) : tOrV ta tb σ H Q := q
theorem e_notV (q : ta σ H fun x H1 => ∃ c, x = .bl c ∧ Q (.bl (!c)) H1) : tNotV ta σ H Q := q
theorem e_chain (q : ta σ H fun x H1 => tb σ H1 fun y H2 => r x y H2 fun z H3 => ∃ k, z = .bl k ∧ (if k = true then tc σ H3 fun w' H4 => r' y w' H4 Q else Q (.bl false) H3)) : tChain r r' ta tb tc σ H Q := q
/-- a test that leaves the heap -/
theorem n_or {a b : Bool} (h1 : Ans tt σ H a) (h2 : a = false → Ans tu σ H b) : Ans (tOr tt tu) σ H (a || b) := by
  cases a with
  | true => exact ans_or1 h1
  | false => exact ans_or h1 (h2 rfl)
theorem n_and {a b : Bool} (h1 : Ans tt σ H a) (h2 : a = true → Ans tu σ H b) : Ans (tAnd tt tu) σ H (a && b) := by
  cases a with
  | true => exact ans_and h1 (h2 rfl)
  | false => exact ans_and0 h1
theorem n_not {a : Bool} (h1 : Ans tt σ H a) : Ans (tNot tt) σ H (!a) := ans_not h1
theorem n_of {b : Bool} (h : ∀ Q : Bool → Hp → Prop, Q b H → tt σ H Q) : Ans tt σ H b := h
/-- a < b < c, as a test that leaves the heap -/
theorem n_chain {x y z : V} {a b : Bool} (ha : Val ta σ H x) (hb : Val tb σ H y) (hr : ∀ Q : VK, Q (.bl a) H → r x y H Q) (hc : a = true → Val tc σ H z) (hr' : a = true → ∀ Q : VK, Q (.bl b) H → r' y z H Q) : Ans (tTest (tChain r r' ta tb tc)) σ H (a && b) := by
  intro Q q
  refine ha _ (hb _ (hr _ ⟨a, rfl, ?_⟩))
  cases a with
  | true =>
    show tc σ H _
    exact hc rfl _ (hr' rfl _ ⟨b, rfl, q⟩)
  | false =>
    show ∃ k, V.bl false = .bl k ∧ Q k H
    exact ⟨false, rfl, q⟩

/-! ### statements: what follows is a written record -/
variable {n bk ct : L2.St → Hp → Prop} {rt : VK} {u w : TS} {g : TG}
theorem s_seq {s1 : TS} (q : s1 ⟨u ⟨n, rt, bk, ct⟩, rt, bk, ct⟩ σ H) : tSeq s1 u ⟨n, rt, bk, ct⟩ σ H := q
theorem s_asg (q : te σ H fun x H1 => g x σ H1 n) : tAsg te g ⟨n, rt, bk, ct⟩ σ H := q
theorem g_name {i : Nat} {v : V} {Q : L2.St → Hp → Prop} (q : Q (σ.set i (some v)) H) : gName i v σ H Q := q
theorem g_sub {ta tb : TE} {t : TSet} {v : V} {Q : L2.St → Hp → Prop} (q : ta σ H fun o H1 => tb σ H1 fun i H2 => t o i v H2 fun H3 => Q σ H3) : gSub ta tb t v σ H Q := q
theorem s_ret (q : te σ H rt) : tRet te ⟨n, rt, bk, ct⟩ σ H := q
theorem s_drop (q : te σ H fun _ H1 => n σ H1) : tDrop te ⟨n, rt, bk, ct⟩ σ H := q
theorem s_next (q : n σ H) : tNext ⟨n, rt, bk, ct⟩ σ H := q
theorem s_ifs (q : tt σ H fun b H1 => if b = true then u ⟨n, rt, bk, ct⟩ σ H1 else w ⟨n, rt, bk, ct⟩ σ H1) : tIfS tt u w ⟨n, rt, bk, ct⟩ σ H := q
/-- an if whose test leaves the heap -/
theorem s_if {b : Bool} (h : Ans tt σ H b) (h1 : b = true → u ⟨n, rt, bk, ct⟩ σ H) (h2 : b = false → w ⟨n, rt, bk, ct⟩ σ H) : tIfS tt u w ⟨n, rt, bk, ct⟩ σ H := by
  refine h _ ?_
  cases b with
  | true => exact h1 rfl
  | false => exact h2 rfl
/-- a statement, then the rest, with a word between them -/
def tMid (t u : TS) : TS := fun D σ H => ∃ M : L2.St → Hp → Prop, t { D with nx := M } σ H ∧ ∀ σ2 H2, M σ2 H2 → u D σ2 H2
theorem s_cut {s1 : TS} (Mid : L2.St → Hp → Prop) (h1 : s1 ⟨Mid, rt, bk, ct⟩ σ H) (h2 : ∀ σ' H', Mid σ' H' → u ⟨n, rt, bk, ct⟩ σ' H') : tMid s1 u ⟨n, rt, bk, ct⟩ σ H := ⟨Mid, h1, h2⟩
theorem s_for1 {x : Int} {k : Nat} (Pv : Nat → L2.St → Hp → Prop) (hk : x.toNat = k) (hb : x < 2 ^ 62) (ht : ∀ Q : List V → Hp → Prop, Q [.int x] H → t σ H Q) (hx : -(2 ^ 62) ≤ x) (h0 : Pv 0 σ H)
    (hs : ∀ (i : Nat) σ' H', i < k → Pv i σ' H' → g (.int (i : Int)) σ' H' fun σ2 H2 => u ⟨Pv (i + 1), rt, n, Pv (i + 1)⟩ σ2 H2) (hd : ∀ σ' H', Pv k σ' H' → n σ' H') : tFor (iRng1 t) g u ⟨n, rt, bk, ct⟩ σ H := by
  subst hk
  refine ht _ ⟨x, rfl, hx, hb, ?_⟩
  refine for_range (lo := 0) Pv h0 (fun i σ' H' hi hp => ?_) hd
  have q := hs i σ' H' hi hp
  rw [show (i : Int) = 0 + (i : Int) by omega] at q
  exact q
theorem s_for2 {a b : Int} {k : Nat} (Pv : Nat → L2.St → Hp → Prop) (hk : (b - a).toNat = k) (ht : ∀ Q : List V → Hp → Prop, Q [.int a, .int b] H → t σ H Q) (hb : (-(2 ^ 62) ≤ a ∧ a < 2 ^ 62) ∧ -(2 ^ 62) ≤ b ∧ b < 2 ^ 62) (h0 : Pv 0 σ H)
    (hs : ∀ (i : Nat) σ' H', i < k → Pv i σ' H' → g (.int (a + (i : Int))) σ' H' fun σ2 H2 => u ⟨Pv (i + 1), rt, n, Pv (i + 1)⟩ σ2 H2) (hd : ∀ σ' H', Pv k σ' H' → n σ' H') : tFor (iRng2 t) g u ⟨n, rt, bk, ct⟩ σ H := by
  subst hk
  refine ht _ ⟨a, b, rfl, ⟨hb.1.1, hb.1.2, hb.2.1, hb.2.2⟩, ?_⟩
  exact for_range (lo := a) Pv h0 hs hd
end

/-! ### defs -/
/-- a def of the text as it stands behind the top -/
structure Own (K : PySem.W.Frag) (mg : Str → Option Value) (x : Str) (st : Stmt) (ps : List Str) : Prop where
  ex : ∃ f fd, Fun K x x st f fd ∧ mg x = some (.ref f) ∧ Binds K fd ps []
/-- the def's data stand at f -/
structure FdAt (K : PySem.W.Frag) (f : Addr) (fd : FuncData) : Prop where
  ex : ∃ oc od sl, K.lookup f = some ⟨oc, od, .func fd, sl⟩
theorem FdAt.uniq {K : PySem.W.Frag} {f : Addr} {d1 d2 : FuncData} (h1 : FdAt K f d1) (h2 : FdAt K f d2) : d1 = d2 := by
  obtain ⟨a, b, c, e1⟩ := h1.ex
  obtain ⟨a2, b2, c2, e2⟩ := h2.ex
  rw [e1] at e2
  cases e2
  rfl
theorem fdAt_of {K : PySem.W.Frag} {x q : Str} {st : Stmt} {f : Addr} {fd : FuncData} (F : Fun K x q st f fd) : FdAt K f fd := by
  obtain ⟨a, b, c, d, e, g, h, i, j, rfl, l, _⟩ := F.ex
  exact ⟨a, b, j, l⟩
/-- a def that keeps its promise -/
structure Cal (P : Program) (w : World) (K : PySem.W.Frag) (mg : Str → Option Value) (base : Heap) (CX : CXT) (k : Nat) (x : Str) (ps : List Str) (sp : Sp) : Prop where
  ex : ∃ f fd, FnOk P w K mg base CX k f fd ps sp ∧ mg x = some (.ref f) ∧ PySem.W.keepIn K (.ref f) = true ∧ Binds K fd ps [] ∧ FdAt K f fd
theorem Own.mk' {K : PySem.W.Frag} {mg : Str → Option Value} {x : Str} {st : Stmt} {ps : List Str} {f : Addr} {fd : FuncData} (F : Fun K x x st f fd) (g : mg x = some (.ref f)) (b : Binds K fd ps []) : Own K mg x st ps := ⟨f, fd, F, g, b⟩
theorem Cal.mono {P : Program} {w : World} {K : PySem.W.Frag} {mg : Str → Option Value} {base : Heap} {CX : CXT} {j k : Nat} {x : Str} {ps : List Str} {sp : Sp} (G : Cal P w K mg base CX j x ps sp) (h : j ≤ k) : Cal P w K mg base CX k x ps sp := by
  obtain ⟨f, fd, F, g, kp, b, at'⟩ := G.ex
  exact ⟨f, fd, F.mono h, g, kp, b, at'⟩
theorem Cal.imp {P : Program} {w : World} {K : PySem.W.Frag} {mg : Str → Option Value} {base : Heap} {CX : CXT} {k : Nat} {x : Str} {ps : List Str} {sp sp' : Sp} (G : Cal P w K mg base CX k x ps sp) (h : ∀ vs H Q E, sp' vs H Q E → sp vs H Q E) : Cal P w K mg base CX k x ps sp' := by
  obtain ⟨f, fd, F, g, kp, b, at'⟩ := G.ex
  exact ⟨f, fd, F.imp h, g, kp, b, at'⟩
section
variable {P : Program} {w : World} {K : PySem.W.Frag} {mg : Str → Option Value} {base : Heap}
theorem Own.ok {x : Str} {st : Stmt} {N ps : List Str} {k : Nat} {sp : Sp} (F : Own K mg x st ps) (S : FnScope N ps (defScope st)) (len : ∀ vs H Q E, sp vs H Q E → vs.length = ps.length)
    (hbody : ∀ (f : Addr) (cdv : Value) (A : Around) (outer : List Env) (s : Shared) (H : Hp) (vs : List V) (Q : VK) (E : XK), Room k (A.deeper (envOfC x (defScope st) s.heap.objs.size f cdv)) → sp vs H Q E →
      ∃ t, PSs (cxOf CX0 P w K mg base N x (defScope st) f cdv A outer s H E).nox (defBody st) t ∧ t ⟨fun _ H' => Q .non H', Q, fun _ _ => False, fun _ _ => False⟩ (start N vs) H) : Cal P w K mg base CX0 (k + 1) x ps sp := by
  obtain ⟨f, fd, F, g, b⟩ := F.ex
  exact ⟨f, fd, F.ok S len (hbody f), g, F.kp, b, fdAt_of F⟩
end
section
variable {X : Cx} {CX : CXT} {k : Nat} {ps : List Str} {sp : Sp} {E : XK} {x : Str} {p pos : Pos} {e : Expr} {es : List Expr} {t : TA}
theorem pe_cal (G : Cal X.prog X.w X.K X.mg X.base CX k x ps sp) (hr : Room k X.A) (hx : Passes CX X E) (hg : Gl X x) (ha : PA X (e :: es) t) (hdb : (x == ("__debug__" : Str)) = false := by decide)
    (he : starEach (e :: es) X.env = (false, eval e X.env) :: starEach es X.env := by rfl) (hpl : (backTo pos (starEach es X.env)).any (·.1) = false := by rfl) :
    PE X (.Call (.Name x p) (e :: es) [] pos) (tCall sp [] E t) := by
  obtain ⟨f, fd, F, g, kp, b, at'⟩ := G.ex
  exact pe_call F hr hg g kp b .nil hx ha hdb he hpl
theorem pe_const {x : Str} {v : Int} {pos : Pos} (h : ∃ t, X.mg x = some (.int v t)) (hg : Gl X x) (hd : (x == ("__debug__" : Str)) = false := by decide) : PE X (.Name x pos) (tC (.int v)) := by
  obtain ⟨t, e⟩ := h
  exact pe_glob hg e ⟨t, rfl⟩ hd
theorem pe_constS {x v : Str} {pos : Pos} (h : ∃ t, X.mg x = some (.str v t)) (hg : Gl X x) (hd : (x == ("__debug__" : Str)) = false := by decide) : PE X (.Name x pos) (tC (.str v)) := by
  obtain ⟨t, e⟩ := h
  exact pe_glob hg e ⟨t, rfl⟩ hd
/-- a statement, then the rest, what holds between them told -/
theorem pss_mid {st : Stmt} {rest : List Stmt} {t u : TS} (h1 : PS X st t) (h2 : PSs X rest u) : PSs X (st :: rest) (tMid t u) := by
  refine ⟨fun pins s σ H D I h => ?_⟩
  obtain ⟨M, hm, hu⟩ := h
  refine wpAny_execs_cons (thn (h1.run pins s σ H ⟨M, D.rt, D.bk, D.ct⟩ I hm) fun fl s1 q => ?_)
  cases fl with
  | next =>
    obtain ⟨σ2, H2, I2, q2⟩ := q
    exact h2.run pins s1 σ2 H2 D I2 (hu σ2 H2 q2)
  | brk => exact q
  | cont => exact q
  | ret v => exact q
end
end Fs
/-! ## list comprehensions, by what the list holds after so many turns -/
namespace Fs
open PySem PySem.Spec PyProof.Rows L2
/-- as it was, but at one place -/
def But (D : Addr) (H H' : Hp) : Prop := ∀ b o, b ≠ D → H b = some o → H' b = some o
theorem But.of {D : Addr} {H H' : Hp} (e : Same H H') : But D H H' := fun b o _ h => e b o h
theorem small5 {n : Nat} (h : n ≤ 100000) : n < sizeLine := Nat.lt_of_le_of_lt h (by decide)
section
variable {σ : L2.St} {H : Hp} {Q : VK} {K : PySem.W.Frag} {tl te : TE} {ta : TA} {tt : TT} {vs : List Nat} {j : Nat}
/-- the turns of a comprehension whose list holds what R says -/
def LcW (R : Addr → Nat → List V → Hp → Prop) (H : Hp) (D : Addr) (i : Nat) (H' : Hp) : Prop := H D = none ∧ Same H H' ∧ ∃ acc, H' D = some (.lst acc) ∧ acc.length ≤ i ∧ R D i acc H'
/-- one turn -/
def LcT (R : Addr → Nat → List V → Hp → Prop) (H : Hp) (tt : TT) (te : TE) (σ : L2.St) (i : Nat) : Prop := ∀ (D : Addr) (acc : List V) (H' : Hp) (K1 : VK) (K0 : Hp → Prop), H D = none → Same H H' → H' D = some (.lst acc) → R D i acc H' →
  (∀ y H2, Same H' H2 → R D (i + 1) (acc ++ [y]) H2 → K1 y H2) → (∀ H2, Same H' H2 → R D (i + 1) acc H2 → K0 H2) → tt σ H' fun b H3 => if b = true then te σ H3 K1 else K0 H3
theorem lc_turn {R : Addr → Nat → List V → Hp → Prop} (mono : ∀ D i acc H1 H2, H D = none → But D H1 H2 → R D i acc H1 → R D i acc H2) {D : Addr} {i : Nat} {H' : Hp} (hi : i < 100000) (hT : LcT R H tt te σ i) (hW : LcW R H D i H') :
    tt σ H' fun b H3 => if b = true then te σ H3 fun y H4 => ∃ acc, H4 D = some (.lst acc) ∧ acc.length < sizeLine ∧ LcW R H D (i + 1) (upd H4 D (.lst (acc ++ [y]))) else LcW R H D (i + 1) H3 := by
  obtain ⟨hD, hS, acc, hacc, hlen, hR⟩ := hW
  refine hT D acc H' (fun y H4 => ∃ acc, H4 D = some (.lst acc) ∧ acc.length < sizeLine ∧ LcW R H D (i + 1) (upd H4 D (.lst (acc ++ [y])))) (LcW R H D (i + 1)) hD hS hacc hR (fun y H2 e hR2 => ?_) (fun H2 e hR2 => ?_)
  · refine ⟨acc, e _ _ hacc, small5 (by omega), hD, same_mut (hS.trans e) hD, acc ++ [y], upd_same, ?_, ?_⟩
    · rw [List.length_append, List.length_singleton]
      omega
    · exact mono D (i + 1) (acc ++ [y]) H2 _ hD (fun b o hb h => by rw [upd_ne hb]; exact h) hR2
  · exact ⟨hD, hS.trans e, acc, e _ _ hacc, by omega, hR2⟩
/-- what stands at a is walked -/
def iAt (K : PySem.W.Frag) (a : Addr) : TI := fun _ H R => (∃ xs, SqL K H a xs) ∧ R (Itl K a) H
theorem e_yes {QB : Bool → Hp → Prop} (q : QB true H) : tYes σ H QB := q
theorem e_lc0 {g : TG} (q : tl σ H fun x H1 => ∃ a, x = .ref a ∧ tLc (iAt K a) g tt te vs σ H1 Q) : tLc (iList K tl) g tt te vs σ H Q := q
theorem rg_ref {a : Addr} {R : Addr → Prop} (q : R a) : ∃ b, V.ref a = .ref b ∧ R b := ⟨a, rfl, q⟩
theorem e_lcL {a : Addr} {xs : List V} (R : Addr → Nat → List V → Hp → Prop) (hx : SqL K H a xs) (hz : xs.length ≤ 100000) (h0 : ∀ D, H D = none → R D 0 [] H)
    (mono : ∀ D i acc H1 H2, H D = none → But D H1 H2 → R D i acc H1 → R D i acc H2) (hw : ∀ x, wipe ((wipe σ vs).set j (some x)) vs = wipe σ vs)
    (hs : ∀ i x, xs[i]? = some x → LcT R H tt te ((wipe σ vs).set j (some x)) i) (hd : ∀ D acc H', H D = none → Same H H' → H' D = some (.lst acc) → R D xs.length acc H' → Q (.ref D) H') : tLc (iAt K a) (gName j) tt te vs σ H Q := by
  refine ⟨⟨xs, hx⟩, fun D hD => ?_⟩
  refine lc_list (xs := xs) (LcW R H D) ⟨hD, same_new hD, [], upd_same, Nat.zero_le _, mono D 0 [] H _ hD (fun b o hb h => by rw [upd_ne hb]; exact h) (h0 D hD)⟩ (fun i H' _ hW => hW.2.1.seq hx) (fun i x H' hi hW => ⟨hw x, ?_⟩) (fun H' hW => ?_)
  · have hl := (List.getElem?_eq_some_iff.mp hi).1
    exact lc_turn mono (by omega) (hs i x hi) hW
  · obtain ⟨_, hS, acc, hacc, _, hR⟩ := hW
    exact hd D acc H' hD hS hacc hR
theorem e_lcR1 {n : Int} {k : Nat} (R : Addr → Nat → List V → Hp → Prop) (hk : n.toNat = k) (ha : ∀ Q : List V → Hp → Prop, Q [.int n] H → ta σ H Q) (hz : -100000 ≤ n ∧ n ≤ 100000) (h0 : ∀ D, H D = none → R D 0 [] H)
    (mono : ∀ D i acc H1 H2, H D = none → But D H1 H2 → R D i acc H1 → R D i acc H2) (hw : ∀ x, wipe ((wipe σ vs).set j (some x)) vs = wipe σ vs)
    (hs : ∀ i : Nat, i < k → LcT R H tt te ((wipe σ vs).set j (some (.int (i : Int)))) i) (hd : ∀ D acc H', H D = none → Same H H' → H' D = some (.lst acc) → R D k acc H' → Q (.ref D) H') : tLc (iRng1 ta) (gName j) tt te vs σ H Q := by
  subst hk
  refine ha _ ⟨n, rfl, by omega, by omega, fun D hD => ?_⟩
  refine lc_range (lo := 0) (LcW R H D) ⟨hD, same_new hD, [], upd_same, Nat.zero_le _, mono D 0 [] H _ hD (fun b o hb h => by rw [upd_ne hb]; exact h) (h0 D hD)⟩ (fun i H' hi hW => ?_) (fun H' hW => ?_)
  · rw [show (0 : Int) + (i : Int) = (i : Int) by omega]
    exact ⟨hw _, lc_turn mono (by omega) (hs i hi) hW⟩
  · obtain ⟨_, hS, acc, hacc, _, hR⟩ := hW
    exact hd D acc H' hD hS hacc hR
theorem e_lcR2 {a b : Int} {k : Nat} (R : Addr → Nat → List V → Hp → Prop) (hk : (b - a).toNat = k) (ha : ∀ Q : List V → Hp → Prop, Q [.int a, .int b] H → ta σ H Q) (hz : (-100000 ≤ a ∧ a ≤ 100000) ∧ -100000 ≤ b ∧ b ≤ 100000) (hk1 : k ≤ 100000) (h0 : ∀ D, H D = none → R D 0 [] H)
    (mono : ∀ D i acc H1 H2, H D = none → But D H1 H2 → R D i acc H1 → R D i acc H2) (hw : ∀ x, wipe ((wipe σ vs).set j (some x)) vs = wipe σ vs)
    (hs : ∀ i : Nat, i < k → LcT R H tt te ((wipe σ vs).set j (some (.int (a + (i : Int))))) i) (hd : ∀ D acc H', H D = none → Same H H' → H' D = some (.lst acc) → R D k acc H' → Q (.ref D) H') : tLc (iRng2 ta) (gName j) tt te vs σ H Q := by
  subst hk
  refine ha _ ⟨a, b, rfl, ⟨by omega, by omega, by omega, by omega⟩, fun D hD => ?_⟩
  refine lc_range (lo := a) (LcW R H D) ⟨hD, same_new hD, [], upd_same, Nat.zero_le _, mono D 0 [] H _ hD (fun b o hb h => by rw [upd_ne hb]; exact h) (h0 D hD)⟩ (fun i H' hi hW => ⟨hw _, lc_turn mono (by omega) (hs i hi) hW⟩) (fun H' hW => ?_)
  obtain ⟨_, hS, acc, hacc, _, hR⟩ := hW
  exact hd D acc H' hD hS hacc hR
/-! the list is told ahead: after i turns it holds G i -/
def LcG (G : Nat → List V) : Addr → Nat → List V → Hp → Prop := fun _ i acc _ => acc = G i
theorem lcg_mono {G : Nat → List V} : ∀ D i acc H1 H2, H D = none → But D H1 H2 → LcG G D i acc H1 → LcG G D i acc H2 := fun _ _ _ _ _ _ _ h => h
/-- a turn that keeps its item always -/
theorem lct_yes {G : Nat → List V} {i : Nat} {y : V} (hG : G (i + 1) = G i ++ [y]) (h : ∀ H' (K1 : VK), Same H H' → (∀ H2, Same H' H2 → K1 y H2) → te σ H' K1) : LcT (LcG G) H tYes te σ i := fun D acc H' K1 K0 hD hS hacc hR k1 k0 => by
  show if true = true then te σ H' K1 else K0 H'
  rw [if_pos rfl]
  exact h H' K1 hS fun H2 e => k1 y H2 e (by rw [show acc = G i from hR]; exact hG.symm)
end
end Fs
namespace Fs
open PySem PySem.Spec PyProof.Rows L2
section
variable {σ : L2.St} {H : Hp} {Q : VK} {K : PySem.W.Frag} {te : TE} {ta : TA} {vs : List Nat} {j : Nat}
/-- [f(x) for x in a list of ints] -/
theorem e_lcMapI {a : Addr} {cs : List Int} (f : Int → Int) (hx : SqL K H a (cs.map V.int)) (hz : cs.length ≤ 100000) (hw : ∀ x, wipe ((wipe σ vs).set j (some x)) vs = wipe σ vs)
    (hs : ∀ (i : Nat) (x : Int) (H' : Hp) (K1 : VK), i < cs.length → cs.getD i 0 = x → Same H H' → K1 (.int (f x)) H' → te ((wipe σ vs).set j (some (.int x))) H' K1)
    (hd : ∀ D H', H D = none → Same H H' → H' D = some (.lst ((cs.map f).map V.int)) → Q (.ref D) H') : tLc (iAt K a) (gName j) tYes te vs σ H Q := by
  refine e_lcL (xs := cs.map V.int) (LcG fun i => ((cs.map f).take i).map V.int) hx (by rw [List.length_map]; exact hz) (fun _ _ => rfl) lcg_mono hw (fun i x hx => ?_) (fun D acc H4 hD e4 hacc hR => ?_)
  · have hi : i < cs.length := by
      have := (List.getElem?_eq_some_iff.mp hx).1
      rw [List.length_map] at this
      exact this
    have hxv : x = V.int (cs.getD i 0) := by
      rw [List.getElem?_map, getD_get 0 hi] at hx
      exact (Option.some.inj hx).symm
    subst hxv
    refine lct_yes (y := .int (f (cs.getD i 0))) ?_ (fun H5 K1 e k1 => hs i _ H5 K1 hi rfl e (k1 H5 (Same.refl _)))
    rw [List.take_add_one, List.getElem?_map, getD_get 0 hi, List.map_append]
    rfl
  · replace hR : acc = ((cs.map f).take (cs.map V.int).length).map V.int := hR
    rw [List.length_map, List.take_of_length_le (by rw [List.length_map]; exact Nat.le_refl _)] at hR
    rw [hR] at hacc
    exact hd D H4 hD e4 hacc
/-- [f(k) for k in range(n)] -/
theorem e_lcRangeI {n : Int} {k : Nat} (f : Nat → Int) (hk : n.toNat = k) (ha : ∀ Q : List V → Hp → Prop, Q [.int n] H → ta σ H Q) (hz : -100000 ≤ n ∧ n ≤ 100000) (hw : ∀ x, wipe ((wipe σ vs).set j (some x)) vs = wipe σ vs)
    (hs : ∀ (i : Nat) (H' : Hp) (K1 : VK), i < k → Same H H' → K1 (.int (f i)) H' → te ((wipe σ vs).set j (some (.int (i : Int)))) H' K1)
    (hd : ∀ D H', H D = none → Same H H' → H' D = some (.lst (((List.range k).map f).map V.int)) → Q (.ref D) H') : tLc (iRng1 ta) (gName j) tYes te vs σ H Q := by
  refine e_lcR1 (LcG fun i => ((List.range i).map f).map V.int) hk ha hz (fun _ _ => rfl) lcg_mono hw (fun i hi => ?_) (fun D acc H4 hD e4 hacc hR => ?_)
  · refine lct_yes (y := .int (f i)) ?_ (fun H5 K1 e k1 => hs i H5 K1 hi e (k1 H5 (Same.refl _)))
    rw [List.range_succ, List.map_append, List.map_append]
    rfl
  · replace hR : acc = ((List.range k).map f).map V.int := hR
    rw [hR] at hacc
    exact hd D H4 hD e4 hacc
end
end Fs
/-! ## loops, by a word of the turn; a while by a word and a number that falls -/
namespace Fs
open PySem PySem.Spec PyProof.Rows L2
section
variable {σ : L2.St} {H : Hp} {K : PySem.W.Frag} {tl ta tb : TE} {t : TA} {tt : TT} {n bk ct : L2.St → Hp → Prop} {rt : VK} {u : TS} {g : TG}
theorem s_for0 {D : Ends} (q : tl σ H fun x H1 => ∃ a, x = .ref a ∧ tFor (iAt K a) g u D σ H1) : tFor (iList K tl) g u D σ H := q
theorem s_forL {a : Addr} {xs : List V} (Pv : Nat → L2.St → Hp → Prop) (hx : SqL K H a xs) (h0 : Pv 0 σ H) (hl : ∀ i σ' H', Pv i σ' H' → SqL K H' a xs)
    (hs : ∀ (i : Nat) x σ' H', xs[i]? = some x → Pv i σ' H' → g x σ' H' fun σ2 H2 => u ⟨Pv (i + 1), rt, n, Pv (i + 1)⟩ σ2 H2) (hd : ∀ σ' H', Pv xs.length σ' H' → n σ' H') : tFor (iAt K a) g u ⟨n, rt, bk, ct⟩ σ H :=
  ⟨⟨xs, hx⟩, for_list Pv h0 (fun i σ' H' _ h => hl i σ' H' h) hs hd⟩
theorem s_forRev {a : Addr} {xs : List V} (Pv : Nat → L2.St → Hp → Prop) (ha : ∀ Q : List V → Hp → Prop, Q [.ref a] H → t σ H Q) (hx : SqL K H a xs) (h0 : Pv 0 σ H) (hl : ∀ i σ' H', Pv i σ' H' → SqL K H' a xs)
    (hs : ∀ (i : Nat) x σ' H', i < xs.length → xs[xs.length - 1 - i]? = some x → Pv i σ' H' → g x σ' H' fun σ2 H2 => u ⟨Pv (i + 1), rt, n, Pv (i + 1)⟩ σ2 H2) (hd : ∀ σ' H', Pv xs.length σ' H' → n σ' H') : tFor (iRev K t) g u ⟨n, rt, bk, ct⟩ σ H :=
  ha _ ⟨a, xs, rfl, hx, RT.for_Itv Pv h0 hl hs hd⟩
theorem s_forRR {tr : L2.St → Hp → (Int → Int → Hp → Prop) → Prop} {a b : Int} {k : Nat} (Pv : Nat → L2.St → Hp → Prop) (hk : (b - a).toNat = k) (ha : ∀ Q : Int → Int → Hp → Prop, Q a b H → tr σ H Q) (hb : (-100000 ≤ a ∧ a ≤ 100000) ∧ -100000 ≤ b ∧ b ≤ 100000) (h0 : Pv 0 σ H)
    (hs : ∀ (i : Nat) σ' H', i < k → Pv i σ' H' → g (.int (a + ((k - 1 - i : Nat) : Int))) σ' H' fun σ2 H2 => u ⟨Pv (i + 1), rt, n, Pv (i + 1)⟩ σ2 H2) (hd : ∀ σ' H', Pv k σ' H' → n σ' H') : tFor (iRevR tr) g u ⟨n, rt, bk, ct⟩ σ H := by
  subst hk
  refine ha _ ⟨by omega, by omega, by omega, by omega, ?_⟩
  refine for_rangeC Pv h0 (fun i σ' H' hi hp => ?_) hd
  have q := hs i σ' H' hi hp
  rw [show a + (((b - a).toNat - 1 - i : Nat) : Int) = a + (((b - a).toNat : Nat) : Int) - 1 + (i : Nat) * (-1) by omega] at q
  exact q
theorem prg1_of {x : Int} {Q : Int → Int → Hp → Prop} (h : ta σ H fun v H1 => ∃ m, v = .int m ∧ Q 0 m H1) : tRg1 ta σ H Q := h
theorem prg2_of {Q : Int → Int → Hp → Prop} (h : ta σ H fun x H1 => tb σ H1 fun y H2 => ∃ i j, x = .int i ∧ y = .int j ∧ Q i j H2) : tRg2 ta tb σ H Q := h
theorem rg_int {i : Int} {R : Int → Prop} (q : R i) : ∃ m, V.int i = .int m ∧ R m := ⟨i, rfl, q⟩
theorem rg_ints {i j : Int} {R : Int → Int → Prop} (q : R i j) : ∃ a b, V.int i = .int a ∧ V.int j = .int b ∧ R a b := ⟨i, j, rfl, rfl, q⟩
theorem s_forS {z : Str} (Pv : Nat → L2.St → Hp → Prop) (ha : ∀ Q : VK, Q (.str z) H → tl σ H Q) (h0 : Pv 0 σ H)
    (hs : ∀ (i : Nat) c σ' H', z.cps[i]? = some c → Pv i σ' H' → g (.str ⟨#[c]⟩) σ' H' fun σ2 H2 => u ⟨Pv (i + 1), rt, n, Pv (i + 1)⟩ σ2 H2) (hd : ∀ σ' H', Pv z.cps.size σ' H' → n σ' H') : tFor (iStr tl) g u ⟨n, rt, bk, ct⟩ σ H := by
  refine ha _ ⟨z, rfl, fun i m σ' H' => m = z.cps.size - i ∧ i ≤ z.cps.size ∧ Pv i σ' H', ⟨z.cps.size, rfl, Nat.zero_le _, h0⟩, ?_⟩
  rintro i m σ' H' ⟨rfl, hi, hp⟩
  by_cases hlt : i < z.cps.size
  · refine .inr ⟨hlt, Pv (i + 1), fun σ2 H2 hp2 => ⟨z.cps.size - (i + 1), by omega, rfl, hlt, hp2⟩, fun x H2 hy => ?_⟩
    obtain ⟨rfl, c, hc, rfl⟩ := hy
    exact hs i c σ' _ hc hp
  · have e : i = z.cps.size := by omega
    subst e
    exact .inl ⟨Nat.le_refl _, hd σ' H' hp⟩
/-- a while's turn -/
structure WT (W : Nat → L2.St → Hp → Prop) (tt : TT) (u : TS) (n : L2.St → Hp → Prop) (rt : VK) (m : Nat) (σ : L2.St) (H : Hp) : Prop where
  turn : tt σ H fun b H1 => if b = true then ∃ N : L2.St → Hp → Prop, (∀ σ2 H2, N σ2 H2 → ∃ m', m' < m ∧ W m' σ2 H2) ∧ u ⟨N, rt, n, N⟩ σ H1 else n σ H1
theorem wt_of {W : Nat → L2.St → Hp → Prop} {m : Nat} {b : Bool} (h : Ans tt σ H b) (h1 : b = true → u ⟨fun σ2 H2 => ∃ m', m' < m ∧ W m' σ2 H2, rt, n, fun σ2 H2 => ∃ m', m' < m ∧ W m' σ2 H2⟩ σ H) (h2 : b = false → n σ H) : WT W tt u n rt m σ H := by
  refine ⟨h _ ?_⟩
  cases b with
  | true => exact ⟨_, fun _ _ z => z, h1 rfl⟩
  | false => exact h2 rfl
theorem s_while (W : Nat → L2.St → Hp → Prop) (m0 : Nat) (h0 : W m0 σ H) (hs : ∀ m σ' H', W m σ' H' → WT W tt u n rt m σ' H') : tWhile tt u ⟨n, rt, bk, ct⟩ σ H :=
  ⟨W, ⟨m0, h0⟩, fun m σ' H' hw => (hs m σ' H' hw).turn⟩
/-- l.append(e), l.clear() -/
theorem m_append {l : Addr} {xs : List V} {y : V} {Q : VK} (h : H l = some (.lst xs)) (hz : xs.length < 100000) (q : Q .non (upd H l (.lst (xs ++ [y])))) : rAppend (.ref l) [y] H Q := ⟨l, xs, y, rfl, rfl, h, Nat.lt_of_lt_of_le hz (by decide), q⟩
theorem m_appendI {l : Addr} {ns : List Int} {y : Int} {Q : VK} (h : H l = some (.lst (ns.map V.int))) (hz : ns.length < 100000) (q : Q .non (upd H l (.lst ((ns ++ [y]).map V.int)))) : rAppend (.ref l) [.int y] H Q :=
  m_append h (by rw [List.length_map]; exact hz) (by rw [List.map_append] at q; exact q)
theorem m_clear {l : Addr} {xs : List V} {Q : VK} (h : H l = some (.lst xs)) (q : Q .non (upd H l (.lst []))) : rClear (.ref l) [] H Q := ⟨l, xs, rfl, rfl, h, q⟩
theorem m_count {l : Addr} {ns : List Int} {k : Int} {Q : VK} (h : SqL K H l (ns.map V.int)) (q : Q (.int ((ns.count k : Nat) : Int)) H) : rCntI K (.ref l) [.int k] H Q := ⟨l, ns, k, rfl, rfl, h, q⟩
theorem m_bm {g : V → List V → Hp → VK → Prop} {l : Addr} {xs : List V} {Q : VK} (h : SqL K H l xs) (q : t σ H fun xs H2 => g (.ref l) xs H2 Q) : tyV K "list" (.ref l) H ∧ t σ H fun xs H2 => g (.ref l) xs H2 Q := ⟨.inl ⟨rfl, _, h⟩, q⟩
theorem m_bm0 {g : V → List V → Hp → VK → Prop} {l : Addr} {xs : List V} {Q : VK} (h : SqL K H l xs) (q : g (.ref l) [] H Q) : tyV K "list" (.ref l) H ∧ g (.ref l) [] H Q := ⟨.inl ⟨rfl, _, h⟩, q⟩
theorem e_bm0 {T : String} {g : V → List V → Hp → VK → Prop} {Q : VK} (q : ta σ H fun x H1 => tyV K T x H1 ∧ g x [] H1 Q) : tBM0 K T g ta σ H Q := q
theorem le_line {n : Nat} (h : n ≤ 100000) : n ≤ sizeLine := Nat.le_of_lt (small5 h)
theorem le_one {x : V} : [x].length ≤ sizeLine := le_line (by decide : 1 ≤ 100000)
theorem le_1 {x : V} : [x].length ≤ 100000 := (by decide : 1 ≤ 100000)
theorem le_2 {x y : V} : [x, y].length ≤ 100000 := (by decide : 2 ≤ 100000)
theorem le_two {x y : V} : [x, y].length ≤ sizeLine := le_line (by decide : 2 ≤ 100000)
theorem r_catI {a b : Addr} {ns ms : List Int} {Q : VK} (h1 : H a = some (.lst (ns.map V.int))) (h2 : H b = some (.lst (ms.map V.int))) (hz : ns.length + ms.length ≤ 100000) (q : ∀ p, H p = none → Q (.ref p) (upd H p (.lst ((ns ++ ms).map V.int)))) : rCat (.ref a) (.ref b) H Q :=
  ⟨a, b, _, _, rfl, rfl, h1, h2, by
    rw [List.length_map, List.length_map]
    exact le_line hz, fun p hp => by
    rw [← List.map_append]
    exact q p hp⟩
theorem n_cat {a b : Addr} {ns ms : List Int} {Q : VK} (h1 : H a = some (.lst (ns.map V.int))) (h2 : H b = some (.lst (ms.map V.int))) (hz : ns.length + ms.length ≤ 100000) (q : ∀ p H1, H p = none → Same H H1 → H1 p = some (.lst ((ns ++ ms).map V.int)) → Q (.ref p) H1) : rCat (.ref a) (.ref b) H Q :=
  r_catI h1 h2 hz fun p hp => q p _ hp (same_new hp) upd_same
theorem n_lst {xs : List V} {Q : VK} (hz : xs.length ≤ 100000) (q : ∀ p H1, H p = none → Same H H1 → H1 p = some (.lst xs) → Q (.ref p) H1) : NewL Q xs H := ⟨le_line hz, fun p hp => q p _ hp (same_new hp) upd_same⟩
theorem n_tup {xs : List V} {Q : VK} (hz : xs.length ≤ 100000) (q : ∀ p H1, H p = none → Same H H1 → H1 p = some (.tup xs) → Q (.ref p) H1) : NewT Q xs H := ⟨le_line hz, fun p hp => q p _ hp (same_new hp) upd_same⟩
theorem r_cat {a b : Addr} {xs ys : List V} {Q : VK} (h1 : H a = some (.lst xs)) (h2 : H b = some (.lst ys)) (hz : xs.length + ys.length ≤ sizeLine) (q : ∀ p, H p = none → Q (.ref p) (upd H p (.lst (xs ++ ys)))) : rCat (.ref a) (.ref b) H Q := ⟨a, b, xs, ys, rfl, rfl, h1, h2, hz, q⟩
end
end Fs
/-! ## two lists of ints compared; whole tests with calls in them -/
namespace Fs
open PySem PySem.Spec PyProof.Rows L2
theorem eqv_ints : ∀ ns ms : List Int, PyData.eqvAll (ns.map PyData.int) (ms.map PyData.int) = decide (ns = ms)
  | [], [] => by simp [PyData.eqvAll]
  | [], _ :: _ => by simp [PyData.eqvAll]
  | _ :: _, [] => by simp [PyData.eqvAll]
  | a :: r, b :: t => by
    simp only [List.map_cons, PyData.eqvAll, PyData.eqv, eqv_ints r t]
    by_cases h : a = b <;> by_cases h2 : r = t <;> simp [h, h2]
theorem lay_ints : ∀ ns : List Int, PyData.canLayAll0 (ns.map PyData.int) = true
  | [] => rfl
  | _ :: r => by simp [PyData.canLayAll0, PyData.canLay0, lay_ints r]
theorem dep_ints : ∀ ns : List Int, PyData.depthAll (ns.map PyData.int) = 0
  | [] => rfl
  | _ :: r => by simp [PyData.depthAll, PyData.depth, dep_ints r]
theorem shp_ints (ns : List Int) : SeqAt.shaped (.list (ns.map PyData.int)) = true := by simp [SeqAt.shaped, PyData.canLay0, PyData.depth, lay_ints, dep_ints]
theorem dp_ints {K : PySem.W.Frag} {H : Hp} : ∀ ns : List Int, DpAll K H (ns.map V.int) (ns.map PyData.int)
  | [] => .nil
  | i :: r => .cons (.int i) (dp_ints r)
theorem dp_list {K : PySem.W.Frag} {H : Hp} {a : Addr} {ns : List Int} (h : SqL K H a (ns.map V.int)) : Dp K H (.ref a) (.list (ns.map PyData.int)) := .lst h (dp_ints ns)
section
variable {σ : L2.St} {H : Hp} {K : PySem.W.Frag} {Q : VK} {QB : Bool → Hp → Prop} {tt tu : TT}
theorem r_eqL {a b : Addr} {ns ms : List Int} (h1 : SqL K H a (ns.map V.int)) (h2 : SqL K H b (ms.map V.int)) (q : Q (.bl (decide (ns = ms))) H) : rEqD K (.ref a) (.ref b) H Q :=
  ⟨_, _, dp_list h1, dp_list h2, shp_ints ns, shp_ints ms, by
    rw [PyData.eqv, eqv_ints]
    exact q⟩
theorem r_neL {a b : Addr} {ns ms : List Int} (h1 : SqL K H a (ns.map V.int)) (h2 : SqL K H b (ms.map V.int)) (q : Q (.bl (!decide (ns = ms))) H) : rNeD K (.ref a) (.ref b) H Q :=
  ⟨_, _, dp_list h1, dp_list h2, shp_ints ns, shp_ints ms, by
    rw [PyData.eqv, eqv_ints]
    exact q⟩
theorem t_or (q : tt σ H fun c H1 => if c = true then QB true H1 else tu σ H1 QB) : tOr tt tu σ H QB := q
theorem t_and (q : tt σ H fun c H1 => if c = true then tu σ H1 QB else QB false H1) : tAnd tt tu σ H QB := q
theorem t_not (q : tt σ H fun c H1 => QB (!c) H1) : tNot tt σ H QB := q
theorem i_nt {A B : Prop} (h : B) : if (!true) = true then A else B := h
theorem i_nf {A B : Prop} (h : A) : if (!false) = true then A else B := h
theorem i_nn {c : Bool} {A B : Prop} (hc : c = true) (h : B) : if (!c) = true then A else B := by
  subst hc
  exact h
theorem i_yes {c : Bool} {A B : Prop} (hc : c = true) (h : A) : if c = true then A else B := by
  subst hc
  exact h
theorem i_no {c : Bool} {A B : Prop} (hc : c = false) (h : B) : if c = true then A else B := by
  subst hc
  exact h
/-- 10 ** k -/
theorem e_p12 (q : Q (.int 1000000000000) H) : rI CPow (fun i j => V.int (i ^ j.toNat)) (.int 10) (.int 12) H Q := ⟨10, 12, rfl, rfl, ⟨by decide, by decide, by decide⟩, q⟩
theorem e_p15 (q : Q (.int 1000000000000000) H) : rI CPow (fun i j => V.int (i ^ j.toNat)) (.int 10) (.int 15) H Q := ⟨10, 15, rfl, rfl, ⟨by decide, by decide, by decide⟩, q⟩
theorem e_p30 (q : Q (.int 1000000000000000000000000000000) H) : rI CPow (fun i j => V.int (i ^ j.toNat)) (.int 10) (.int 30) H Q := ⟨10, 30, rfl, rfl, ⟨by decide, by decide, by decide⟩, q⟩
theorem e_p39 (q : Q (.int 1000000000000000000000000000000000000000) H) : rI CPow (fun i j => V.int (i ^ j.toNat)) (.int 10) (.int 39) H Q := ⟨10, 39, rfl, rfl, ⟨by decide, by decide, by decide⟩, q⟩
end
/-- nothing is asked of a def with no calls left -/
theorem Own.zero {P : Program} {w : World} {K : PySem.W.Frag} {mg : Str → Option Value} {base : Heap} {x : Str} {st : Stmt} {ps : List Str} {sp : Sp} (F : Own K mg x st ps) (no : ∀ vs H Q E, ¬ sp vs H Q E) : Cal P w K mg base CX0 0 x ps sp := by
  obtain ⟨f, fd, F, g, b⟩ := F.ex
  exact ⟨f, fd, ⟨fun vs H Q E h => absurd h (no vs H Q E), fun A outer s H args us vs Q E _ _ _ _ h => absurd h (no vs H Q E)⟩, g, F.kp, b, fdAt_of F⟩
end Fs
/-! ## dicts with whole numbers as keys -/
namespace Fs
open PySem PySem.Spec PyProof.Rows L2
section
variable {σ : L2.St} {H : Hp} {K : PySem.W.Frag} {Q : VK} {tv td ty : TE} {n bk ct : L2.St → Hp → Prop} {rt : VK}
theorem s_dput (q : tv σ H fun v H1 => td σ H1 fun x H2 => ty σ H2 fun y H3 => ∃ a H4, x = .ref a ∧ DPut H3 a y v H4 ∧ n σ H4) : sDPut td ty tv ⟨n, rt, bk, ct⟩ σ H := q
theorem d_put {a : Addr} {kvs : List (Key × V)} {k : Int} {v : V} {R : Hp → Prop} (h : H a = some (.dK kvs)) (hl : kvs.length < 100000) (q : R (upd H a (.dK (putK kvs (Sum.inl k) v)))) : ∃ b H4, V.ref a = .ref b ∧ DPut H b (.int k) v H4 ∧ R H4 :=
  ⟨a, _, rfl, DPut.k (k := Sum.inl k) h (small5 (Nat.le_of_lt hl)), q⟩
theorem d_din (q : ty σ H fun y H1 => td σ H1 fun x H2 => ∃ a o, x = .ref a ∧ DGet H2 a y o ∧ Q (.bl o.isSome) H2) : tDIn ty td σ H Q := q
theorem d_dget (q : td σ H fun x H1 => ty σ H1 fun y H2 => ∃ a v, x = .ref a ∧ DGet H2 a y (some v) ∧ Q v H2) : tDGet td ty σ H Q := q
theorem d_in {a : Addr} {kvs : List (Key × V)} {k : Int} {o : Option V} {R : Option V → Prop} (h : H a = some (.dK kvs)) (hv : valV kvs (Sum.inl k) = o) (q : R o) : ∃ b o, V.ref a = .ref b ∧ DGet H b (.int k) o ∧ R o :=
  ⟨a, _, rfl, DGet.k (k := Sum.inl k) h, by
    rw [hv]
    exact q⟩
theorem d_get {a : Addr} {kvs : List (Key × V)} {k : Int} {v : V} {R : V → Prop} (h : H a = some (.dK kvs)) (hv : valV kvs (Sum.inl k) = some v) (q : R v) : ∃ b v, V.ref a = .ref b ∧ DGet H b (.int k) (some v) ∧ R v :=
  ⟨a, v, rfl, by
    have g : DGet H a (.int k) (valV kvs (Sum.inl k : Key)) := DGet.k (k := Sum.inl k) h
    rw [hv] at g
    exact g, q⟩
theorem d_new (q : ∀ p, H p = none → Q (.ref p) (upd H p (.dK []))) : tDNewK σ H Q := q
end
end Fs
/-! ## slices, a list's place stored, a dict displayed -/
namespace Fs
open PySem PySem.Spec PyProof.Rows L2
section
variable {σ : L2.St} {H : Hp} {K : PySem.W.Frag} {Q : VK} {te : TE} {tl th : TO} {QO : Option Int → Hp → Prop}
theorem e_sl {r : V → Option Int → Option Int → Hp → VK → Prop} (q : te σ H fun x H1 => tl σ H1 fun l H2 => th σ H2 fun u H3 => r x l u H3 Q) : tSl r te tl th σ H Q := q
theorem e_noPart (q : QO none H) : tNoPart σ H QO := q
theorem e_part (q : te σ H fun x H1 => ∃ i, x = .int i ∧ QO (some i) H1) : tPart te σ H QO := q
theorem cut_take (ns : List Int) (i : Nat) : cutV (ns.map V.int) none (some (i : Int)) = (ns.take i).map V.int := by
  unfold cutV
  rw [HT.sIx_none, HT.sIx_nat, List.length_map, List.drop_zero, Nat.sub_zero, ← List.map_take]
  congr 1
  by_cases h : i ≤ ns.length
  · rw [Nat.min_eq_left h]
  · rw [Nat.min_eq_right (by omega), List.take_of_length_le (Nat.le_refl _), List.take_of_length_le (by omega)]
theorem cut_drop (ns : List Int) (i : Nat) : cutV (ns.map V.int) (some (i : Int)) none = (ns.drop i).map V.int := by
  unfold cutV
  rw [HT.sIx_none, HT.sIx_nat, List.length_map, ← List.map_drop, ← List.map_take]
  congr 1
  by_cases h : i ≤ ns.length
  · rw [Nat.min_eq_left h, List.take_of_length_le]
    rw [List.length_drop]
    omega
  · rw [Nat.min_eq_right (by omega), List.drop_of_length_le (Nat.le_refl _), List.drop_of_length_le (show ns.length ≤ i by omega), List.take_nil]
theorem r_take {a : Addr} {ns : List Int} {i : Int} (h : SqL K H a (ns.map V.int)) (hi : 0 ≤ i) (q : ∀ p, H p = none → Q (.ref p) (upd H p (.lst ((ns.take i.toNat).map V.int)))) : rSlL K (.ref a) none (some i) H Q :=
  ⟨a, _, rfl, h, fun p hp => by
    have e := cut_take ns i.toNat
    rw [Int.toNat_of_nonneg hi] at e
    rw [e]
    exact q p hp⟩
theorem r_drop {a : Addr} {ns : List Int} {i : Int} (h : SqL K H a (ns.map V.int)) (hi : 0 ≤ i) (q : ∀ p, H p = none → Q (.ref p) (upd H p (.lst ((ns.drop i.toNat).map V.int)))) : rSlL K (.ref a) (some i) none H Q :=
  ⟨a, _, rfl, h, fun p hp => by
    have e := cut_drop ns i.toNat
    rw [Int.toNat_of_nonneg hi] at e
    rw [e]
    exact q p hp⟩
theorem n_take {a : Addr} {ns : List Int} {i : Int} (h : SqL K H a (ns.map V.int)) (hi : 0 ≤ i) (q : ∀ p H1, H p = none → Same H H1 → H1 p = some (.lst ((ns.take i.toNat).map V.int)) → Q (.ref p) H1) : rSlL K (.ref a) none (some i) H Q := r_take h hi fun p hp => q p _ hp (same_new hp) upd_same
theorem n_drop {a : Addr} {ns : List Int} {i : Int} (h : SqL K H a (ns.map V.int)) (hi : 0 ≤ i) (q : ∀ p H1, H p = none → Same H H1 → H1 p = some (.lst ((ns.drop i.toNat).map V.int)) → Q (.ref p) H1) : rSlL K (.ref a) (some i) none H Q := r_drop h hi fun p hp => q p _ hp (same_new hp) upd_same
theorem m_set {l : Addr} {ns : List Int} {i y : Int} {Q : Hp → Prop} (h : H l = some (.lst (ns.map V.int))) (h0 : 0 ≤ i) (h1 : i < ns.length) (q : Q (upd H l (.lst ((ns.set i.toNat y).map V.int)))) : rSetL (.ref l) (.int i) (.int y) H Q := by
  refine ⟨l, _, i, i.toNat, rfl, rfl, h, ?_, ?_⟩
  · unfold ixN
    rw [if_pos h0, List.length_map, if_pos h1]
  · rw [List.map_set] at q
    exact q
theorem d_disp1 {k : Int} {v : V} (q : ∀ p, H p = none → Q (.ref p) (upd H p (.dK [(Sum.inl k, v)]))) : tDisp [(tC (.int k), tC v)] σ H Q := fun p hp =>
  ⟨upd_same, [(Sum.inl k, v)], rfl, (show 1 ≤ 15 by decide), by
    rw [upd_upd]
    exact q p hp⟩
theorem ix_at {X : Cx} {K : PySem.W.Frag} (e : X.K = K := by rfl) : IxR X (rIxL K) := by
  subst e
  exact ix_list
theorem e_eqB {i j : Bool} (q : Q (.bl (decide (i = j))) H) : rEq (.bl i) (.bl j) H Q := ⟨rfl, by
  rw [dec_bl, Bool.beq_eq_decide_eq]
  exact q⟩
theorem e_neB {i j : Bool} (q : Q (.bl (!decide (i = j))) H) : rNe (.bl i) (.bl j) H Q := ⟨rfl, by
  rw [dec_bl, Bool.beq_eq_decide_eq]
  exact q⟩
end
end Fs

/-! ## Plain functions and promises, no text in sight -/
namespace Fs
open PySem PySem.Spec PyProof.Rows L2
/-- script[k], or 0 -/
def cellAt (ns : List Int) (k : Int) : Int := if k < ns.length then gi ns k else 0
def spCellAt (K : PySem.W.Frag) : Sp := fun vs H Q _ => ∃ (a : Addr) (ns : List Int) (k : Int), vs = [.ref a, .int k] ∧ SqL K H a (ns.map V.int) ∧ 0 ≤ k ∧ Q (.int (cellAt ns k)) H
theorem c_cell_at {K : PySem.W.Frag} {a : Addr} {ns : List Int} {k : Int} {H : Hp} {Q : VK} {E : XK} (h : SqL K H a (ns.map V.int)) (h0 : 0 ≤ k) (q : Q (.int (cellAt ns k)) H) : spCellAt K [.ref a, .int k] H Q E := ⟨a, ns, k, rfl, h, h0, q⟩
/-- a drawn number below a bound -/
def spDraw : Sp := fun vs H Q _ => ∃ (cell k bound : Int), vs = [.int cell, .int k, .int bound] ∧ (0 ≤ k ∧ k ≤ 1000000) ∧ (0 < bound ∧ bound < 1073741824) ∧ ∀ r : Int, 0 ≤ r → r < bound → Q (.int r) H
theorem c_draw {cell k bound : Int} {H : Hp} {Q : VK} {E : XK} (h : 0 ≤ k ∧ k ≤ 1000000) (h0 : 0 < bound ∧ bound < 1073741824) (q : ∀ r : Int, 0 ≤ r → r < bound → Q (.int r) H) : spDraw [.int cell, .int k, .int bound] H Q E := ⟨cell, k, bound, rfl, h, h0, q⟩
/-- isinstance(x, int) and not isinstance(x, bool), of a whole number -/
def spWhole : Sp := fun vs H Q _ => ∃ i : Int, vs = [.int i] ∧ Q (.bl true) H
theorem c_whole {i : Int} {H : Hp} {Q : VK} {E : XK} (q : Q (.bl true) H) : spWhole [.int i] H Q E := ⟨i, rfl, q⟩
/-- a list of whole numbers -/
def spNumbers : Sp := fun vs H Q _ => ∃ (a : Addr) (ns : List Int), vs = [.ref a] ∧ H a = some (.lst (ns.map V.int)) ∧ ns.length ≤ 100000 ∧ ∀ H', Same H H' → Q (.bl true) H'
theorem c_numbers {a : Addr} {ns : List Int} {H : Hp} {Q : VK} {E : XK} (h : H a = some (.lst (ns.map V.int))) (hl : ns.length ≤ 100000) (q : ∀ H', Same H H' → Q (.bl true) H') : spNumbers [.ref a] H Q E := ⟨a, ns, rfl, h, hl, q⟩
/-! ### the doubling chain -/
/-- by the figures in base two -/
def dbl (n : Nat) : List Int := if h : n ≤ 1 then [1] else dbl (n / 2) ++ [2 * ((n / 2 : Nat) : Int)] ++ (if n % 2 = 1 then [(n : Int)] else [])
termination_by n
decreasing_by omega
/-- the figures, the lowest first, without the highest -/
def figs (n : Nat) : List Int := if h : n ≤ 1 then [] else ((n % 2 : Nat) : Int) :: figs (n / 2)
termination_by n
decreasing_by omega
/-- the chain from the figures -/
def bld : List Int → List Int
  | [] => [1]
  | f :: r => if f = 1 then (bld r ++ [gi (bld r) (-1) * 2]) ++ [gi (bld r ++ [gi (bld r) (-1) * 2]) (-1) + 1] else bld r ++ [gi (bld r) (-1) * 2]
theorem gi_snoc (ns : List Int) (x : Int) : gi (ns ++ [x]) (-1) = x := by
  rw [gi_last _ (by simp), List.length_append, List.length_singleton, Nat.add_sub_cancel, List.getD_eq_getElem?_getD, List.getElem?_append_right (Nat.le_refl _), Nat.sub_self]
  rfl
theorem dbl_one {n : Nat} (h : n ≤ 1) : dbl n = [1] := by rw [dbl, dif_pos h]
theorem dbl_step {n : Nat} (h : ¬ n ≤ 1) : dbl n = dbl (n / 2) ++ [2 * ((n / 2 : Nat) : Int)] ++ (if n % 2 = 1 then [(n : Int)] else []) := by rw [dbl, dif_neg h]
theorem dbl_last : ∀ n : Nat, 1 ≤ n → gi (dbl n) (-1) = (n : Int) := by
  intro n h1
  by_cases h : n ≤ 1
  · have e : n = 1 := by omega
    subst e
    rw [dbl_one (Nat.le_refl 1)]
    rfl
  · rw [dbl_step h]
    by_cases h2 : n % 2 = 1
    · rw [if_pos h2, gi_snoc]
    · rw [if_neg h2, List.append_nil, gi_snoc]
      omega
theorem bld_figs : ∀ n : Nat, 1 ≤ n → bld (figs n) = dbl n := by
  intro n
  induction n using Nat.strongRecOn with
  | ind n ih =>
    intro h1
    by_cases h : n ≤ 1
    · rw [figs, dif_pos h, dbl_one h]
      rfl
    · rw [figs, dif_neg h, dbl_step h]
      have e := ih (n / 2) (by omega) (by omega)
      have el := dbl_last (n / 2) (by omega)
      unfold bld
      rw [e, el]
      by_cases h2 : n % 2 = 1
      · rw [if_pos (by omega), if_pos h2, gi_snoc]
        rw [show ((n / 2 : Nat) : Int) * 2 = 2 * ((n / 2 : Nat) : Int) by omega, show 2 * ((n / 2 : Nat) : Int) + 1 = (n : Int) by omega]
      · rw [if_neg (by omega), if_neg h2, List.append_nil]
        rw [show ((n / 2 : Nat) : Int) * 2 = 2 * ((n / 2 : Nat) : Int) by omega]
theorem bld_len : ∀ fs : List Int, 1 ≤ (bld fs).length ∧ (bld fs).length ≤ 2 * fs.length + 1
  | [] => ⟨Nat.le_refl _, Nat.le_refl _⟩
  | f :: r => by
    have ih := bld_len r
    unfold bld
    split
    · simp only [List.length_append, List.length_cons, List.length_nil]
      omega
    · simp only [List.length_append, List.length_cons, List.length_nil]
      omega
theorem figs_len : ∀ (k n : Nat), n < 2 ^ (k + 1) → (figs n).length ≤ k
  | 0, n, h => by
    rw [figs, dif_pos (by omega)]
    exact Nat.le_refl _
  | k + 1, n, h => by
    by_cases h1 : n ≤ 1
    · rw [figs, dif_pos h1]
      exact Nat.zero_le _
    · rw [figs, dif_neg h1, List.length_cons]
      have := figs_len k (n / 2) (by rw [Nat.pow_succ] at h; omega)
      omega
/-- the doubling chain of a number from 1 to 10 ** 30 -/
def spDoubling : Sp := fun vs H Q _ => ∃ n : Nat, vs = [.int (n : Int)] ∧ (1 ≤ n ∧ n ≤ 10 ^ 30) ∧ ∀ p H', Same H H' → H p = none → H' p = some (.lst ((dbl n).map V.int)) → Q (.ref p) H'
theorem c_doubling {i : Int} {n : Nat} {H : Hp} {Q : VK} {E : XK} (e : i = (n : Int)) (h : 1 ≤ n ∧ n ≤ 10 ^ 30) (q : ∀ p H', Same H H' → H p = none → H' p = some (.lst ((dbl n).map V.int)) → Q (.ref p) H') : spDoubling [.int i] H Q E := ⟨n, by rw [e], h, q⟩
/-- the law's own doubling, with so many calls left -/
def spDbl2 (d : Nat) : Sp := fun vs H Q _ => ∃ n : Nat, vs = [.int (n : Int)] ∧ (1 ≤ n ∧ n < 2 ^ d) ∧ ∀ p H', Same H H' → H p = none → H' p = some (.lst ((dbl n).map V.int)) → Q (.ref p) H'
theorem c_dbl2 {d : Nat} {i : Int} {n : Nat} {H : Hp} {Q : VK} {E : XK} (e : i = (n : Int)) (h : 1 ≤ n ∧ n < 2 ^ d) (q : ∀ p H', Same H H' → H p = none → H' p = some (.lst ((dbl n).map V.int)) → Q (.ref p) H') : spDbl2 d [.int i] H Q E := ⟨n, by rw [e], h, q⟩
theorem dbl_len (n : Nat) (h1 : 1 ≤ n) (h : n ≤ 10 ^ 30) : 1 ≤ (dbl n).length ∧ (dbl n).length ≤ 199 := by
  have hfl : (figs n).length ≤ 99 := figs_len 99 n (Nat.lt_of_le_of_lt h (by decide))
  have hb := bld_len (figs n)
  rw [bld_figs n h1] at hb
  omega
/-! isinstance -/
section
variable {K : PySem.W.Frag} {H : Hp} {Q : VK}
theorem kt {K : PySem.W.Frag} {H : Hp} {Q : VK} {x : V} {m n : String} {b : Bool} (t : TyOf K H x (.type m)) (h : kitB m n = some b) (q : Q (.bl b) H) : rIsi K [x, .ty n] H Q := ⟨x, .ty n, .type m, .type n, b, rfl, .ty n, .base t, kit_ty h, q⟩
theorem r_int_int {i : Int} (q : Q (.bl true) H) : rIsi K [.int i, .ty "int"] H Q := kt (.int i) (by decide +kernel) q
theorem r_int_bool {i : Int} (q : Q (.bl false) H) : rIsi K [.int i, .ty "bool"] H Q := kt (.int i) (by decide +kernel) q
theorem r_bool_bool {i : Bool} (q : Q (.bl true) H) : rIsi K [.bl i, .ty "bool"] H Q := kt (.bl i) (by decide +kernel) q
theorem r_str_str {i : Str} (q : Q (.bl true) H) : rIsi K [.str i, .ty "str"] H Q := kt (.str i) (by decide +kernel) q
theorem r_str_list {i : Str} (q : Q (.bl false) H) : rIsi K [.str i, .ty "list"] H Q := kt (.str i) (by decide +kernel) q
theorem r_list_list {a : Addr} {xs : List V} (h : H a = some (.lst xs)) (q : Q (.bl true) H) : rIsi K [.ref a, .ty "list"] H Q := kt (.lst h) (by decide +kernel) q
theorem r_tup_tup {a : Addr} {xs : List V} (h : H a = some (.tup xs)) (q : Q (.bl true) H) : rIsi K [.ref a, .ty "tuple"] H Q := kt (.tup h) (by decide +kernel) q
end
end Fs

/-! ## Chains, plainly -/
namespace Fs
open PySem PySem.Spec PyProof.Rows L2
/-- the last place below m at which x stands -/
def lastIx (ns : List Int) : Nat → Int → Option Nat
  | 0, _ => none
  | k + 1, x => if ns.getD k 0 = x then some k else lastIx ns k x
/-- the link of a place, looked for below m -/
def linkGo (ns : List Int) (place : Nat) : Nat → Option (Nat × Nat)
  | 0 => none
  | k + 1 => match lastIx ns place (ns.getD place 0 - ns.getD k 0) with
    | some j => if j ≤ k then some (j, k) else linkGo ns place k
    | none => linkGo ns place k
def linkOf (ns : List Int) (place : Nat) : Option (Nat × Nat) := linkGo ns place place
/-- a place of a chain -/
def stepOk (ns : List Int) (p : Nat) : Bool := decide (ns.getD (p - 1) 0 < ns.getD p 0) && (linkOf ns p).isSome
/-- is_chain -/
structure IsCh (ns : List Int) : Prop where
  lo : 1 ≤ ns.length
  hi : ns.length ≤ 250
  one : ns.getD 0 0 = 1
  step : ∀ p, 1 ≤ p → p < ns.length → stepOk ns p = true
theorem lastIx_lt {ns : List Int} {x : Int} : ∀ {m j : Nat}, lastIx ns m x = some j → j < m ∧ ns.getD j 0 = x
  | 0, j, h => by cases h
  | m + 1, j, h => by
    unfold lastIx at h
    split at h
    · rename_i e
      obtain rfl := Option.some.inj h
      exact ⟨Nat.lt_succ_self _, e⟩
    · have := lastIx_lt h
      exact ⟨by omega, this.2⟩
/-- what a place's link is, as a value -/
def LinkV (o : Option (Nat × Nat)) (v : V) (H : Hp) : Prop := match o with
  | none => v = .non
  | some p => ∃ t, v = .ref t ∧ H t = some (.tup [.int (p.1 : Int), .int (p.2 : Int)])
def spLinkOf : Sp := fun vs H Q _ => ∃ (a : Addr) (ns : List Int) (p : Nat), vs = [.ref a, .int (p : Int)] ∧ H a = some (.lst (ns.map V.int)) ∧ (p < ns.length ∧ ns.length ≤ 1000) ∧ ∀ v H', Same H H' → LinkV (linkOf ns p) v H' → (∀ t, v = .ref t → H t = none) → Q v H'
theorem c_link_of {a : Addr} {ns : List Int} {i : Int} {p : Nat} {H : Hp} {Q : VK} {E : XK} (e : i = (p : Int)) (h : H a = some (.lst (ns.map V.int))) (hp : p < ns.length ∧ ns.length ≤ 1000) (q : ∀ v H', Same H H' → LinkV (linkOf ns p) v H' → (∀ t, v = .ref t → H t = none) → Q v H') : spLinkOf [.ref a, .int i] H Q E :=
  ⟨a, ns, p, by rw [e], h, hp, q⟩
def spIsChain : Sp := fun vs H Q _ => ∃ (a : Addr) (ns : List Int), vs = [.ref a] ∧ H a = some (.lst (ns.map V.int)) ∧ ns.length ≤ 1000 ∧ ∀ (b : Bool) H', Same H H' → (b = true ↔ IsCh ns) → Q (.bl b) H'
theorem c_is_chain {a : Addr} {ns : List Int} {H : Hp} {Q : VK} {E : XK} (h : H a = some (.lst (ns.map V.int))) (hl : ns.length ≤ 1000) (q : ∀ (b : Bool) H', Same H H' → (b = true ↔ IsCh ns) → Q (.bl b) H') : spIsChain [.ref a] H Q E := ⟨a, ns, rfl, h, hl, q⟩
end Fs

/-! ## Chains: what a link is; is_chain and the chains as they are told -/
namespace Fs
open PySem PySem.Spec PyProof.Rows L2
/-- each number but the first is greater than the one ahead of it, and the sum of two earlier ones -/
structure IsAdd (ns : List Int) : Prop where
  lo : 1 ≤ ns.length
  one : ns.getD 0 0 = 1
  step : ∀ p, 1 ≤ p → p < ns.length → ns.getD (p - 1) 0 < ns.getD p 0 ∧ ∃ i j, i < p ∧ j < p ∧ ns.getD p 0 = ns.getD i 0 + ns.getD j 0
theorem mono_of {ns : List Int} {m : Nat} (h : ∀ p, 1 ≤ p → p < m → ns.getD (p - 1) 0 < ns.getD p 0) : ∀ {j i : Nat}, i < j → j < m → ns.getD i 0 < ns.getD j 0
  | 0, i, h1, _ => by omega
  | j + 1, i, h1, h2 => by
    have q := h (j + 1) (by omega) h2
    rw [Nat.add_sub_cancel] at q
    by_cases e : i = j
    · subst e
      exact q
    · have := mono_of h (j := j) (i := i) (by omega) (by omega)
      omega
theorem inj_of {ns : List Int} {m : Nat} (h : ∀ p, 1 ≤ p → p < m → ns.getD (p - 1) 0 < ns.getD p 0) {i j : Nat} (hi : i < m) (hj : j < m) (e : ns.getD i 0 = ns.getD j 0) : i = j := by
  by_cases h1 : i < j
  · have := mono_of h h1 hj
    omega
  · by_cases h2 : j < i
    · have := mono_of h h2 hi
      omega
    · omega
theorem lastIx_none {ns : List Int} {x : Int} : ∀ {m : Nat}, lastIx ns m x = none → ∀ j, j < m → ns.getD j 0 ≠ x
  | 0, _, j, hj => by omega
  | m + 1, h, j, hj => by
    unfold lastIx at h
    split at h
    · cases h
    · rename_i e
      by_cases ej : j = m
      · subst ej
        exact e
      · exact lastIx_none h j (by omega)
theorem linkGo_some {ns : List Int} {p : Nat} : ∀ {m : Nat} {jk : Nat × Nat}, linkGo ns p m = some jk → jk.1 ≤ jk.2 ∧ jk.2 < m ∧ jk.1 < p ∧ ns.getD jk.1 0 + ns.getD jk.2 0 = ns.getD p 0
  | 0, jk, h => by cases h
  | m + 1, jk, h => by
    unfold linkGo at h
    cases hx : lastIx ns p (ns.getD p 0 - ns.getD m 0) with
    | none =>
      rw [hx] at h
      have := linkGo_some (m := m) h
      exact ⟨this.1, by omega, this.2.2⟩
    | some j =>
      rw [hx] at h
      replace h : (if j ≤ m then some (j, m) else linkGo ns p m) = some jk := h
      by_cases hj : j ≤ m
      · rw [if_pos hj] at h
        obtain rfl := Option.some.inj h
        have := lastIx_lt hx
        exact ⟨hj, Nat.lt_succ_self _, this.1, by have := this.2; show ns.getD j 0 + ns.getD m 0 = _; omega⟩
      · rw [if_neg hj] at h
        have := linkGo_some (m := m) h
        exact ⟨this.1, by omega, this.2.2⟩
theorem linkGo_none {ns : List Int} {p : Nat} (hm : ∀ q, 1 ≤ q → q < p → ns.getD (q - 1) 0 < ns.getD q 0) : ∀ {m : Nat}, m ≤ p → linkGo ns p m = none → ∀ j k, j ≤ k → k < m → ns.getD j 0 + ns.getD k 0 ≠ ns.getD p 0
  | 0, _, _, j, k, _, hk => by omega
  | m + 1, hp, h, j, k, hjk, hk => by
    unfold linkGo at h
    by_cases ek : k = m
    · subst ek
      intro e
      cases hx : lastIx ns p (ns.getD p 0 - ns.getD k 0) with
      | none => exact lastIx_none hx j (by omega) (by omega)
      | some i =>
        rw [hx] at h
        replace h : (if i ≤ k then some (i, k) else linkGo ns p k) = none := h
        have hi := lastIx_lt hx
        have eij : i = j := inj_of hm hi.1 (by omega) (by have := hi.2; omega)
        rw [if_pos (by omega)] at h
        cases h
    · have h2 : linkGo ns p m = none := by
        cases hx : lastIx ns p (ns.getD p 0 - ns.getD m 0) with
        | none =>
          rw [hx] at h
          exact h
        | some i =>
          rw [hx] at h
          replace h : (if i ≤ m then some (i, m) else linkGo ns p m) = none := h
          by_cases hi : i ≤ m
          · rw [if_pos hi] at h
            cases h
          · rw [if_neg hi] at h
            exact h
      exact linkGo_none hm (by omega) h2 j k hjk (by omega)
theorem step_iff {ns : List Int} {p : Nat} (h1 : 1 ≤ p) (hm : ∀ q, 1 ≤ q → q < p → ns.getD (q - 1) 0 < ns.getD q 0) : stepOk ns p = true ↔ ns.getD (p - 1) 0 < ns.getD p 0 ∧ ∃ i j, i < p ∧ j < p ∧ ns.getD p 0 = ns.getD i 0 + ns.getD j 0 := by
  unfold stepOk linkOf
  constructor
  · intro h
    rw [Bool.and_eq_true, decide_eq_true_eq] at h
    obtain ⟨h2, h3⟩ := h
    obtain ⟨jk, e⟩ := Option.isSome_iff_exists.mp h3
    have := linkGo_some e
    exact ⟨h2, jk.1, jk.2, this.2.2.1, this.2.1, this.2.2.2.symm⟩
  · rintro ⟨h2, i, j, hi, hj, e⟩
    rw [Bool.and_eq_true, decide_eq_true_eq]
    refine ⟨h2, ?_⟩
    cases hx : linkGo ns p p with
    | some jk => rfl
    | none =>
      exfalso
      by_cases hij : i ≤ j
      · exact linkGo_none hm (Nat.le_refl _) hx i j hij hj e.symm
      · exact linkGo_none hm (Nat.le_refl _) hx j i (by omega) hi (by omega)
theorem ch_iff (ns : List Int) : IsCh ns ↔ IsAdd ns ∧ ns.length ≤ 250 := by
  constructor
  · intro h
    have hm : ∀ p, 1 ≤ p → p < ns.length → ns.getD (p - 1) 0 < ns.getD p 0 := fun p h1 h2 => by
      have q := h.step p h1 h2
      unfold stepOk at q
      rw [Bool.and_eq_true, decide_eq_true_eq] at q
      exact q.1
    exact ⟨⟨h.lo, h.one, fun p h1 h2 => (step_iff h1 fun q a b => hm q a (by omega)).mp (h.step p h1 h2)⟩, h.hi⟩
  · rintro ⟨h, hl⟩
    exact ⟨h.lo, hl, h.one, fun p h1 h2 => (step_iff h1 fun q a b => (h.step q a (by omega)).1).mpr (h.step p h1 h2)⟩
theorem getD_snoc_lt {ns : List Int} {x : Int} {i : Nat} (h : i < ns.length) : (ns ++ [x]).getD i 0 = ns.getD i 0 := by
  rw [List.getD_eq_getElem?_getD, List.getD_eq_getElem?_getD, List.getElem?_append_left h]
theorem getD_snoc_eq {ns : List Int} {x : Int} : (ns ++ [x]).getD ns.length 0 = x := by
  rw [List.getD_eq_getElem?_getD, List.getElem?_append_right (Nat.le_refl _), Nat.sub_self]
  rfl
/-- a sum that is greater than the last number goes behind -/
theorem IsAdd.snoc {ns : List Int} (h : IsAdd ns) {x : Int} {i j : Nat} (hi : i < ns.length) (hj : j < ns.length) (e : x = ns.getD i 0 + ns.getD j 0) (hx : ns.getD (ns.length - 1) 0 < x) : IsAdd (ns ++ [x]) := by
  have hl := h.lo
  have hlen : (ns ++ [x]).length = ns.length + 1 := by rw [List.length_append, List.length_singleton]
  refine ⟨by omega, by rw [getD_snoc_lt (by omega)]; exact h.one, fun p h1 h2 => ?_⟩
  by_cases hp : p < ns.length
  · obtain ⟨a, b, c, hb, hc, hd⟩ := h.step p h1 hp
    rw [getD_snoc_lt (by omega), getD_snoc_lt hp]
    refine ⟨a, b, c, hb, hc, ?_⟩
    rw [getD_snoc_lt (by omega), getD_snoc_lt (by omega)]
    exact hd
  · obtain rfl : p = ns.length := by omega
    rw [getD_snoc_lt (by omega), getD_snoc_eq]
    refine ⟨hx, i, j, hi, hj, ?_⟩
    rw [getD_snoc_lt hi, getD_snoc_lt hj]
    exact e
theorem IsAdd.single : IsAdd [1] := ⟨Nat.le_refl _, rfl, fun p h1 h2 => by
  have : p < 1 := h2
  omega⟩
theorem IsAdd.pos {ns : List Int} (h : IsAdd ns) {i : Nat} (hi : i < ns.length) : 1 ≤ ns.getD i 0 := by
  by_cases e : i = 0
  · subst e
    rw [h.one]
    omega
  · have := mono_of (fun p a b => (h.step p a b).1) (i := 0) (j := i) (by omega) hi
    rw [h.one] at this
    omega
theorem IsAdd.le_last {ns : List Int} (h : IsAdd ns) {i : Nat} (hi : i < ns.length) : ns.getD i 0 ≤ ns.getD (ns.length - 1) 0 := by
  by_cases e : i = ns.length - 1
  · subst e
    exact Int.le_refl _
  · have := mono_of (fun p a b => (h.step p a b).1) (i := i) (j := ns.length - 1) (by omega) (by omega)
    omega
/-! ### the law's own: a drawn chain, its own is_chain -/
def spChainBy (K : PySem.W.Frag) : Sp := fun vs H Q _ => ∃ (a : Addr) (ns : List Int) (first most : Int), vs = [.ref a, .int first, .int most] ∧ SqL K H a (ns.map V.int) ∧ (0 ≤ first ∧ 1 ≤ most ∧ most ≤ 200) ∧
  ∀ (cs : List Int) p H', IsAdd cs → (cs.length : Int) ≤ most → (∀ i, i < cs.length → cs.getD i 0 < 1000000000000) → Same H H' → H p = none → H' p = some (.lst (cs.map V.int)) → Q (.ref p) H'
theorem c_chain_by {K : PySem.W.Frag} {a : Addr} {ns : List Int} {first most : Int} {H : Hp} {Q : VK} {E : XK} (h : SqL K H a (ns.map V.int)) (hb : 0 ≤ first ∧ 1 ≤ most ∧ most ≤ 200)
    (q : ∀ (cs : List Int) p H', IsAdd cs → (cs.length : Int) ≤ most → (∀ i, i < cs.length → cs.getD i 0 < 1000000000000) → Same H H' → H p = none → H' p = some (.lst (cs.map V.int)) → Q (.ref p) H') : spChainBy K [.ref a, .int first, .int most] H Q E := ⟨a, ns, first, most, rfl, h, hb, q⟩
def spLawIsChain : Sp := fun vs H Q _ => ∃ (a : Addr) (ns : List Int), vs = [.ref a] ∧ H a = some (.lst (ns.map V.int)) ∧ ns.length ≤ 1000 ∧ ∀ (b : Bool) H', Same H H' → (b = true ↔ IsCh ns) → Q (.bl b) H'
theorem c_law_is_chain {a : Addr} {ns : List Int} {H : Hp} {Q : VK} {E : XK} (h : H a = some (.lst (ns.map V.int))) (hl : ns.length ≤ 1000) (q : ∀ (b : Bool) H', Same H H' → (b = true ↔ IsCh ns) → Q (.bl b) H') : spLawIsChain [.ref a] H Q E := ⟨a, ns, rfl, h, hl, q⟩
end Fs

/-! ## Links, joined chains -/
namespace Fs
open PySem PySem.Spec PyProof.Rows L2
theorem IsCh.mono {ns : List Int} (h : IsCh ns) : ∀ p, 1 ≤ p → p < ns.length → ns.getD (p - 1) 0 < ns.getD p 0 := fun p a b => (((ch_iff ns).mp h).1.step p a b).1
theorem IsCh.link {ns : List Int} (h : IsCh ns) {p : Nat} (h1 : 1 ≤ p) (h2 : p < ns.length) : ∃ jk, linkOf ns p = some jk := by
  have q := h.step p h1 h2
  unfold stepOk at q
  rw [Bool.and_eq_true] at q
  exact Option.isSome_iff_exists.mp q.2
theorem IsAdd.link {ns : List Int} (h : IsAdd ns) {p : Nat} (h1 : 1 ≤ p) (h2 : p < ns.length) : ∃ jk, linkOf ns p = some jk := by
  have q := (step_iff h1 (fun q a b => (h.step q a (by omega)).1)).mpr (h.step p h1 h2)
  unfold stepOk at q
  rw [Bool.and_eq_true] at q
  exact Option.isSome_iff_exists.mp q.2
theorem link_facts {ns : List Int} {p : Nat} {jk : Nat × Nat} (h : linkOf ns p = some jk) : jk.1 ≤ jk.2 ∧ jk.2 < p ∧ ns.getD jk.1 0 + ns.getD jk.2 0 = ns.getD p 0 := by
  have q := linkGo_some h
  exact ⟨q.1, q.2.1, q.2.2.2⟩
theorem linkGo_skip {ns : List Int} {p k : Nat} : ∀ {m : Nat}, k ≤ m → (∀ k2, k ≤ k2 → k2 < m → ∀ j, j ≤ k2 → j < p → ns.getD j 0 + ns.getD k2 0 ≠ ns.getD p 0) → linkGo ns p m = linkGo ns p k
  | 0, hk, _ => by
    obtain rfl : k = 0 := by omega
    rfl
  | m + 1, hk, h => by
    by_cases e : k = m + 1
    · rw [e]
    · have ih := linkGo_skip (ns := ns) (p := p) (k := k) (m := m) (by omega) fun k2 a b j c d => h k2 a (by omega) j c d
      rw [← ih]
      show (match lastIx ns p (ns.getD p 0 - ns.getD m 0) with
        | some j => if j ≤ m then some (j, m) else linkGo ns p m
        | none => linkGo ns p m) = linkGo ns p m
      cases hx : lastIx ns p (ns.getD p 0 - ns.getD m 0) with
      | none => rfl
      | some j =>
        show (if j ≤ m then some (j, m) else linkGo ns p m) = linkGo ns p m
        have hj := lastIx_lt hx
        by_cases hjm : j ≤ m
        · exact absurd (by have := hj.2; omega) (h m (by omega) (Nat.lt_succ_self _) j hjm hj.1)
        · rw [if_neg hjm]
/-- the link by another search: the greatest second place, the first place found -/
theorem link_unique {ns : List Int} {p j k : Nat} (hm : ∀ q, 1 ≤ q → q < p → ns.getD (q - 1) 0 < ns.getD q 0) (hjk : j ≤ k) (hk : k < p) (e : ns.getD j 0 + ns.getD k 0 = ns.getD p 0)
    (hno : ∀ k2, k < k2 → k2 < p → ∀ j2, j2 ≤ k2 → ns.getD j2 0 + ns.getD k2 0 ≠ ns.getD p 0) : linkOf ns p = some (j, k) := by
  unfold linkOf
  rw [linkGo_skip (k := k + 1) (by omega) fun k2 a b j2 c d => hno k2 (by omega) b j2 c]
  show (match lastIx ns p (ns.getD p 0 - ns.getD k 0) with
    | some j => if j ≤ k then some (j, k) else linkGo ns p k
    | none => linkGo ns p k) = some (j, k)
  cases hx : lastIx ns p (ns.getD p 0 - ns.getD k 0) with
  | none => exact absurd (by omega) (lastIx_none hx j (by omega))
  | some i =>
    have hi := lastIx_lt hx
    obtain rfl : i = j := inj_of hm hi.1 (by omega) (by have := hi.2; omega)
    show (if i ≤ k then some (i, k) else linkGo ns p k) = some (i, k)
    rw [if_pos hjk]
/-! ### a list of links, as it stands in the heap -/
def LinksL (ns : List Int) (acc : List V) (H : Hp) : Prop := acc.length = ns.length - 1 ∧ ∀ i, i < ns.length - 1 → ∃ (t : Addr) (jk : Nat × Nat), linkOf ns (1 + i) = some jk ∧ acc[i]? = some (.ref t) ∧ H t = some (.tup [.int (jk.1 : Int), .int (jk.2 : Int)])
theorem LinksL.same {ns : List Int} {acc : List V} {H H' : Hp} (h : LinksL ns acc H) (e : Same H H') : LinksL ns acc H' := ⟨h.1, fun i hi => by
  obtain ⟨t, jk, a, b, c⟩ := h.2 i hi
  exact ⟨t, jk, a, b, e _ _ c⟩⟩
/-- .. while they are made -/
def LinksR (ns : List Int) (D : Addr) (i : Nat) (acc : List V) (H : Hp) : Prop := acc.length = i ∧ ∀ m, m < i → ∃ (t : Addr) (jk : Nat × Nat), t ≠ D ∧ linkOf ns (1 + m) = some jk ∧ acc[m]? = some (.ref t) ∧ H t = some (.tup [.int (jk.1 : Int), .int (jk.2 : Int)])
theorem linksR_mono {ns : List Int} {H : Hp} : ∀ D i acc H1 H2, H D = none → But D H1 H2 → LinksR ns D i acc H1 → LinksR ns D i acc H2 := fun D i acc H1 H2 _ b h => ⟨h.1, fun m hm => by
  obtain ⟨t, jk, n, a, c, d⟩ := h.2 m hm
  exact ⟨t, jk, n, a, c, b _ _ n d⟩⟩
theorem linksR_nil {ns : List Int} {H : Hp} (D : Addr) : LinksR ns D 0 [] H := ⟨rfl, fun m hm => absurd hm (Nat.not_lt_zero _)⟩
theorem linksR_snoc {ns : List Int} {D : Addr} {i : Nat} {acc : List V} {H H2 : Hp} (h : LinksR ns D i acc H) (hD : H D = some (.lst acc)) (e : Same H H2) {v : V} {jk : Nat × Nat} (hl : linkOf ns (1 + i) = some jk) (hv : LinkV (linkOf ns (1 + i)) v H2) : LinksR ns D (i + 1) (acc ++ [v]) H2 := by
  rw [hl] at hv
  obtain ⟨t, rfl, ht⟩ := hv
  refine ⟨by rw [List.length_append, List.length_singleton, h.1], fun m hm => ?_⟩
  by_cases em : m < i
  · obtain ⟨t2, jk2, n, a, c, d⟩ := h.2 m em
    exact ⟨t2, jk2, n, a, by rw [List.getElem?_append_left (by rw [h.1]; exact em)]; exact c, e _ _ d⟩
  · obtain rfl : m = i := by omega
    refine ⟨t, jk, ne_of ht (e _ _ hD) (by intro z; cases z), hl, ?_, ht⟩
    rw [List.getElem?_append_right (by rw [h.1]; exact Nat.le_refl _), h.1, Nat.sub_self]
    rfl
theorem linksR_end {ns : List Int} {D : Addr} {acc : List V} {H : Hp} (h : LinksR ns D (ns.length - 1) acc H) : LinksL ns acc H := ⟨h.1, fun i hi => by
  obtain ⟨t, jk, _, a, b, c⟩ := h.2 i hi
  exact ⟨t, jk, a, b, c⟩⟩
/-- the data of the links -/
def linkD (ns : List Int) (i : Nat) : PyData := .tuple [.int (((linkOf ns (1 + i)).getD (0, 0)).1 : Int), .int (((linkOf ns (1 + i)).getD (0, 0)).2 : Int)]
theorem dpAll_of {K : PySem.W.Frag} {H : Hp} {f : Nat → PyData} : ∀ {acc : List V} {k : Nat}, (∀ i v, acc[i]? = some v → Dp K H v (f (k + i))) → DpAll K H acc ((List.range acc.length).map fun i => f (k + i))
  | [], _, _ => .nil
  | v :: r, k, h => by
    rw [List.length_cons, List.range_succ_eq_map, List.map_cons, List.map_map]
    refine .cons (h 0 v rfl) ?_
    have ih := dpAll_of (K := K) (H := H) (f := f) (acc := r) (k := k + 1) fun i v hv => by
      have := h (i + 1) v (by simpa using hv)
      rw [show k + (i + 1) = k + 1 + i by omega] at this
      exact this
    have e : ((fun i => f (k + i)) ∘ Nat.succ) = fun i => f (k + 1 + i) := by
      funext i
      show f (k + (i + 1)) = f (k + 1 + i)
      rw [show k + (i + 1) = k + 1 + i by omega]
    rw [e]
    exact ih
theorem LinksL.dp {K : PySem.W.Frag} {ns : List Int} {acc : List V} {H : Hp} {a : Addr} (h : LinksL ns acc H) (ha : SqL K H a acc) : Dp K H (.ref a) (.list ((List.range (ns.length - 1)).map (linkD ns))) := by
  refine .lst ha ?_
  have q := dpAll_of (K := K) (H := H) (f := linkD ns) (acc := acc) (k := 0) fun i v hv => by
    have hi : i < ns.length - 1 := by
      rw [← h.1]
      exact (List.getElem?_eq_some_iff.mp hv).1
    obtain ⟨t, jk, e, hv2, ht⟩ := h.2 i hi
    rw [hv] at hv2
    obtain rfl := Option.some.inj hv2
    rw [Nat.zero_add]
    unfold linkD
    rw [e]
    exact .tup (SqT.of ht) (.cons (.int _) (.cons (.int _) .nil))
  rw [h.1] at q
  simpa using q
theorem link_lay (ns : List Int) : ∀ l : List Nat, PyData.canLayAll0 (l.map (linkD ns)) = true
  | [] => rfl
  | i :: r => by
    have ih := link_lay ns r
    simp [PyData.canLayAll0, PyData.canLay0, ih, linkD]
theorem link_dep (ns : List Int) : ∀ l : List Nat, PyData.depthAll (l.map (linkD ns)) ≤ 1
  | [] => Nat.zero_le _
  | i :: r => by
    have ih := link_dep ns r
    simp [PyData.depthAll, PyData.depth, linkD] at ih ⊢
    omega
theorem link_shp (ns : List Int) (l : List Nat) : SeqAt.shaped (.list (l.map (linkD ns))) = true := by
  have h := link_dep ns l
  simp [SeqAt.shaped, PyData.canLay0, PyData.depth, link_lay]
  omega
theorem link_eqv (ns : List Int) : ∀ l : List Nat, PyData.eqvAll (l.map (linkD ns)) (l.map (linkD ns)) = true
  | [] => by simp [PyData.eqvAll]
  | i :: r => by
    have ih := link_eqv ns r
    simp [PyData.eqvAll, PyData.eqv, linkD, ih]
/-- two lists of the links of one chain are equal -/
theorem r_neLinks {K : PySem.W.Frag} {H : Hp} {Q : VK} {a b : Addr} {ns : List Int} {xs ys : List V} (h1 : H a = some (.lst xs)) (h2 : H b = some (.lst ys)) (l1 : LinksL ns xs H) (l2 : LinksL ns ys H) (q : Q (.bl false) H) : rNeD K (.ref a) (.ref b) H Q :=
  ⟨_, _, l1.dp (SqL.of h1), l2.dp (SqL.of h2), link_shp ns _, link_shp ns _, by
    rw [PyData.eqv, link_eqv]
    exact q⟩
/-! ### two chains joined -/
def joinM (cs ds : List Int) : List Int := cs ++ (ds.drop 1).map (· * gi cs (-1))
theorem join_len {cs ds : List Int} (h2 : 1 ≤ ds.length) : (joinM cs ds).length = cs.length + ds.length - 1 := by
  unfold joinM
  rw [List.length_append, List.length_map, List.length_drop]
  omega
theorem join_lo {cs ds : List Int} {i : Nat} (h : i < cs.length) : (joinM cs ds).getD i 0 = cs.getD i 0 := by
  unfold joinM
  rw [List.getD_eq_getElem?_getD, List.getD_eq_getElem?_getD, List.getElem?_append_left h]
theorem join_hi {cs ds : List Int} (hc : IsAdd cs) (hd : IsAdd ds) {q : Nat} (h : q < ds.length) : (joinM cs ds).getD (cs.length - 1 + q) 0 = ds.getD q 0 * gi cs (-1) := by
  have hl := hc.lo
  have hne : cs ≠ [] := fun z => by
    rw [z] at hl
    exact absurd hl (by decide)
  by_cases e : q = 0
  · subst e
    rw [Nat.add_zero, join_lo (by omega), hd.one, Int.one_mul, gi_last cs hne]
  · unfold joinM
    rw [List.getD_eq_getElem?_getD, List.getElem?_append_right (by omega), List.getElem?_map, List.getElem?_drop, show 1 + (cs.length - 1 + q - cs.length) = q by omega, getD_get 0 h]
    rfl
theorem gi_last_pos {cs : List Int} (hc : IsAdd cs) : 1 ≤ gi cs (-1) := by
  have hl := hc.lo
  rw [gi_last cs fun z => by
    rw [z] at hl
    exact absurd hl (by decide)]
  exact hc.pos (by omega)
theorem IsAdd.join {cs ds : List Int} (hc : IsAdd cs) (hd : IsAdd ds) : IsAdd (joinM cs ds) := by
  have hl := hc.lo
  have hl2 := hd.lo
  have hlen := join_len (cs := cs) hl2
  have hL := gi_last_pos hc
  refine ⟨by omega, by rw [join_lo (by omega)]; exact hc.one, fun p h1 h2 => ?_⟩
  by_cases hp : p < cs.length
  · obtain ⟨a, i, j, hi, hj, e⟩ := hc.step p h1 hp
    rw [join_lo (by omega), join_lo hp]
    refine ⟨a, i, j, hi, hj, ?_⟩
    rw [join_lo (by omega), join_lo (by omega)]
    exact e
  · obtain ⟨q, rfl⟩ : ∃ q, p = cs.length - 1 + q := ⟨p - (cs.length - 1), by omega⟩
    obtain ⟨a, i, j, hi, hj, e⟩ := hd.step q (by omega) (by omega)
    rw [show cs.length - 1 + q - 1 = cs.length - 1 + (q - 1) by omega, join_hi hc hd (by omega), join_hi hc hd (by omega)]
    refine ⟨Int.mul_lt_mul_of_pos_right a (by omega), cs.length - 1 + i, cs.length - 1 + j, by omega, by omega, ?_⟩
    rw [join_hi hc hd (by omega), join_hi hc hd (by omega), e, Int.add_mul]
theorem join_last {cs ds : List Int} (hc : IsAdd cs) (hd : IsAdd ds) : gi (joinM cs ds) (-1) = gi ds (-1) * gi cs (-1) := by
  have hl := hc.lo
  have hl2 := hd.lo
  have hlen := join_len (cs := cs) hl2
  rw [gi_last (joinM cs ds) (fun z => by
    rw [z] at hlen
    have : ([] : List Int).length = 0 := rfl
    omega), hlen, show cs.length + ds.length - 1 - 1 = cs.length - 1 + (ds.length - 1) by omega, join_hi hc hd (by omega), gi_last ds (fun z => by
    rw [z] at hl2
    exact absurd hl2 (by decide))]
theorem last_eq {cs : List Int} (hc : IsAdd cs) : gi cs (-1) = cs.getD (cs.length - 1) 0 := gi_last cs fun z => by
  have hl := hc.lo
  rw [z] at hl
  exact absurd hl (by decide)
/-- a product of numbers of at most forty figures or so -/
theorem wide_of {i j : Int} (h1 : 0 ≤ i) (h2 : i < 2 ^ 200) (h3 : 0 ≤ j) (h4 : j < 2 ^ 200) : CMulW i j := wide_mul (a := 200) (b := 200) (by omega) (by omega) (by decide) (by decide) (by decide)
theorem wide_abs {i j : Int} (h1 : -(2 ^ 200) < i) (h2 : i < 2 ^ 200) (h3 : -(2 ^ 200) < j) (h4 : j < 2 ^ 200) : CMulW i j := wide_mul (a := 200) (b := 200) (by omega) (by omega) (by decide) (by decide) (by decide)
/-! ### promises -/
def spAsked : Sp := fun vs H Q _ => ∃ (a : Addr) (ns : List Int), vs = [.ref a] ∧ H a = some (.lst (ns.map V.int)) ∧ IsCh ns ∧ ∀ H', Same H H' → Q .non H'
theorem c_asked {a : Addr} {ns : List Int} {H : Hp} {Q : VK} {E : XK} (h : H a = some (.lst (ns.map V.int))) (hc : IsCh ns) (q : ∀ H', Same H H' → Q .non H') : spAsked [.ref a] H Q E := ⟨a, ns, rfl, h, hc, q⟩
def spLinksBy : Sp := fun vs H Q _ => ∃ (a : Addr) (ns : List Int), vs = [.ref a] ∧ H a = some (.lst (ns.map V.int)) ∧ IsCh ns ∧ ∀ p acc H', Same H H' → H p = none → H' p = some (.lst acc) → LinksL ns acc H' → (∀ t, .ref t ∈ acc → t ≠ p) → Q (.ref p) H'
theorem c_links_by {a : Addr} {ns : List Int} {H : Hp} {Q : VK} {E : XK} (h : H a = some (.lst (ns.map V.int))) (hc : IsCh ns) (q : ∀ p acc H', Same H H' → H p = none → H' p = some (.lst acc) → LinksL ns acc H' → (∀ t, .ref t ∈ acc → t ≠ p) → Q (.ref p) H') : spLinksBy [.ref a] H Q E := ⟨a, ns, rfl, h, hc, q⟩
def spLawLink : Sp := fun vs H Q _ => ∃ (a : Addr) (ns : List Int) (p : Nat), vs = [.ref a, .int (p : Int)] ∧ H a = some (.lst (ns.map V.int)) ∧ IsAdd ns ∧ (1 ≤ p ∧ p < ns.length ∧ ns.length ≤ 1000) ∧ ∀ v H', Same H H' → LinkV (linkOf ns p) v H' → (∀ t, v = .ref t → H t = none) → Q v H'
theorem c_law_link {a : Addr} {ns : List Int} {i : Int} {p : Nat} {H : Hp} {Q : VK} {E : XK} (e : i = (p : Int)) (h : H a = some (.lst (ns.map V.int))) (hA : IsAdd ns) (hp : 1 ≤ p ∧ p < ns.length ∧ ns.length ≤ 1000) (q : ∀ v H', Same H H' → LinkV (linkOf ns p) v H' → (∀ t, v = .ref t → H t = none) → Q v H') : spLawLink [.ref a, .int i] H Q E :=
  ⟨a, ns, p, by rw [e], h, hA, hp, q⟩
/-- a longer chain -/
def spLongBy (K : PySem.W.Frag) : Sp := fun vs H Q _ => ∃ (a : Addr) (ns : List Int) (first : Int), vs = [.ref a, .int first] ∧ SqL K H a (ns.map V.int) ∧ 0 ≤ first ∧
  ∀ (cs : List Int) p H', IsAdd cs → cs.length ≤ 91 → (∀ i, i < cs.length → cs.getD i 0 < 1000000000000 ^ 3) → Same H H' → H p = none → H' p = some (.lst (cs.map V.int)) → Q (.ref p) H'
theorem c_long_by {K : PySem.W.Frag} {a : Addr} {ns : List Int} {first : Int} {H : Hp} {Q : VK} {E : XK} (h : SqL K H a (ns.map V.int)) (hb : 0 ≤ first)
    (q : ∀ (cs : List Int) p H', IsAdd cs → cs.length ≤ 91 → (∀ i, i < cs.length → cs.getD i 0 < 1000000000000 ^ 3) → Same H H' → H p = none → H' p = some (.lst (cs.map V.int)) → Q (.ref p) H') : spLongBy K [.ref a, .int first] H Q E := ⟨a, ns, first, rfl, h, hb, q⟩
theorem count_add : ∀ k : Nat, IsAdd ((List.range (k + 1)).map fun i : Nat => (1 : Int) + (i : Int))
  | 0 => IsAdd.single
  | k + 1 => by
    have ih := count_add k
    have hl : ((List.range (k + 1)).map fun i : Nat => (1 : Int) + (i : Int)).length = k + 1 := by rw [List.length_map, List.length_range]
    have g : ∀ i, i < k + 1 → ((List.range (k + 1)).map fun i : Nat => (1 : Int) + (i : Int)).getD i 0 = 1 + (i : Int) := fun i hi => by
      rw [List.getD_eq_getElem?_getD, List.getElem?_map, List.getElem?_range hi]
      rfl
    rw [List.range_succ, List.map_append]
    refine ih.snoc (i := 0) (j := k) (by omega) (by omega) ?_ ?_
    · rw [g 0 (by omega), g k (by omega)]
      show (1 : Int) + ((k + 1 : Nat) : Int) = _
      omega
    · rw [hl, g (k + 1 - 1) (by omega)]
      show _ < (1 : Int) + ((k + 1 : Nat) : Int)
      omega
theorem count_get {k i : Nat} (hi : i < k) : ((List.range k).map fun i : Nat => (1 : Int) + (i : Int)).getD i 0 = 1 + (i : Int) := by
  rw [List.getD_eq_getElem?_getD, List.getElem?_map, List.getElem?_range hi]
  rfl
theorem join_bound {cs ds : List Int} (hc : IsAdd cs) (hd : IsAdd ds) {b c : Int} (h1 : ∀ i, i < cs.length → cs.getD i 0 < b) (h2 : ∀ i, i < ds.length → ds.getD i 0 < c) (hb : 0 < b) (hcc : 1 ≤ c) : ∀ i, i < (joinM cs ds).length → (joinM cs ds).getD i 0 < b * c := by
  intro i hi
  have hl := hc.lo
  rw [join_len hd.lo] at hi
  by_cases e : i < cs.length
  · rw [join_lo e]
    have := h1 i e
    have := Int.mul_le_mul_of_nonneg_left hcc (Int.le_of_lt hb)
    omega
  · obtain ⟨q, rfl⟩ : ∃ q, i = cs.length - 1 + q := ⟨i - (cs.length - 1), by omega⟩
    rw [join_hi hc hd (by omega)]
    have g1 := h2 q (by omega)
    have g2 := hd.pos (show q < ds.length by omega)
    have g3 := gi_last_pos hc
    have g4 : gi cs (-1) < b := by
      rw [last_eq hc]
      exact h1 _ (by omega)
    have k1 := Int.mul_lt_mul_of_pos_right g1 (show 0 < gi cs (-1) by omega)
    have k2 := Int.mul_lt_mul_of_pos_left g4 (show 0 < c by omega)
    rw [Int.mul_comm b c]
    omega
/-- two lists of two chains are equal -/
def pairD (ns ms : List Int) : PyData := .list [.list (ns.map PyData.int), .list (ms.map PyData.int)]
theorem pair_shp (ns ms : List Int) : SeqAt.shaped (pairD ns ms) = true := by simp [pairD, SeqAt.shaped, PyData.canLay0, PyData.canLayAll0, PyData.depth, PyData.depthAll, lay_ints, dep_ints]
theorem pair_eqv (ns ms : List Int) : PyData.eqv (pairD ns ms) (pairD ns ms) = true := by simp [pairD, PyData.eqv, PyData.eqvAll, eqv_ints]
theorem dp_pair {K : PySem.W.Frag} {H : Hp} {a b c : Addr} {ns ms : List Int} (h : H a = some (.lst [.ref b, .ref c])) (hb : H b = some (.lst (ns.map V.int))) (hc : H c = some (.lst (ms.map V.int))) : Dp K H (.ref a) (pairD ns ms) :=
  .lst (SqL.of h) (.cons (dp_list (SqL.of hb)) (.cons (dp_list (SqL.of hc)) .nil))
theorem r_nePair {K : PySem.W.Frag} {H : Hp} {Q : VK} {a b c a' b' c' : Addr} {ns ms : List Int} (h : H a = some (.lst [.ref b, .ref c])) (hb : H b = some (.lst (ns.map V.int))) (hc : H c = some (.lst (ms.map V.int))) (h' : H a' = some (.lst [.ref b', .ref c'])) (hb' : H b' = some (.lst (ns.map V.int))) (hc' : H c' = some (.lst (ms.map V.int))) (q : Q (.bl false) H) : rNeD K (.ref a) (.ref a') H Q :=
  ⟨_, _, dp_pair h hb hc, dp_pair h' hb' hc', pair_shp ns ms, pair_shp ns ms, by
    rw [pair_eqv]
    exact q⟩
/-- texts, as data -/
theorem r_eqS {K : PySem.W.Frag} {H : Hp} {Q : VK} {a b : Str} (ha : PyData.strOk a = true) (hb : PyData.strOk b = true) (q : Q (.bl (decide (a = b))) H) : rEqD K (.str a) (.str b) H Q :=
  ⟨_, _, .str a, .str b, by simp [SeqAt.shaped, PyData.canLay0, PyData.depth, ha], by simp [SeqAt.shaped, PyData.canLay0, PyData.depth, hb], by
    rw [PyData.eqv, Bool.beq_eq_decide_eq]
    exact q⟩
end Fs

/-! ## What the end of a chain needs -/
namespace Fs
open PySem PySem.Spec PyProof.Rows L2
/-- the end, and the two places of the link of a needed place -/
inductive Need (ns : List Int) : Nat → Prop where
  | last : Need ns (ns.length - 1)
  | lo {p : Nat} {jk : Nat × Nat} (h : Need ns p) (h1 : 1 ≤ p) (e : linkOf ns p = some jk) : Need ns jk.1
  | hi {p : Nat} {jk : Nat × Nat} (h : Need ns p) (h1 : 1 ≤ p) (e : linkOf ns p = some jk) : Need ns jk.2
theorem Need.lt {ns : List Int} (hl : 1 ≤ ns.length) {p : Nat} (h : Need ns p) : p < ns.length := by
  induction h with
  | last => omega
  | lo h h1 e ih =>
    have := link_facts e
    omega
  | hi h h1 e ih =>
    have := link_facts e
    omega
theorem Need.down {ns : List Int} (hA : IsAdd ns) : ∀ p, Need ns p → Need ns 0 := by
  intro p
  induction p using Nat.strongRecOn with
  | ind p ih =>
    intro h
    by_cases h1 : 1 ≤ p
    · obtain ⟨jk, e⟩ := hA.link h1 (h.lt hA.lo)
      have := link_facts e
      exact ih jk.1 (by omega) (.lo h h1 e)
    · obtain rfl : p = 0 := by omega
      exact h
theorem Need.zero {ns : List Int} (hA : IsAdd ns) : Need ns 0 := Need.down hA _ .last
/-- what is closed and holds the end holds all that is needed -/
theorem Need.sub {ns : List Int} {S : Nat → Prop} (h0 : S (ns.length - 1)) (hc : ∀ p jk, S p → 1 ≤ p → linkOf ns p = some jk → S jk.1 ∧ S jk.2) : ∀ p, Need ns p → S p := by
  intro p h
  induction h with
  | last => exact h0
  | lo h h1 e ih => exact (hc _ _ ih h1 e).1
  | hi h h1 e ih => exact (hc _ _ ih h1 e).2
open Classical in
/-- the places that are needed, in order; the numbers there -/
noncomputable def needs (ns : List Int) : List Nat := (List.range ns.length).filter fun p => decide (Need ns p)
noncomputable def thin (ns : List Int) : List Int := (needs ns).map fun p => ns.getD p 0
open Classical in
theorem mem_needs {ns : List Int} {p : Nat} : p ∈ needs ns ↔ p < ns.length ∧ Need ns p := by
  unfold needs
  rw [List.mem_filter, List.mem_range]
  exact ⟨fun h => ⟨h.1, of_decide_eq_true h.2⟩, fun h => ⟨h.1, decide_eq_true h.2⟩⟩
theorem needs_sorted (ns : List Int) : (needs ns).Pairwise (· < ·) := List.Pairwise.filter _ List.pairwise_lt_range
theorem sorted_get {ps : List Nat} (h : ps.Pairwise (· < ·)) {i j : Nat} (hij : i < j) (hj : j < ps.length) : ps.getD i 0 < ps.getD j 0 := by
  rw [List.getD_eq_getElem?_getD, List.getD_eq_getElem?_getD, List.getElem?_eq_getElem hj, List.getElem?_eq_getElem (by omega)]
  exact List.pairwise_iff_getElem.mp h i j (by omega) hj hij
theorem sorted_lt {ps : List Nat} (h : ps.Pairwise (· < ·)) {i j : Nat} (hi : i < ps.length) (hj : j < ps.length) (e : ps.getD i 0 < ps.getD j 0) : i < j := by
  by_cases h1 : j < i
  · have := sorted_get h h1 hi
    omega
  · by_cases h2 : i = j
    · subst h2
      omega
    · omega
theorem sorted_inj {ps : List Nat} (h : ps.Pairwise (· < ·)) {i j : Nat} (hi : i < ps.length) (hj : j < ps.length) (e : ps.getD i 0 = ps.getD j 0) : i = j := by
  by_cases h1 : i < j
  · have := sorted_get h h1 hj
    omega
  · by_cases h2 : j < i
    · have := sorted_get h h2 hi
      omega
    · omega
theorem mem_getD {α : Type} {ps : List α} {d x : α} (h : x ∈ ps) : ∃ i, i < ps.length ∧ ps.getD i d = x := by
  obtain ⟨i, hi⟩ := List.mem_iff_getElem?.mp h
  have hl := (List.getElem?_eq_some_iff.mp hi).1
  exact ⟨i, hl, by rw [List.getD_eq_getElem?_getD, hi]; rfl⟩
theorem getD_mem {α : Type} {ps : List α} {d : α} {i : Nat} (h : i < ps.length) : ps.getD i d ∈ ps := List.mem_of_getElem? (getD_get d h)
theorem thin_get {ns : List Int} {i : Nat} (h : i < (needs ns).length) : (thin ns).getD i 0 = ns.getD ((needs ns).getD i 0) 0 := by
  unfold thin
  rw [List.getD_eq_getElem?_getD, List.getElem?_map, getD_get 0 h]
  rfl
theorem thin_len (ns : List Int) : (thin ns).length = (needs ns).length := by
  unfold thin
  rw [List.length_map]
theorem needs_le (ns : List Int) : (needs ns).length ≤ ns.length := by
  unfold needs
  have := List.length_filter_le (fun p => @decide (Need ns p) (Classical.propDecidable _)) (List.range ns.length)
  rw [List.length_range] at this
  exact this
/-- the first and the last of the needed places -/
theorem needs_first {ns : List Int} (hA : IsAdd ns) : 1 ≤ (needs ns).length ∧ (needs ns).getD 0 0 = 0 := by
  obtain ⟨i, hi, e⟩ := mem_getD (d := 0) (mem_needs.mpr ⟨hA.lo, Need.zero hA⟩)
  refine ⟨by omega, ?_⟩
  by_cases h0 : i = 0
  · subst h0
    exact e
  · have := sorted_get (needs_sorted ns) (i := 0) (j := i) (by omega) hi
    omega
theorem needs_last {ns : List Int} (hA : IsAdd ns) : (needs ns).getD ((needs ns).length - 1) 0 = ns.length - 1 := by
  have hl := hA.lo
  have hf := needs_first hA
  obtain ⟨i, hi, e⟩ := mem_getD (d := 0) (mem_needs.mpr ⟨(by omega : ns.length - 1 < ns.length), Need.last⟩)
  have hm : (needs ns).getD ((needs ns).length - 1) 0 < ns.length := (mem_needs.mp (getD_mem (by omega))).1
  by_cases h0 : i = (needs ns).length - 1
  · subst h0
    exact e
  · have := sorted_get (needs_sorted ns) (i := i) (j := (needs ns).length - 1) (by omega) (by omega)
    omega
/-- the links of what is left -/
theorem needs_link {ns : List Int} (hA : IsAdd ns) {i : Nat} (h1 : 1 ≤ i) (hi : i < (needs ns).length) : ∃ jk, linkOf ns ((needs ns).getD i 0) = some jk ∧ ∃ a b, a < (needs ns).length ∧ b < i ∧ a ≤ b ∧ (needs ns).getD a 0 = jk.1 ∧ (needs ns).getD b 0 = jk.2 := by
  have hs := needs_sorted ns
  have hf := needs_first hA
  obtain ⟨hp, hN⟩ := mem_needs.mp (getD_mem (d := 0) hi)
  have h0 := sorted_get hs (i := 0) (j := i) (by omega) hi
  obtain ⟨jk, e⟩ := hA.link (show 1 ≤ (needs ns).getD i 0 by omega) hp
  have lf := link_facts e
  obtain ⟨a, ha, ea⟩ := mem_getD (d := 0) (mem_needs.mpr ⟨by omega, Need.lo hN (by omega) e⟩)
  obtain ⟨b, hb, eb⟩ := mem_getD (d := 0) (mem_needs.mpr ⟨by omega, Need.hi hN (by omega) e⟩)
  refine ⟨jk, e, a, b, ha, sorted_lt hs hb hi (by omega), ?_, ea, eb⟩
  by_cases hab : b < a
  · have := sorted_get hs hab ha
    omega
  · omega
theorem IsAdd.thin {ns : List Int} (hA : IsAdd ns) : IsAdd (Fs.thin ns) := by
  have hf := needs_first hA
  have hs := needs_sorted ns
  have hlen := thin_len ns
  refine ⟨by omega, by rw [thin_get (by omega), hf.2]; exact hA.one, fun p h1 h2 => ?_⟩
  rw [hlen] at h2
  rw [thin_get (by omega), thin_get h2]
  refine ⟨mono_of (fun q a b => (hA.step q a b).1) (sorted_get hs (by omega) h2) (mem_needs.mp (getD_mem h2)).1, ?_⟩
  obtain ⟨jk, e, a, b, ha, hb, hab, ea, eb⟩ := needs_link hA h1 h2
  refine ⟨a, b, by omega, hb, ?_⟩
  rw [thin_get ha, thin_get (by omega), ea, eb]
  exact (link_facts e).2.2.symm
theorem link_max {ns : List Int} {p : Nat} (hm : ∀ q, 1 ≤ q → q < p → ns.getD (q - 1) 0 < ns.getD q 0) {m : Nat} {jk : Nat × Nat} (hmp : m ≤ p) (h : linkGo ns p m = some jk) : ∀ k2, jk.2 < k2 → k2 < m → ∀ j2, j2 ≤ k2 → ns.getD j2 0 + ns.getD k2 0 ≠ ns.getD p 0 := by
  induction m with
  | zero => intro k2 _ h2; omega
  | succ m ih =>
    intro k2 h1 h2 j2 h3 e
    unfold linkGo at h
    cases hx : lastIx ns p (ns.getD p 0 - ns.getD m 0) with
    | none =>
      rw [hx] at h
      by_cases ek : k2 = m
      · subst ek
        exact lastIx_none hx j2 (by omega) (by omega)
      · exact ih (by omega) h k2 h1 (by omega) j2 h3 e
    | some i =>
      rw [hx] at h
      replace h : (if i ≤ m then some (i, m) else linkGo ns p m) = some jk := h
      by_cases hi : i ≤ m
      · rw [if_pos hi] at h
        obtain rfl := Option.some.inj h
        have : m < k2 := h1
        omega
      · rw [if_neg hi] at h
        by_cases ek : k2 = m
        · subst ek
          have hil := lastIx_lt hx
          have : i = j2 := inj_of hm hil.1 (by omega) (by have := hil.2; omega)
          omega
        · exact ih (by omega) h k2 h1 (by omega) j2 h3 e
theorem thin_link {ns : List Int} (hA : IsAdd ns) {i : Nat} (h1 : 1 ≤ i) (hi : i < (needs ns).length) : ∃ jk ab, linkOf ns ((needs ns).getD i 0) = some jk ∧ linkOf (thin ns) i = some ab ∧ ab.1 < (needs ns).length ∧ ab.2 < (needs ns).length ∧ (needs ns).getD ab.1 0 = jk.1 ∧ (needs ns).getD ab.2 0 = jk.2 := by
  obtain ⟨jk, e, a, b, ha, hb, hab, ea, eb⟩ := needs_link hA h1 hi
  have hlen := thin_len ns
  have hs := needs_sorted ns
  refine ⟨jk, (a, b), e, ?_, ha, by show b < _; omega, ea, eb⟩
  have hp := (mem_needs.mp (getD_mem (d := 0) hi)).1
  refine link_unique (fun q c d => (hA.thin.step q c (by omega)).1) hab hb ?_ fun k2 c d j2 f => ?_
  · rw [thin_get ha, thin_get (by omega), thin_get hi, ea, eb]
    exact (link_facts e).2.2
  · rw [thin_get (by omega), thin_get (by omega), thin_get hi]
    refine link_max (m := (needs ns).getD i 0) (fun q x y => (hA.step q x (by omega)).1) (Nat.le_refl _) e _ ?_ (sorted_get hs d hi) _ ?_
    · have := sorted_get hs c (by omega)
      omega
    · by_cases ejk : j2 = k2
      · subst ejk
        exact Nat.le_refl _
      · have := sorted_get hs (show j2 < k2 by omega) (by omega)
        omega
theorem thin_needs {ns : List Int} (hA : IsAdd ns) : ∀ x, Need ns x → ∀ a, a < (needs ns).length → (needs ns).getD a 0 = x → Need (thin ns) a := by
  have hs := needs_sorted ns
  have hf := needs_first hA
  intro x h
  induction h with
  | last =>
    intro a ha e
    obtain rfl : a = (needs ns).length - 1 := sorted_inj hs ha (by omega) (by rw [e, needs_last hA])
    rw [← thin_len]
    exact .last
  | @lo p jk h h1 e ih =>
    intro a ha ea
    obtain ⟨i, hi, ei⟩ := mem_getD (d := 0) (mem_needs.mpr ⟨h.lt hA.lo, h⟩)
    have hi1 : 1 ≤ i := by
      by_cases h0 : i = 0
      · subst h0
        omega
      · omega
    obtain ⟨jk2, ab, e2, e3, ha1, hb1, ea1, eb1⟩ := thin_link hA hi1 hi
    rw [ei, e] at e2
    obtain rfl := Option.some.inj e2
    obtain rfl : ab.1 = a := sorted_inj hs ha1 ha (by omega)
    exact .lo (ih i hi ei) hi1 e3
  | @hi p jk h h1 e ih =>
    intro a ha ea
    obtain ⟨i, hi, ei⟩ := mem_getD (d := 0) (mem_needs.mpr ⟨h.lt hA.lo, h⟩)
    have hi1 : 1 ≤ i := by
      by_cases h0 : i = 0
      · subst h0
        omega
      · omega
    obtain ⟨jk2, ab, e2, e3, ha1, hb1, ea1, eb1⟩ := thin_link hA hi1 hi
    rw [ei, e] at e2
    obtain rfl := Option.some.inj e2
    obtain rfl : ab.2 = a := sorted_inj hs hb1 ha (by omega)
    exact .hi (ih i hi ei) hi1 e3
open Classical in
/-- where all is needed, nothing is left out -/
theorem thin_all {ns : List Int} (h : ∀ p, p < ns.length → Need ns p) : thin ns = ns := by
  have e : needs ns = List.range ns.length := by
    unfold needs
    rw [List.filter_eq_self]
    intro p hp
    exact decide_eq_true (h p (List.mem_range.mp hp))
  unfold thin
  rw [e]
  refine List.ext_getElem (by rw [List.length_map, List.length_range]) fun i h1 h2 => ?_
  rw [List.getElem_map, List.getElem_range, List.getD_eq_getElem?_getD, List.getElem?_eq_getElem h2]
  rfl
theorem thin_thin {ns : List Int} (hA : IsAdd ns) : thin (thin ns) = thin ns := thin_all fun p hp => by
  rw [thin_len] at hp
  exact thin_needs hA _ (mem_needs.mp (getD_mem (d := 0) hp)).2 p hp rfl
theorem thin_last {ns : List Int} (hA : IsAdd ns) : gi (thin ns) (-1) = gi ns (-1) := by
  have hf := needs_first hA
  rw [last_eq hA.thin, last_eq hA, thin_len, thin_get (by omega), needs_last hA]
theorem IsCh.thin {ns : List Int} (h : IsCh ns) : IsCh (Fs.thin ns) := by
  obtain ⟨hA, hl⟩ := (ch_iff ns).mp h
  refine (ch_iff _).mpr ⟨hA.thin, ?_⟩
  rw [thin_len]
  exact Nat.le_trans (needs_le ns) hl
def spThinned : Sp := fun vs H Q _ => ∃ (a : Addr) (ns : List Int), vs = [.ref a] ∧ H a = some (.lst (ns.map V.int)) ∧ IsCh ns ∧ ∀ p H', Same H H' → H p = none → H' p = some (.lst ((thin ns).map V.int)) → Q (.ref p) H'
theorem c_thinned {a : Addr} {ns : List Int} {H : Hp} {Q : VK} {E : XK} (h : H a = some (.lst (ns.map V.int))) (hc : IsCh ns) (q : ∀ p H', Same H H' → H p = none → H' p = some (.lst ((thin ns).map V.int)) → Q (.ref p) H') : spThinned [.ref a] H Q E := ⟨a, ns, rfl, h, hc, q⟩
end Fs

/-! ## What is needed, found from the end on -/
namespace Fs
open PySem PySem.Spec PyProof.Rows L2
/-- the places found, where those from m on are done -/
structure Part (ns : List Int) (m : Nat) (S : Int → Prop) : Prop where
  last : S ((ns.length - 1 : Nat) : Int)
  sound : ∀ x, S x → ∃ p : Nat, x = (p : Int) ∧ Need ns p
  closed : ∀ p : Nat, m ≤ p → 1 ≤ p → S (p : Int) → ∀ jk, linkOf ns p = some jk → S (jk.1 : Int) ∧ S (jk.2 : Int)
theorem Part.start {ns : List Int} {S : Int → Prop} (hA : IsAdd ns) (h : ∀ x, S x ↔ x = ((ns.length - 1 : Nat) : Int) ∨ x = 0) : Part ns ns.length S := by
  refine ⟨(h _).mpr (.inl rfl), fun x hx => ?_, fun p h1 h2 h3 jk e => ?_⟩
  · rcases (h x).mp hx with e | e
    · exact ⟨_, e, Need.last⟩
    · exact ⟨0, e, Need.zero hA⟩
  · have hl := hA.lo
    rcases (h _).mp h3 with e | e
    · omega
    · omega
theorem Part.start1 {ns : List Int} {S : Int → Prop} (hA : IsAdd ns) (h : ∀ x, S x ↔ x = ((ns.length - 1 : Nat) : Int)) : Part ns ns.length S := by
  refine ⟨(h _).mpr rfl, fun x hx => ⟨_, (h x).mp hx, Need.last⟩, fun p h1 h2 h3 jk e => ?_⟩
  have hl := hA.lo
  have := (h _).mp h3
  omega
theorem Part.skip {ns : List Int} {p : Nat} {S : Int → Prop} (h : Part ns (p + 1) S) (hn : ¬ S (p : Int)) : Part ns p S := by
  refine ⟨h.last, h.sound, fun q h1 h2 h3 jk e => ?_⟩
  by_cases hq : q = p
  · subst hq
    exact absurd h3 hn
  · exact h.closed q (by omega) h2 h3 jk e
theorem Part.take {ns : List Int} {p : Nat} {S S' : Int → Prop} {jk : Nat × Nat} (h : Part ns (p + 1) S) (hp : S (p : Int)) (h1 : 1 ≤ p) (e : linkOf ns p = some jk) (h' : ∀ x, S' x ↔ S x ∨ x = (jk.1 : Int) ∨ x = (jk.2 : Int)) : Part ns p S' := by
  have lf := link_facts e
  obtain ⟨p', ep, hN⟩ := h.sound _ hp
  obtain rfl : p = p' := by omega
  refine ⟨(h' _).mpr (.inl h.last), fun x hx => ?_, fun q h1' h2 h3 jk2 e2 => ?_⟩
  · rcases (h' x).mp hx with hx | hx | hx
    · exact h.sound x hx
    · exact ⟨_, hx, hN.lo h1 e⟩
    · exact ⟨_, hx, hN.hi h1 e⟩
  · by_cases hq : q = p
    · subst hq
      rw [e] at e2
      obtain rfl := Option.some.inj e2
      exact ⟨(h' _).mpr (.inr (.inl rfl)), (h' _).mpr (.inr (.inr rfl))⟩
    · have hs : S (q : Int) := by
        rcases (h' _).mp h3 with hx | hx | hx
        · exact hx
        · omega
        · omega
      have := h.closed q (by omega) h2 hs jk2 e2
      exact ⟨(h' _).mpr (.inl this.1), (h' _).mpr (.inl this.2)⟩
theorem Part.done {ns : List Int} {S : Int → Prop} (h : Part ns 1 S) (p : Nat) : S (p : Int) ↔ Need ns p := by
  refine ⟨fun hs => ?_, fun hN => Need.sub (S := fun p => S (p : Int)) h.last (fun p jk a b c => h.closed p b b a jk c) p hN⟩
  obtain ⟨p', e, hN⟩ := h.sound _ hs
  obtain rfl : p = p' := by omega
  exact hN
open Classical in
/-- the numbers needed of the first so many -/
noncomputable def thinTo (ns : List Int) (i : Nat) : List Int := ((List.range i).filter fun p => decide (Need ns p)).map fun p => ns.getD p 0
theorem thinTo_end (ns : List Int) : thinTo ns ns.length = thin ns := rfl
open Classical in
theorem thinTo_yes {ns : List Int} {i : Nat} (h : Need ns i) : thinTo ns (i + 1) = thinTo ns i ++ [ns.getD i 0] := by
  unfold thinTo
  rw [List.range_succ, List.filter_append, List.map_append, List.filter_cons, if_pos (decide_eq_true h)]
  rfl
open Classical in
theorem thinTo_no {ns : List Int} {i : Nat} (h : ¬ Need ns i) : thinTo ns (i + 1) = thinTo ns i := by
  unfold thinTo
  rw [List.range_succ, List.filter_append, List.map_append, List.filter_cons, if_neg (fun z => h (of_decide_eq_true z))]
  exact List.append_nil _
/-! keys of a dict, items of a list -/
def HasK (kvs : List (Key × V)) (x : Int) : Prop := (valV kvs (Sum.inl x)).isSome = true
theorem hasK_put {kvs : List (Key × V)} {k : Int} {v : V} (x : Int) : HasK (putK kvs (Sum.inl k) v) x ↔ HasK kvs x ∨ x = k := by
  unfold HasK
  rw [valV_put]
  by_cases e : x = k
  · subst e
    rw [if_pos rfl]
    exact ⟨fun _ => .inr rfl, fun _ => rfl⟩
  · rw [if_neg (fun z => e (Sum.inl.inj z))]
    exact ⟨fun h => .inl h, fun h => h.resolve_right e⟩
section
variable {σ : L2.St} {H : Hp} {K : PySem.W.Frag} {Q : VK} {ty td : TE}
theorem d_disp2 {tk : TE} {k1 k2 : Int} {v1 v2 : V} (h : ∀ H' (Q' : VK), Same H H' → Q' (.int k1) H' → tk σ H' Q') (q : ∀ p, H p = none → Q (.ref p) (upd H p (.dK (putK [(Sum.inl k1, v1)] (Sum.inl k2) v2)))) : tDisp [(tk, tC v1), (tC (.int k2), tC v2)] σ H Q := fun p hp =>
  h _ _ (same_new hp) ⟨upd_same, [(Sum.inl k1, v1), (Sum.inl k2, v2)], rfl, (show 2 ≤ 15 by decide), by
    rw [upd_upd]
    exact q p hp⟩
theorem inV_ints {x : Int} : ∀ ms : List Int, inV (.int x) (ms.map V.int) = decide (x ∈ ms)
  | [] => by simp [inV]
  | m :: r => by
    have ih := inV_ints (x := x) r
    unfold inV at ih ⊢
    rw [List.map_cons, List.any_cons, ih]
    have e : eqV (.int m) (.int x) = decide (x = m) := by
      show (m == x) = decide (x = m)
      rw [Bool.beq_eq_decide_eq]
      by_cases h : m = x
      · subst h
        simp
      · rw [decide_eq_false h, decide_eq_false (fun z => h z.symm)]
    rw [e]
    by_cases h1 : x = m <;> by_cases h2 : x ∈ r <;> simp [h1, h2]
theorem flat_ints : ∀ ms : List Int, (ms.map V.int).all flatV = true
  | [] => rfl
  | m :: r => by
    rw [List.map_cons, List.all_cons, flat_ints r]
    rfl
theorem r_inI {p : Addr} {x : Int} {ms : List Int} (h : SqL K H p (ms.map V.int)) (q : Q (.bl (decide (x ∈ ms))) H) : rIn K false (.int x) (.ref p) H Q := ⟨p, _, rfl, .inl h, rfl, flat_ints ms, by
  rw [inV_ints]
  exact q⟩
theorem r_notInI {p : Addr} {x : Int} {ms : List Int} (h : SqL K H p (ms.map V.int)) (q : Q (.bl (!decide (x ∈ ms))) H) : rIn K true (.int x) (.ref p) H Q := ⟨p, _, rfl, .inl h, rfl, flat_ints ms, by
  rw [inV_ints]
  exact q⟩
theorem op_in_at {X : Cx} {K : PySem.W.Frag} (e : X.K = K := by rfl) : OpR X (compareOp .In) (rIn K false) := by
  subst e
  exact op_in_seq
theorem n_listT {p : Addr} {xs : List V} (h : SqT K H p xs) (q : ∀ l H1, H l = none → Same H H1 → H1 l = some (.lst xs) → Q (.ref l) H1) : rLs K [.ref p] H Q := ⟨p, _, rfl, .inr h, fun l hl => q l _ hl (same_new hl) upd_same⟩
end
/-- a turn of the last comprehension -/
theorem lct_thin {tt : TT} {te : TE} {σ : L2.St} {H : Hp} {ns : List Int} {i : Nat} {b : Bool} (hb : b = true ↔ Need ns i) (ht : ∀ H' (R : Bool → Hp → Prop), Same H H' → R b H' → tt σ H' R) (he : ∀ H' (K1 : VK), Same H H' → K1 (.int (ns.getD i 0)) H' → te σ H' K1) : LcT (LcG fun i => (thinTo ns i).map V.int) H tt te σ i := by
  intro D acc H' K1 K0 hD hS hacc hR k1 k0
  replace hR : acc = (thinTo ns i).map V.int := hR
  refine ht H' _ hS ?_
  cases hbv : b with
  | true =>
    rw [if_pos rfl]
    refine he H' K1 hS (k1 _ H' (Same.refl _) ?_)
    show acc ++ [V.int (ns.getD i 0)] = (thinTo ns (i + 1)).map V.int
    rw [thinTo_yes (hb.mp hbv), List.map_append, hR]
    rfl
  | false =>
    rw [if_neg (by simp)]
    refine k0 H' (Same.refl _) ?_
    show acc = (thinTo ns (i + 1)).map V.int
    rw [thinTo_no (fun z => by rw [hb.mpr z] at hbv; cases hbv), hR]
end Fs

/-! ## Chains in which each number comes from the one ahead of it: the doubling chains -/
namespace Fs
open PySem PySem.Spec PyProof.Rows L2
/-- each number from the last one -/
structure Star (ns : List Int) : Prop where
  add : IsAdd ns
  by_last : ∀ p, 1 ≤ p → p < ns.length → ∃ j, j < p ∧ ns.getD p 0 = ns.getD j 0 + ns.getD (p - 1) 0
theorem Star.single : Star [1] := ⟨IsAdd.single, fun p h1 h2 => by
  have : p < 1 := h2
  omega⟩
theorem Star.snoc {ns : List Int} (h : Star ns) {x : Int} {j : Nat} (hj : j < ns.length) (e : x = ns.getD j 0 + ns.getD (ns.length - 1) 0) : Star (ns ++ [x]) := by
  have hl := h.add.lo
  have hp := h.add.pos hj
  refine ⟨h.add.snoc hj (by omega : ns.length - 1 < ns.length) e (by omega), fun p h1 h2 => ?_⟩
  rw [List.length_append, List.length_singleton] at h2
  by_cases hp : p < ns.length
  · obtain ⟨j, a, b⟩ := h.by_last p h1 hp
    refine ⟨j, a, ?_⟩
    rw [getD_snoc_lt hp, getD_snoc_lt (by omega), getD_snoc_lt (by omega)]
    exact b
  · obtain rfl : p = ns.length := by omega
    refine ⟨j, hj, ?_⟩
    rw [getD_snoc_eq, getD_snoc_lt hj, getD_snoc_lt (by omega)]
    exact e
theorem Star.link {ns : List Int} (h : Star ns) {p : Nat} (h1 : 1 ≤ p) (h2 : p < ns.length) : ∃ j, linkOf ns p = some (j, p - 1) := by
  obtain ⟨j, a, b⟩ := h.by_last p h1 h2
  exact ⟨j, link_unique (fun q c d => (h.add.step q c (by omega)).1) (by omega) (by omega) b.symm fun k2 c d => by omega⟩
theorem Star.need {ns : List Int} (h : Star ns) : ∀ k p, p + k = ns.length - 1 → Need ns p
  | 0, p, e => by
    obtain rfl : p = ns.length - 1 := by omega
    exact .last
  | k + 1, p, e => by
    have ih := h.need k (p + 1) (by omega)
    obtain ⟨j, hj⟩ := h.link (p := p + 1) (by omega) (by omega)
    exact .hi ih (by omega) hj
theorem Star.dbl : ∀ n : Nat, 1 ≤ n → Star (Fs.dbl n) := by
  intro n
  induction n using Nat.strongRecOn with
  | ind n ih =>
    intro h1
    by_cases h : n ≤ 1
    · rw [dbl_one h]
      exact .single
    · rw [dbl_step h]
      have s1 := ih (n / 2) (by omega) (by omega)
      have hl := s1.add.lo
      have el := dbl_last (n / 2) (by omega)
      rw [last_eq s1.add] at el
      have s2 : Star (Fs.dbl (n / 2) ++ [2 * ((n / 2 : Nat) : Int)]) := s1.snoc (j := (Fs.dbl (n / 2)).length - 1) (by omega) (by rw [el]; omega)
      by_cases ho : n % 2 = 1
      · rw [if_pos ho]
        refine s2.snoc (j := 0) (by rw [List.length_append, List.length_singleton]; omega) ?_
        rw [s2.add.one, List.length_append, List.length_singleton, Nat.add_sub_cancel, getD_snoc_eq]
        omega
      · rw [if_neg ho, List.append_nil]
        exact s2
theorem thin_dbl {n : Nat} (h : 1 ≤ n) : thin (dbl n) = dbl n := thin_all fun p hp => (Star.dbl n h).need ((dbl n).length - 1 - p) p (by omega)
theorem ch_dbl {n : Nat} (h1 : 1 ≤ n) (h2 : n ≤ 10 ^ 30) : IsCh (dbl n) := (ch_iff _).mpr ⟨(Star.dbl n h1).add, by
  have := dbl_len n h1 h2
  omega⟩
theorem dbl_len2 {n : Nat} (k : Nat) (h1 : 1 ≤ n) (h : n < 2 ^ (k + 1)) : (dbl n).length ≤ 2 * k + 1 := by
  have hfl : (figs n).length ≤ k := figs_len k n h
  have hb := bld_len (figs n)
  rw [bld_figs n h1] at hb
  omega
/-- the figures, the lowest first -/
def bits (n : Nat) : List Int := if h : n = 0 then [] else ((n % 2 : Nat) : Int) :: bits (n / 2)
termination_by n
decreasing_by omega
theorem bits_zero : bits 0 = [] := by rw [bits, dif_pos rfl]
theorem bits_step {n : Nat} (h : n ≠ 0) : bits n = ((n % 2 : Nat) : Int) :: bits (n / 2) := by rw [bits, dif_neg h]
theorem bits_len : ∀ (k n : Nat), n < 2 ^ k → (bits n).length ≤ k
  | 0, n, h => by
    obtain rfl : n = 0 := by rw [Nat.pow_zero] at h; omega
    rw [bits_zero]
    exact Nat.le_refl _
  | k + 1, n, h => by
    by_cases h1 : n = 0
    · subst h1
      rw [bits_zero]
      exact Nat.zero_le _
    · rw [bits_step h1, List.length_cons]
      have := bits_len k (n / 2) (by rw [Nat.pow_succ] at h; omega)
      omega
theorem dbl_bits : ∀ n : Nat, 1 ≤ n → (dbl n).length + 1 = (bits n).length + (bits n).count 1 := by
  intro n
  induction n using Nat.strongRecOn with
  | ind n ih =>
    intro h1
    by_cases h : n ≤ 1
    · obtain rfl : n = 1 := by omega
      rw [dbl_one (Nat.le_refl 1), bits_step (by decide), show 1 / 2 = 0 from rfl, bits_zero]
      rfl
    · have e := ih (n / 2) (by omega) (by omega)
      rw [dbl_step h, bits_step (by omega), List.length_append, List.length_append, List.length_singleton, List.length_cons, List.count_cons]
      by_cases ho : n % 2 = 1
      · rw [if_pos ho, ho]
        simp only [List.length_singleton, Int.natCast_one, beq_self_eq_true, if_true]
        omega
      · rw [if_neg ho, show n % 2 = 0 by omega]
        simp only [List.length_nil]
        rw [if_neg (by decide)]
        omega
/-! ### joined -/
/-- two chains joined, where there is room -/
def spJoined : Sp := fun vs H Q _ => ∃ (a b : Addr) (ns ms : List Int), vs = [.ref a, .ref b] ∧ H a = some (.lst (ns.map V.int)) ∧ H b = some (.lst (ms.map V.int)) ∧ IsCh ns ∧ IsCh ms ∧ ns.length + ms.length - 1 ≤ 250 ∧ gi ns (-1) < 2 ^ 200 ∧ gi ms (-1) < 2 ^ 200 ∧ ∀ p H', Same H H' → H p = none → H' p = some (.lst ((joinM ns ms).map V.int)) → Q (.ref p) H'
theorem c_joined {a b : Addr} {ns ms : List Int} {H : Hp} {Q : VK} {E : XK} (ha : H a = some (.lst (ns.map V.int))) (hb : H b = some (.lst (ms.map V.int))) (h1 : IsCh ns) (h2 : IsCh ms) (h3 : ns.length + ms.length - 1 ≤ 250) (h4 : gi ns (-1) < 2 ^ 200) (h5 : gi ms (-1) < 2 ^ 200) (q : ∀ p H', Same H H' → H p = none → H' p = some (.lst ((joinM ns ms).map V.int)) → Q (.ref p) H') : spJoined [.ref a, .ref b] H Q E :=
  ⟨a, b, ns, ms, rfl, ha, hb, h1, h2, h3, h4, h5, q⟩
theorem IsCh.join {cs ds : List Int} (h1 : IsCh cs) (h2 : IsCh ds) (h3 : cs.length + ds.length - 1 ≤ 250) : IsCh (joinM cs ds) := by
  have a1 := ((ch_iff _).mp h1).1
  have a2 := ((ch_iff _).mp h2).1
  exact (ch_iff _).mpr ⟨a1.join a2, by rw [join_len a2.lo]; exact h3⟩
end Fs

/-! ## Powers by a modulus -/
namespace Fs
open PySem PySem.Spec PyProof.Rows L2
/-- b to the n, by m -/
def pw (b m : Int) (n : Int) : Int := b ^ n.toNat % m
theorem mod_mul (x y m : Int) : x % m * y % m = x * y % m := by
  rw [Int.mul_emod, Int.emod_emod, ← Int.mul_emod]
theorem mul_mod (x y m : Int) : x * (y % m) % m = x * y % m := by
  rw [Int.mul_emod, Int.emod_emod, ← Int.mul_emod]
theorem pow_mod (x m : Int) : ∀ k : Nat, (x % m) ^ k % m = x ^ k % m
  | 0 => by rw [Int.pow_zero, Int.pow_zero]
  | k + 1 => by
    rw [Int.pow_succ, Int.pow_succ, mul_mod, Int.mul_emod, pow_mod x m k, ← Int.mul_emod]
theorem pw_mul {b m x y : Int} (h1 : 0 ≤ x) (h2 : 0 ≤ y) : pw b m x * pw b m y % m = pw b m (x + y) := by
  unfold pw
  rw [mod_mul, mul_mod, Int.toNat_add h1 h2, Int.pow_add]
theorem pw_one (b m : Int) : pw b m 1 = b % m := by
  unfold pw
  rw [show (1 : Int).toNat = 1 from rfl, Int.pow_succ, Int.pow_zero, Int.one_mul]
theorem pw_lo {b m : Int} (n : Int) (h : 0 < m) : 0 ≤ pw b m n := Int.emod_nonneg _ (by omega)
theorem pw_hi {b m : Int} (n : Int) (h : 0 < m) : pw b m n < m := Int.emod_lt_of_pos _ h
/-- by squares -/
def Sq (b m n : Int) (f s k : Int) : Prop := f * s ^ k.toNat % m = pw b m n
theorem sq_start {b m n : Int} : Sq b m n (1 % m) (b % m) n := by
  unfold Sq pw
  rw [mod_mul, Int.one_mul, pow_mod]
theorem sq_odd {b m n f s k : Int} (h : Sq b m n f s k) (h0 : 0 < k) (hk : k % 2 = 1) : Sq b m n (f * s % m) (s * s % m) (k / 2) := by
  unfold Sq at h ⊢
  rw [mod_mul, Int.mul_emod, pow_mod, ← Int.mul_emod, ← h]
  have e : k.toNat = (k / 2).toNat + (k / 2).toNat + 1 := by omega
  rw [e, Int.pow_succ, Int.pow_add, Int.mul_pow]
  congr 1
  rw [Int.mul_assoc]
  congr 1
  rw [Int.mul_comm]
theorem sq_even {b m n f s k : Int} (h : Sq b m n f s k) (h0 : 0 < k) (hk : k % 2 ≠ 1) : Sq b m n f (s * s % m) (k / 2) := by
  unfold Sq at h ⊢
  rw [Int.mul_emod, pow_mod, ← Int.mul_emod, ← h]
  have e : k.toNat = (k / 2).toNat + (k / 2).toNat := by omega
  rw [e, Int.pow_add, Int.mul_pow]
theorem sq_end {b m n f s k : Int} (h : Sq b m n f s k) (hk : k ≤ 0) (h1 : 0 ≤ f) (h2 : f < m) : f = pw b m n := by
  unfold Sq at h
  rw [Int.toNat_of_nonpos hk, Int.pow_zero, Int.mul_one, Int.emod_eq_of_lt h1 h2] at h
  exact h
def spPower : Sp := fun vs H Q _ => ∃ b n m : Int, vs = [.int b, .int n, .int m] ∧ 0 ≤ n ∧ (1 ≤ m ∧ m ≤ 10 ^ 30) ∧ Q (.int (pw b m n)) H
theorem c_power {b n m : Int} {H : Hp} {Q : VK} {E : XK} (h : 0 ≤ n) (h0 : 1 ≤ m ∧ m ≤ 10 ^ 30) (q : Q (.int (pw b m n)) H) : spPower [.int b, .int n, .int m] H Q E := ⟨b, n, m, rfl, h, h0, q⟩
def pws (ns : List Int) (b m : Int) : List Int := ns.map (pw b m)
def spPowers : Sp := fun vs H Q _ => ∃ (a : Addr) (ns : List Int) (b m : Int), vs = [.ref a, .int b, .int m] ∧ H a = some (.lst (ns.map V.int)) ∧ IsCh ns ∧ (1 ≤ m ∧ m ≤ 10 ^ 30) ∧ ∀ p H', Same H H' → H p = none → H' p = some (.lst ((pws ns b m).map V.int)) → Q (.ref p) H'
theorem c_powers {a : Addr} {ns : List Int} {b m : Int} {H : Hp} {Q : VK} {E : XK} (h : H a = some (.lst (ns.map V.int))) (hc : IsCh ns) (hm : 1 ≤ m ∧ m ≤ 10 ^ 30) (q : ∀ p H', Same H H' → H p = none → H' p = some (.lst ((pws ns b m).map V.int)) → Q (.ref p) H') : spPowers [.ref a, .int b, .int m] H Q E := ⟨a, ns, b, m, rfl, h, hc, hm, q⟩
/-- (x, y) = a tuple of two -/
theorem g_tup2 {K : PySem.W.Frag} {t : Addr} {i j : Nat} {u v : V} {σ : L2.St} {H : Hp} {Q : L2.St → Hp → Prop} (h : SqT K H t [u, v]) (q : Q ((σ.set i (some u)).set j (some v)) H) : gTup K 2 (gCons (gName i) (gCons (gName j) gNil)) (.ref t) σ H Q :=
  ⟨t, [u, v], rfl, h, rfl, u, [v], rfl, v, [], rfl, rfl, q⟩
theorem take_map_get {ns : List Int} {f : Int → Int} {n i : Nat} (h : i < n) (hn : n ≤ ns.length) : gi ((ns.take n).map f) (i : Int) = f (ns.getD i 0) := by
  rw [gi_nat, List.getD_eq_getElem?_getD, List.getElem?_map, List.getElem?_take, if_pos h, getD_get 0 (by omega)]
  rfl
theorem take_map_snoc {ns : List Int} {f : Int → Int} {n : Nat} (hn : n < ns.length) : (ns.take (n + 1)).map f = (ns.take n).map f ++ [f (ns.getD n 0)] := by
  rw [List.take_add_one, getD_get 0 hn, List.map_append]
  rfl
end Fs

/-! ## Chains that go on to a number; the fewest steps -/
namespace Fs
open PySem PySem.Spec PyProof.Rows L2
/-- the last number -/
abbrev lst' (ns : List Int) : Int := ns.getD (ns.length - 1) 0
/-- what can come next -/
structure Goes (ns : List Int) (n t : Int) : Prop where
  sum : ∃ i j, i < ns.length ∧ j < ns.length ∧ t = ns.getD i 0 + ns.getD j 0
  lo : lst' ns < t
  hi : t ≤ n
/-- so many steps lead to n -/
def Reach : Nat → List Int → Int → Prop
  | 0, ns, n => lst' ns = n
  | k + 1, ns, n => ∃ t, Goes ns n t ∧ Reach k (ns ++ [t]) n
theorem last_eq' {cs : List Int} (hA : IsAdd cs) : gi cs (-1) = lst' cs := last_eq hA
theorem last_snoc (ns : List Int) (t : Int) : lst' (ns ++ [t]) = t := by
  show (ns ++ [t]).getD ((ns ++ [t]).length - 1) 0 = t
  rw [List.length_append, List.length_singleton, Nat.add_sub_cancel, getD_snoc_eq]
theorem Goes.snoc {ns : List Int} {n t : Int} (h : Goes ns n t) (hA : IsAdd ns) : IsAdd (ns ++ [t]) := by
  obtain ⟨i, j, hi, hj, e⟩ := h.sum
  exact hA.snoc hi hj e h.lo
theorem Goes.le {ns : List Int} {n t : Int} (h : Goes ns n t) (hA : IsAdd ns) : t ≤ 2 * lst' ns := by
  obtain ⟨i, j, hi, hj, e⟩ := h.sum
  have h1 : ns.getD i 0 ≤ lst' ns := hA.le_last hi
  have h2 : ns.getD j 0 ≤ lst' ns := hA.le_last hj
  omega
theorem reach_le : ∀ (k : Nat) {ns : List Int} {n : Int}, IsAdd ns → Reach k ns n → n ≤ lst' ns * 2 ^ k
  | 0, ns, n, hA, h => by
    have : lst' ns = n := h
    rw [Int.pow_zero, Int.mul_one]
    omega
  | k + 1, ns, n, hA, h => by
    obtain ⟨t, hg, hr⟩ := h
    have ih := reach_le k (hg.snoc hA) hr
    rw [last_snoc] at ih
    have h2 := hg.le hA
    have hp : (0 : Int) < 2 ^ k := Int.pow_pos (by decide)
    have h3 : t * 2 ^ k ≤ 2 * lst' ns * 2 ^ k := Int.mul_le_mul_of_nonneg_right h2 (by omega)
    rw [Int.pow_succ, Int.mul_comm (2 ^ k) 2, ← Int.mul_assoc, Int.mul_comm (lst' ns) 2]
    omega
theorem reach_to : ∀ (k : Nat) {ns : List Int} {n : Int}, IsAdd ns → Reach k ns n → ∃ cs, IsAdd cs ∧ cs.length = ns.length + k ∧ lst' cs = n
  | 0, ns, n, hA, h => ⟨ns, hA, rfl, h⟩
  | k + 1, ns, n, hA, h => by
    obtain ⟨t, hg, hr⟩ := h
    obtain ⟨cs, a, b, c⟩ := reach_to k (hg.snoc hA) hr
    exact ⟨cs, a, by rw [b, List.length_append, List.length_singleton]; omega, c⟩
theorem take_getD {cs : List Int} {m i : Nat} (h : i < m) : (cs.take m).getD i 0 = cs.getD i 0 := by
  rw [List.getD_eq_getElem?_getD, List.getElem?_take, if_pos h, ← List.getD_eq_getElem?_getD]
theorem reach_of {cs : List Int} (hA : IsAdd cs) : ∀ (k m : Nat), 1 ≤ m → cs.length = m + k → Reach k (cs.take m) (lst' cs)
  | 0, m, h1, h2 => by
    rw [List.take_of_length_le (by omega)]
    rfl
  | k + 1, m, h1, h2 => by
    have ih := reach_of hA k (m + 1) (by omega) (by omega)
    have hlen : (cs.take m).length = m := by
      rw [List.length_take]
      omega
    have hsn : cs.take (m + 1) = cs.take m ++ [cs.getD m 0] := by
      rw [List.take_add_one, getD_get 0 (by omega)]
      rfl
    obtain ⟨a, i, j, hi, hj, e⟩ := hA.step m h1 (by omega)
    refine ⟨cs.getD m 0, ⟨⟨i, j, by omega, by omega, ?_⟩, ?_, hA.le_last (by omega)⟩, by rw [← hsn]; exact ih⟩
    · rw [take_getD hi, take_getD hj]
      exact e
    · show (cs.take m).getD ((cs.take m).length - 1) 0 < cs.getD m 0
      rw [hlen, take_getD (by omega)]
      exact a
theorem reach_iff {k : Nat} {n : Int} : Reach k [1] n ↔ ∃ cs, IsAdd cs ∧ cs.length = 1 + k ∧ lst' cs = n := by
  constructor
  · intro h
    exact reach_to k IsAdd.single h
  · rintro ⟨cs, hA, hl, e⟩
    have h := reach_of hA k 1 (Nat.le_refl _) hl
    rw [e] at h
    have h1 : cs.take 1 = [1] := by
      cases cs with
      | nil => exact absurd hA.lo (by decide)
      | cons x r =>
        have : x = 1 := hA.one
        subst this
        rfl
    rw [h1] at h
    exact h
/-- the fewest steps -/
structure LeastIs (n : Int) (L : Nat) : Prop where
  yes : Reach L [1] n
  no : ∀ j, j < L → ¬ Reach j [1] n
theorem LeastIs.uniq {n : Int} {L M : Nat} (h : LeastIs n L) (g : LeastIs n M) : L = M := by
  by_cases h1 : L < M
  · exact absurd h.yes (g.no L h1)
  · by_cases h2 : M < L
    · exact absurd g.yes (h.no M h2)
    · omega
theorem LeastIs.le {n : Int} {L k : Nat} (h : LeastIs n L) (g : Reach k [1] n) : L ≤ k := by
  by_cases h1 : k < L
  · exact absurd g (h.no k h1)
  · omega
/-! ### the numbers to 60 -/
def addB (cs : List Int) : Bool := (cs.getD 0 0 == 1) && (List.range cs.length).all fun p => p == 0 || (decide (cs.getD (p - 1) 0 < cs.getD p 0) && (List.range p).any fun i => (List.range p).any fun j => cs.getD p 0 == cs.getD i 0 + cs.getD j 0)
theorem addB_ok {cs : List Int} (h : addB cs = true) (hl : 1 ≤ cs.length) : IsAdd cs := by
  unfold addB at h
  rw [Bool.and_eq_true, beq_iff_eq, List.all_eq_true] at h
  refine ⟨hl, h.1, fun p h1 h2 => ?_⟩
  have q := h.2 p (List.mem_range.mpr h2)
  rw [Bool.or_eq_true, beq_iff_eq, Bool.and_eq_true, decide_eq_true_eq, List.any_eq_true] at q
  rcases q with q | ⟨q1, i, hi, q2⟩
  · omega
  · rw [List.any_eq_true] at q2
    obtain ⟨j, hj, e⟩ := q2
    exact ⟨q1, i, j, List.mem_range.mp hi, List.mem_range.mp hj, by simpa using e⟩
def tab : List (List Int) := [[1], [1, 2], [1, 2, 3], [1, 2, 4], [1, 2, 3, 5], [1, 2, 3, 6], [1, 2, 3, 4, 7], [1, 2, 4, 8], [1, 2, 3, 6, 9], [1, 2, 3, 5, 10], [1, 2, 3, 4, 7, 11], [1, 2, 3, 6, 12], [1, 2, 3, 5, 8, 13], [1, 2, 3, 4, 7, 14], [1, 2, 3, 5, 10, 15], [1, 2, 4, 8, 16], [1, 2, 4, 8, 9, 17], [1, 2, 3, 6, 9, 18], [1, 2, 3, 4, 8, 11, 19], [1, 2, 3, 5, 10, 20], [1, 2, 3, 4, 7, 14, 21], [1, 2, 3, 4, 7, 11, 22], [1, 2, 3, 5, 10, 13, 23], [1, 2, 3, 6, 12, 24], [1, 2, 3, 5, 10, 15, 25], [1, 2, 3, 5, 8, 13, 26], [1, 2, 3, 6, 9, 18, 27], [1, 2, 3, 4, 7, 14, 28], [1, 2, 3, 4, 7, 11, 18, 29], [1, 2, 3, 5, 10, 15, 30], [1, 2, 3, 4, 7, 14, 17, 31], [1, 2, 4, 8, 16, 32], [1, 2, 4, 8, 16, 17, 33], [1, 2, 4, 8, 9, 17, 34], [1, 2, 3, 4, 7, 14, 21, 35], [1, 2, 3, 6, 9, 18, 36], [1, 2, 3, 5, 8, 16, 21, 37], [1, 2, 3, 4, 8, 11, 19, 38], [1, 2, 3, 5, 8, 13, 26, 39], [1, 2, 3, 5, 10, 20, 40], [1, 2, 3, 5, 10, 20, 21, 41], [1, 2, 3, 4, 7, 14, 21, 42], [1, 2, 3, 5, 10, 20, 23, 43], [1, 2, 3, 4, 7, 11, 22, 44], [1, 2, 3, 5, 10, 15, 30, 45], [1, 2, 3, 5, 10, 13, 23, 46], [1, 2, 3, 4, 7, 10, 20, 27, 47], [1, 2, 3, 6, 12, 24, 48], [1, 2, 3, 6, 12, 24, 25, 49], [1, 2, 3, 5, 10, 15, 25, 50], [1, 2, 3, 6, 12, 24, 27, 51], [1, 2, 3, 5, 8, 13, 26, 52], [1, 2, 3, 5, 6, 12, 24, 29, 53], [1, 2, 3, 6, 9, 18, 27, 54], [1, 2, 3, 4, 7, 11, 22, 33, 55], [1, 2, 3, 4, 7, 14, 28, 56], [1, 2, 3, 4, 7, 14, 28, 29, 57], [1, 2, 3, 4, 7, 11, 18, 29, 58], [1, 2, 3, 4, 7, 14, 28, 31, 59], [1, 2, 3, 5, 10, 15, 30, 60]]
theorem tab_ok : ∀ n, n < 60 → (addB (tab.getD n []) && decide (1 ≤ (tab.getD n []).length) && decide ((tab.getD n []).length ≤ 9) && decide (lst' (tab.getD n []) = (n : Int) + 1)) = true := by decide +kernel
theorem reach_60 {n : Int} (h1 : 1 ≤ n) (h2 : n ≤ 60) : ∃ L, L ≤ 8 ∧ Reach L [1] n := by
  have h := tab_ok (n - 1).toNat (by omega)
  simp only [Bool.and_eq_true, decide_eq_true_eq] at h
  obtain ⟨⟨⟨a, b⟩, c⟩, d⟩ := h
  refine ⟨(tab.getD (n - 1).toNat []).length - 1, by omega, reach_iff.mpr ⟨_, addB_ok a b, by omega, by omega⟩⟩
/-! ### falling lists -/
open Classical in
/-- the numbers below m of which P holds, the greatest first -/
noncomputable def desc (P : Int → Prop) : Nat → List Int
  | 0 => []
  | m + 1 => if P (m : Int) then (m : Int) :: desc P m else desc P m
theorem mem_desc {P : Int → Prop} {x : Int} : ∀ {m : Nat}, x ∈ desc P m ↔ 0 ≤ x ∧ x < m ∧ P x
  | 0 => by
    unfold desc
    simp only [List.not_mem_nil, false_iff]
    omega
  | m + 1 => by
    unfold desc
    have ih := mem_desc (P := P) (x := x) (m := m)
    by_cases h : P (m : Int)
    · rw [if_pos h, List.mem_cons, ih]
      constructor
      · rintro (e | e)
        · subst e
          exact ⟨by omega, by omega, h⟩
        · exact ⟨e.1, by omega, e.2.2⟩
      · rintro ⟨a, b, c⟩
        by_cases e : x = m
        · exact .inl e
        · exact .inr ⟨a, by omega, c⟩
    · rw [if_neg h, ih]
      constructor
      · rintro ⟨a, b, c⟩
        exact ⟨a, by omega, c⟩
      · rintro ⟨a, b, c⟩
        refine ⟨a, ?_, c⟩
        by_cases e : x = m
        · subst e
          exact absurd c h
        · omega
theorem desc_sorted {P : Int → Prop} : ∀ m : Nat, (desc P m).Pairwise (· > ·)
  | 0 => .nil
  | m + 1 => by
    unfold desc
    by_cases h : P (m : Int)
    · rw [if_pos h]
      refine .cons (fun x hx => ?_) (desc_sorted m)
      have := (mem_desc.mp hx).2.1
      exact this
    · rw [if_neg h]
      exact desc_sorted m
theorem fall_eq : ∀ {as bs : List Int}, as.Pairwise (· > ·) → bs.Pairwise (· > ·) → (∀ x, x ∈ as ↔ x ∈ bs) → as = bs
  | [], [], _, _, _ => rfl
  | [], b :: _, _, _, h => absurd ((h b).mpr (List.mem_cons_self ..)) (List.not_mem_nil)
  | a :: _, [], _, _, h => absurd ((h a).mp (List.mem_cons_self ..)) (List.not_mem_nil)
  | a :: r, b :: t, h1, h2, h => by
    obtain ⟨ha, hr⟩ := List.pairwise_cons.mp h1
    obtain ⟨hb, ht⟩ := List.pairwise_cons.mp h2
    have e : a = b := by
      rcases List.mem_cons.mp ((h a).mp (List.mem_cons_self ..)) with e | e
      · exact e
      · rcases List.mem_cons.mp ((h b).mpr (List.mem_cons_self ..)) with e2 | e2
        · exact e2.symm
        · have g1 : b > a := hb a e
          have g2 : a > b := ha b e2
          omega
    subst e
    rw [fall_eq hr ht fun x => ?_]
    have hx := h x
    rw [List.mem_cons, List.mem_cons] at hx
    constructor
    · intro m
      rcases hx.mp (.inr m) with e | e
      · have g : a > x := ha x m
        omega
      · exact e
    · intro m
      rcases hx.mpr (.inr m) with e | e
      · have g : a > x := hb x m
        omega
      · exact e
/-- what is sorted backwards and holds each number once -/
theorem desc_of {P : Int → Prop} {ks ns : List Int} {m : Nat} (hp : ns.Perm ks) (ho : ns.Pairwise (· ≥ ·)) (hn : ks.Nodup) (hm : ∀ x, x ∈ ks ↔ 0 ≤ x ∧ x < m ∧ P x) : ns = desc P m := by
  refine fall_eq ?_ (desc_sorted m) fun x => by rw [hp.mem_iff, hm x, mem_desc]
  have hnn : ns.Nodup := hp.nodup_iff.mpr hn
  refine List.Pairwise.imp₂ (R := fun a b : Int => a ≥ b) (S := fun a b => a ≠ b) (fun a b h1 h2 => ?_) ho hnn
  show a > b
  have h1' : a ≥ b := h1
  have h2' : a ≠ b := h2
  omega
/-- what the program takes next, what the law takes next -/
def condP (ns : List Int) (n : Int) (k : Nat) (t : Int) : Prop := Goes ns n t ∧ n ≤ t * 2 ^ k
def condL (ns : List Int) (n : Int) (k : Nat) (t : Int) : Prop := Goes ns n t ∧ n ≤ lst' ns * 2 ^ (k + 1)
/-- by k + 1 steps that are left -/
noncomputable def nextP (ns : List Int) (n : Int) (k : Nat) : List Int := desc (condP ns n k) (n.toNat + 1)
noncomputable def nextL (ns : List Int) (n : Int) (k : Nat) : List Int := desc (condL ns n k) (n.toNat + 1)
theorem Goes.pos {ns : List Int} {n t : Int} (h : Goes ns n t) (hA : IsAdd ns) : 1 < t := by
  have h1 : 1 ≤ lst' ns := hA.pos (by have := hA.lo; omega)
  have := h.lo
  omega
theorem mem_nextP {ns : List Int} {n t : Int} {k : Nat} (hA : IsAdd ns) : t ∈ nextP ns n k ↔ condP ns n k t := by
  unfold nextP
  rw [mem_desc]
  constructor
  · exact fun h => h.2.2
  · intro h
    have h1 := h.1.pos hA
    have h2 := h.1.hi
    exact ⟨by omega, by omega, h⟩
theorem mem_nextL {ns : List Int} {n t : Int} {k : Nat} (hA : IsAdd ns) : t ∈ nextL ns n k ↔ condL ns n k t := by
  unfold nextL
  rw [mem_desc]
  constructor
  · exact fun h => h.2.2
  · intro h
    have h1 := h.1.pos hA
    have h2 := h.1.hi
    exact ⟨by omega, by omega, h⟩
theorem reach_P {ns : List Int} {n : Int} {k : Nat} (hA : IsAdd ns) : Reach (k + 1) ns n ↔ ∃ t, t ∈ nextP ns n k ∧ Reach k (ns ++ [t]) n := by
  constructor
  · rintro ⟨t, hg, hr⟩
    refine ⟨t, (mem_nextP hA).mpr ⟨hg, ?_⟩, hr⟩
    have := reach_le k (hg.snoc hA) hr
    rw [last_snoc] at this
    exact this
  · rintro ⟨t, hm, hr⟩
    exact ⟨t, ((mem_nextP hA).mp hm).1, hr⟩
theorem reach_L {ns : List Int} {n : Int} {k : Nat} (hA : IsAdd ns) : Reach (k + 1) ns n ↔ ∃ t, t ∈ nextL ns n k ∧ Reach k (ns ++ [t]) n := by
  constructor
  · intro h
    have h2 := reach_le (k + 1) hA h
    obtain ⟨t, hg, hr⟩ := h
    exact ⟨t, (mem_nextL hA).mpr ⟨hg, h2⟩, hr⟩
  · rintro ⟨t, hm, hr⟩
    exact ⟨t, ((mem_nextL hA).mp hm).1, hr⟩
/-! ### keys that stand for a set -/
def onV (ks : List Int) : List (Key × V) := ks.map fun k => (Sum.inl k, .bl true)
theorem put_onV {ks : List Int} {k : Int} : putK (onV ks) (Sum.inl k) (.bl true) = onV (if k ∈ ks then ks else ks ++ [k]) := by
  have hany : ((onV ks).any fun kv => decide (kv.1 = Sum.inl k)) = decide (k ∈ ks) := by
    induction ks with
    | nil => rfl
    | cons a r ih =>
      unfold onV at ih ⊢
      rw [List.map_cons, List.any_cons, ih]
      by_cases e : a = k
      · subst e
        simp
      · have e2 : ¬ (Sum.inl a : Key) = Sum.inl k := fun z => e (Sum.inl.inj z)
        have e3 : ¬ k = a := fun z => e z.symm
        simp [e2, e3]
  unfold putK
  rw [hany]
  by_cases h : k ∈ ks
  · rw [if_pos (decide_eq_true h), if_pos h]
    unfold onV
    rw [List.map_map]
    refine List.map_congr_left fun a _ => ?_
    show (if (Sum.inl a : Key) = Sum.inl k then (Sum.inl a, V.bl true) else (Sum.inl a, V.bl true)) = (Sum.inl a, V.bl true)
    split <;> rfl
  · rw [if_neg (by simpa using h), if_neg h]
    unfold onV
    rw [List.map_append]
    rfl
theorem keys_onV (ks : List Int) : ((onV ks).map fun kv => kV kv.1) = ks.map V.int := by
  unfold onV
  rw [List.map_map]
  rfl
/-- one more in a set -/
def ins (ks : List Int) (k : Int) : List Int := if k ∈ ks then ks else ks ++ [k]
theorem mem_ins {ks : List Int} {k x : Int} : x ∈ ins ks k ↔ x ∈ ks ∨ x = k := by
  unfold ins
  by_cases h : k ∈ ks
  · rw [if_pos h]
    exact ⟨.inl, fun z => z.elim id fun e => by rw [e]; exact h⟩
  · rw [if_neg h, List.mem_append, List.mem_singleton]
theorem nodup_ins {ks : List Int} {k : Int} (h : ks.Nodup) : (ins ks k).Nodup := by
  unfold ins
  by_cases hk : k ∈ ks
  · rw [if_pos hk]
    exact h
  · rw [if_neg hk]
    refine List.nodup_append.mpr ⟨h, by simp, fun a ha b hb => ?_⟩
    obtain rfl := List.mem_singleton.mp hb
    exact fun e => hk (e ▸ ha)
theorem len_ins {ks : List Int} {k : Int} : (ins ks k).length ≤ ks.length + 1 := by
  unfold ins
  split
  · omega
  · rw [List.length_append, List.length_singleton]
    omega
/-- the sums gone through: those of the first i numbers with all, and of the i-th with the first j -/
structure Sums (ns : List Int) (C : Int → Prop) (i j : Nat) (ks : List Int) : Prop where
  nodup : ks.Nodup
  mem : ∀ x, x ∈ ks ↔ C x ∧ ∃ a b, a < ns.length ∧ b < ns.length ∧ (a < i ∨ (a = i ∧ b < j)) ∧ x = ns.getD a 0 + ns.getD b 0
theorem Sums.start {ns : List Int} {C : Int → Prop} : Sums ns C 0 0 [] := by
  refine ⟨.nil, fun x => ?_⟩
  simp only [List.not_mem_nil, false_iff]
  rintro ⟨_, a, b, _, _, h, _⟩
  omega
theorem Sums.row {ns ks : List Int} {C : Int → Prop} {i : Nat} (h : Sums ns C i ns.length ks) : Sums ns C (i + 1) 0 ks := by
  refine ⟨h.nodup, fun x => ?_⟩
  rw [h.mem x]
  constructor
  · rintro ⟨c, a, b, ha, hb, h1, e⟩
    exact ⟨c, a, b, ha, hb, by omega, e⟩
  · rintro ⟨c, a, b, ha, hb, h1, e⟩
    exact ⟨c, a, b, ha, hb, by omega, e⟩
theorem Sums.skip {ns ks : List Int} {C : Int → Prop} {i j : Nat} (h : Sums ns C i j ks) (hc : ¬ C (ns.getD i 0 + ns.getD j 0)) : Sums ns C i (j + 1) ks := by
  refine ⟨h.nodup, fun x => ?_⟩
  rw [h.mem x]
  constructor
  · rintro ⟨c, a, b, ha, hb, h1, e⟩
    exact ⟨c, a, b, ha, hb, by omega, e⟩
  · rintro ⟨c, a, b, ha, hb, h1, e⟩
    refine ⟨c, a, b, ha, hb, ?_, e⟩
    by_cases h2 : a = i ∧ b = j
    · obtain ⟨rfl, rfl⟩ := h2
      rw [e] at c
      exact absurd c hc
    · omega
theorem Sums.take {ns ks : List Int} {C : Int → Prop} {i j : Nat} (h : Sums ns C i j ks) (hi : i < ns.length) (hj : j < ns.length) (hc : C (ns.getD i 0 + ns.getD j 0)) : Sums ns C i (j + 1) (ins ks (ns.getD i 0 + ns.getD j 0)) := by
  refine ⟨nodup_ins h.nodup, fun x => ?_⟩
  rw [mem_ins, h.mem x]
  constructor
  · rintro (⟨c, a, b, ha, hb, h1, e⟩ | rfl)
    · exact ⟨c, a, b, ha, hb, by omega, e⟩
    · exact ⟨hc, i, j, hi, hj, by omega, rfl⟩
  · rintro ⟨c, a, b, ha, hb, h1, e⟩
    by_cases h2 : a = i ∧ b = j
    · obtain ⟨rfl, rfl⟩ := h2
      exact .inr e
    · exact .inl ⟨c, a, b, ha, hb, by omega, e⟩
theorem Sums.endP {ns ks os : List Int} {n : Int} {k : Nat} (hA : IsAdd ns) (h : Sums ns (fun t => lst' ns < t ∧ t ≤ n ∧ n ≤ t * 2 ^ k) ns.length 0 ks) (hp : os.Perm ks) (ho : os.Pairwise (· ≥ ·)) : os = nextP ns n k := by
  refine desc_of hp ho h.nodup fun x => ?_
  rw [h.mem x]
  constructor
  · rintro ⟨⟨c1, c2, c3⟩, a, b, ha, hb, _, e⟩
    have h1 : 1 ≤ lst' ns := hA.pos (by have := hA.lo; omega)
    exact ⟨by omega, by omega, ⟨⟨⟨a, b, ha, hb, e⟩, c1, c2⟩, c3⟩⟩
  · rintro ⟨_, _, hg, hc⟩
    obtain ⟨a, b, ha, hb, e⟩ := hg.sum
    exact ⟨⟨hg.lo, hg.hi, hc⟩, a, b, ha, hb, .inl ha, e⟩
theorem Sums.endL {ns ks os : List Int} {n : Int} {k : Nat} (hA : IsAdd ns) (hn : n ≤ lst' ns * 2 ^ (k + 1)) (h : Sums ns (fun t => lst' ns < t ∧ t ≤ n) ns.length 0 ks) (hp : os.Perm ks) (ho : os.Pairwise (· ≥ ·)) : os = nextL ns n k := by
  refine desc_of hp ho h.nodup fun x => ?_
  rw [h.mem x]
  constructor
  · rintro ⟨⟨c1, c2⟩, a, b, ha, hb, _, e⟩
    have h1 : 1 ≤ lst' ns := hA.pos (by have := hA.lo; omega)
    exact ⟨by omega, by omega, ⟨⟨⟨a, b, ha, hb, e⟩, c1, c2⟩, hn⟩⟩
  · rintro ⟨_, _, hg, hc⟩
    obtain ⟨a, b, ha, hb, e⟩ := hg.sum
    exact ⟨⟨hg.lo, hg.hi⟩, a, b, ha, hb, .inl ha, e⟩
theorem nextL_none {ns : List Int} {n : Int} {k : Nat} (h : lst' ns * 2 ^ (k + 1) < n ∨ n ≤ lst' ns) : nextL ns n k = [] := by
  refine List.eq_nil_iff_forall_not_mem.mpr fun t ht => ?_
  obtain ⟨_, _, hg, hc⟩ := mem_desc.mp ht
  have h1 := hg.lo
  have h2 := hg.hi
  rcases h with h | h
  · omega
  · omega
/-! ### promises -/
def spNexts : Sp := fun vs H Q _ => ∃ (a : Addr) (ns : List Int) (n : Int) (k : Nat), vs = [.ref a, .int n, .int ((k + 1 : Nat) : Int)] ∧ H a = some (.lst (ns.map V.int)) ∧ IsAdd ns ∧ (ns.length ≤ 20 ∧ k < 8 ∧ lst' ns ≤ 1000) ∧ ∀ p H', Same H H' → H p = none → H' p = some (.lst ((nextP ns n k).map V.int)) → Q (.ref p) H'
theorem c_nexts {a : Addr} {ns : List Int} {n i : Int} {k : Nat} {H : Hp} {Q : VK} {E : XK} (e : i = ((k + 1 : Nat) : Int)) (h : H a = some (.lst (ns.map V.int))) (hA : IsAdd ns) (hb : ns.length ≤ 20 ∧ k < 8 ∧ lst' ns ≤ 1000) (q : ∀ p H', Same H H' → H p = none → H' p = some (.lst ((nextP ns n k).map V.int)) → Q (.ref p) H') : spNexts [.ref a, .int n, .int i] H Q E :=
  ⟨a, ns, n, k, by rw [e], h, hA, hb, q⟩
def spTotals : Sp := fun vs H Q _ => ∃ (a : Addr) (ns : List Int) (n : Int) (k : Nat), vs = [.ref a, .int n, .int ((k + 1 : Nat) : Int)] ∧ H a = some (.lst (ns.map V.int)) ∧ IsAdd ns ∧ (ns.length ≤ 20 ∧ k < 8 ∧ lst' ns ≤ 1000) ∧ ∀ p H', Same H H' → H p = none → H' p = some (.lst ((nextL ns n k).map V.int)) → Q (.ref p) H'
theorem c_totals {a : Addr} {ns : List Int} {n i : Int} {k : Nat} {H : Hp} {Q : VK} {E : XK} (e : i = ((k + 1 : Nat) : Int)) (h : H a = some (.lst (ns.map V.int))) (hA : IsAdd ns) (hb : ns.length ≤ 20 ∧ k < 8 ∧ lst' ns ≤ 1000) (q : ∀ p H', Same H H' → H p = none → H' p = some (.lst ((nextL ns n k).map V.int)) → Q (.ref p) H') : spTotals [.ref a, .int n, .int i] H Q E :=
  ⟨a, ns, n, k, by rw [e], h, hA, hb, q⟩
/-- what is found from a chain on -/
inductive FoundV (k : Nat) (ns : List Int) (n : Int) (a : Addr) (H H' : Hp) : V → Prop where
  | no (h : ¬ Reach k ns n) : FoundV k ns n a H H' .non
  | yes {p : Addr} {cs : List Int} (hA : IsAdd cs) (hl : cs.length = ns.length + k) (e : lst' cs = n) (hp : p = a ∨ H p = none) (h : H' p = some (.lst (cs.map V.int))) : FoundV k ns n a H H' (.ref p)
/-- .. that stood nowhere before -/
inductive FoundW (k : Nat) (ns : List Int) (n : Int) (H H' : Hp) : V → Prop where
  | no (h : ¬ Reach k ns n) : FoundW k ns n H H' .non
  | yes {p : Addr} {cs : List Int} (hA : IsAdd cs) (hl : cs.length = ns.length + k) (e : lst' cs = n) (hp : H p = none) (h : H' p = some (.lst (cs.map V.int))) : FoundW k ns n H H' (.ref p)
theorem FoundV.free {k : Nat} {ns : List Int} {n : Int} {a : Addr} {H H1 H' : Hp} {v : V} (h : FoundV k ns n a H1 H' v) (e : Same H H1) (ha : H a = none) : FoundW k ns n H H' v := by
  cases h with
  | no h => exact .no h
  | yes hA hl el hp h =>
    refine .yes hA hl el ?_ h
    rcases hp with rfl | hp
    · exact ha
    · exact e.free hp
def spFirst (d : Nat) : Sp := fun vs H Q _ => ∃ (a : Addr) (ns : List Int) (n : Int) (k : Nat), k < d ∧ vs = [.ref a, .int n, .int (k : Int)] ∧ H a = some (.lst (ns.map V.int)) ∧ IsAdd ns ∧ (ns.length + k ≤ 20 ∧ lst' ns ≤ 1000 ∧ n ≤ 1000) ∧ ∀ v H', Same H H' → FoundV k ns n a H H' v → Q v H'
theorem c_first {d k : Nat} {a : Addr} {ns : List Int} {n i : Int} {H : Hp} {Q : VK} {E : XK} (e : i = (k : Int)) (hk : k < d) (h : H a = some (.lst (ns.map V.int))) (hA : IsAdd ns) (hb : ns.length + k ≤ 20 ∧ lst' ns ≤ 1000 ∧ n ≤ 1000) (q : ∀ v H', Same H H' → FoundV k ns n a H H' v → Q v H') : spFirst d [.ref a, .int n, .int i] H Q E :=
  ⟨a, ns, n, k, hk, by rw [e], h, hA, hb, q⟩
def spShortestBy : Sp := fun vs H Q _ => ∃ n : Int, vs = [.int n] ∧ (1 ≤ n ∧ n ≤ 60) ∧ ∀ (L : Nat) (cs : List Int) p H', LeastIs n L → L ≤ 8 → IsAdd cs → cs.length = L + 1 → lst' cs = n → Same H H' → H p = none → H' p = some (.lst (cs.map V.int)) → Q (.ref p) H'
theorem c_shortest {n : Int} {H : Hp} {Q : VK} {E : XK} (h : 1 ≤ n ∧ n ≤ 60) (q : ∀ (L : Nat) (cs : List Int) p H', LeastIs n L → L ≤ 8 → IsAdd cs → cs.length = L + 1 → lst' cs = n → Same H H' → H p = none → H' p = some (.lst (cs.map V.int)) → Q (.ref p) H') : spShortestBy [.int n] H Q E := ⟨n, rfl, h, q⟩
def spLeast : Sp := fun vs H Q _ => ∃ n : Int, vs = [.int n] ∧ (1 ≤ n ∧ n ≤ 60) ∧ ∀ (L : Nat) H', LeastIs n L → L ≤ 8 → Same H H' → Q (.int (L : Int)) H'
theorem c_least {n : Int} {H : Hp} {Q : VK} {E : XK} (h : 1 ≤ n ∧ n ≤ 60) (q : ∀ (L : Nat) H', LeastIs n L → L ≤ 8 → Same H H' → Q (.int (L : Int)) H') : spLeast [.int n] H Q E := ⟨n, rfl, h, q⟩
def spReaches (d : Nat) : Sp := fun vs H Q _ => ∃ (a : Addr) (ns : List Int) (n : Int) (k : Nat), k < d ∧ vs = [.ref a, .int n, .int (k : Int)] ∧ H a = some (.lst (ns.map V.int)) ∧ IsAdd ns ∧ (ns.length + k ≤ 20 ∧ lst' ns ≤ 1000 ∧ n ≤ 1000) ∧ ∀ (b : Bool) H', Same H H' → (b = true ↔ Reach k ns n) → Q (.bl b) H'
theorem c_reaches {d k : Nat} {a : Addr} {ns : List Int} {n i : Int} {H : Hp} {Q : VK} {E : XK} (e : i = (k : Int)) (hk : k < d) (h : H a = some (.lst (ns.map V.int))) (hA : IsAdd ns) (hb : ns.length + k ≤ 20 ∧ lst' ns ≤ 1000 ∧ n ≤ 1000) (q : ∀ (b : Bool) H', Same H H' → (b = true ↔ Reach k ns n) → Q (.bl b) H') : spReaches d [.ref a, .int n, .int i] H Q E :=
  ⟨a, ns, n, k, hk, by rw [e], h, hA, hb, q⟩
def spAskedNumber : Sp := fun vs H Q _ => ∃ n m : Int, vs = [.int n, .int m] ∧ (1 ≤ n ∧ n ≤ m) ∧ Q .non H
theorem c_asked_number {n m : Int} {H : Hp} {Q : VK} {E : XK} (h : 1 ≤ n ∧ n ≤ m) (q : Q .non H) : spAskedNumber [.int n, .int m] H Q E := ⟨n, m, rfl, h, q⟩
section
variable {σ : L2.St} {H : Hp} {K : PySem.W.Frag} {Q : VK} {t tk : TA}
theorem e_ckw {r : List V → List V → Hp → VK → Prop} (q : t σ H fun vs H1 => tk σ H1 fun zs H2 => r vs zs H2 Q) : tCKw r t tk σ H Q := q
/-- sorted(xs, reverse=True) -/
theorem n_sorted {a : Addr} {ns : List Int} (h : H a = some (.lst (ns.map V.int))) (q : ∀ (os : List Int) (p : Addr) (H1 : Hp), os.Perm ns → os.Pairwise (· ≥ ·) → H p = none → Same H H1 → H1 p = some (.lst (os.map V.int)) → Q (.ref p) H1) : rSortedKw K true [.bl true] [.ref a] [.bl true] H Q :=
  ⟨a, ns, rfl, rfl, SqL.of h, fun os p hp ho hf => q os p _ hp ho hf (same_new hf) upd_same⟩
/-- list(d) -/
theorem n_listD {a : Addr} {ks : List Int} (h : H a = some (.dK (onV ks))) (q : ∀ (p : Addr) (H1 : Hp), H p = none → Same H H1 → H1 p = some (.lst (ks.map V.int)) → Q (.ref p) H1) : rListD [.ref a] H Q :=
  ⟨a, _, rfl, h, fun p hp => q p _ hp (same_new hp) (by rw [upd_same, keys_onV])⟩
theorem d_putS {a : Addr} {ks : List Int} {k : Int} {R : Hp → Prop} (h : H a = some (.dK (onV ks))) (hl : ks.length < 100000) (q : R (upd H a (.dK (onV (ins ks k))))) : ∃ b H4, V.ref a = .ref b ∧ DPut H b (.int k) (.bl true) H4 ∧ R H4 :=
  d_put h (by unfold onV; rw [List.length_map]; exact hl) (by rw [put_onV]; exact q)
theorem i_nnF {c : Bool} {A B : Prop} (hc : c = false) (h : A) : if (!c) = true then A else B := by
  subst hc
  exact h
end
end Fs

/-! ## How many chains go on -/
namespace Fs
open PySem PySem.Spec PyProof.Rows L2
/-- by all numbers that can come next -/
noncomputable def cnt : Nat → List Int → Int → Int
  | 0, ns, n => if lst' ns = n then 1 else 0
  | k + 1, ns, n => ((desc (Goes ns n) (n.toNat + 1)).map fun t => cnt k (ns ++ [t]) n).sum
theorem sum_zero {f : Int → Int} : ∀ {l : List Int}, (∀ x, x ∈ l → f x = 0) → (l.map f).sum = 0
  | [], _ => rfl
  | a :: r, h => by
    rw [List.map_cons, List.sum_cons, h a (List.mem_cons_self ..), sum_zero fun x hx => h x (List.mem_cons_of_mem _ hx)]
    rfl
/-- what is left out counts nothing -/
theorem sum_desc {P R : Int → Prop} {f : Int → Int} (h1 : ∀ t, P t → R t) (h2 : ∀ t, R t → ¬ P t → f t = 0) : ∀ m : Nat, ((desc P m).map f).sum = ((desc R m).map f).sum
  | 0 => rfl
  | m + 1 => by
    have ih := sum_desc h1 h2 m
    unfold desc
    by_cases hp : P (m : Int)
    · rw [if_pos hp, if_pos (h1 _ hp), List.map_cons, List.map_cons, List.sum_cons, List.sum_cons, ih]
    · rw [if_neg hp]
      by_cases hr : R (m : Int)
      · rw [if_pos hr, List.map_cons, List.sum_cons, h2 _ hr hp, ih, Int.zero_add]
      · rw [if_neg hr, ih]
/-- one number alone counts -/
theorem sum_one {P : Int → Prop} {f : Int → Int} {x : Int} (hx : P x) (h2 : ∀ t, P t → t ≠ x → f t = 0) : ∀ m : Nat, 0 ≤ x → x < m → ((desc P m).map f).sum = f x
  | 0, h0, h1 => by omega
  | m + 1, h0, h1 => by
    unfold desc
    by_cases e : x = m
    · subst e
      rw [if_pos hx, List.map_cons, List.sum_cons, sum_zero fun t ht => ?_, Int.add_zero]
      obtain ⟨a, b, c⟩ := mem_desc.mp ht
      exact h2 t c (by omega)
    · have ih := sum_one hx h2 m h0 (by omega)
      by_cases hp : P (m : Int)
      · rw [if_pos hp, List.map_cons, List.sum_cons, h2 _ hp (by omega), ih, Int.zero_add]
      · rw [if_neg hp, ih]
theorem cnt_none : ∀ (k : Nat) {ns : List Int} {n : Int}, ¬ Reach k ns n → cnt k ns n = 0
  | 0, ns, n, h => by
    unfold cnt
    exact if_neg h
  | k + 1, ns, n, h => by
    unfold cnt
    refine sum_zero fun t ht => cnt_none k fun hr => ?_
    obtain ⟨_, _, hg⟩ := mem_desc.mp ht
    exact h ⟨t, hg, hr⟩
theorem cnt_P {k : Nat} {ns : List Int} {n : Int} (hA : IsAdd ns) : cnt (k + 1) ns n = ((nextP ns n k).map fun t => cnt k (ns ++ [t]) n).sum := by
  show ((desc (Goes ns n) (n.toNat + 1)).map fun t => cnt k (ns ++ [t]) n).sum = ((desc (condP ns n k) (n.toNat + 1)).map fun t => cnt k (ns ++ [t]) n).sum
  refine (sum_desc (fun t h => h.1) (fun t hg hn => cnt_none k fun hr => hn ⟨hg, ?_⟩) _).symm
  have := reach_le k (hg.snoc hA) hr
  rw [last_snoc] at this
  exact this
theorem cnt_L {k : Nat} {ns : List Int} {n : Int} (hA : IsAdd ns) : cnt (k + 1) ns n = ((nextL ns n k).map fun t => cnt k (ns ++ [t]) n).sum := by
  show ((desc (Goes ns n) (n.toNat + 1)).map fun t => cnt k (ns ++ [t]) n).sum = ((desc (condL ns n k) (n.toNat + 1)).map fun t => cnt k (ns ++ [t]) n).sum
  refine (sum_desc (fun t h => h.1) (fun t hg hn => cnt_none k fun hr => hn ⟨hg, ?_⟩) _).symm
  exact reach_le (k + 1) hA ⟨t, hg, hr⟩
/-- where only doubling leads there -/
theorem goes_dbl {k : Nat} {ns : List Int} {n : Int} (hA : IsAdd ns) (e : n = lst' ns * 2 ^ (k + 1)) : Goes ns n (2 * lst' ns) := by
  have hl := hA.lo
  have h1 : 1 ≤ lst' ns := hA.pos (by omega)
  refine ⟨⟨ns.length - 1, ns.length - 1, by omega, by omega, ?_⟩, by omega, ?_⟩
  · show 2 * lst' ns = lst' ns + lst' ns
    omega
  · rw [e, Int.pow_succ, Int.mul_comm (2 ^ k) 2, ← Int.mul_assoc, Int.mul_comm (lst' ns) 2]
    have hp : (1 : Int) ≤ 2 ^ k := Int.pow_pos (by decide)
    have h2 : (2 * lst' ns) * 1 ≤ (2 * lst' ns) * 2 ^ k := Int.mul_le_mul_of_nonneg_left hp (by omega)
    omega
theorem reach_pow : ∀ (k : Nat) {ns : List Int} {n : Int}, IsAdd ns → n = lst' ns * 2 ^ k → Reach k ns n
  | 0, ns, n, hA, e => by
    rw [Int.pow_zero, Int.mul_one] at e
    exact e.symm
  | k + 1, ns, n, hA, e => by
    have hg := goes_dbl hA e
    refine ⟨_, hg, reach_pow k (hg.snoc hA) ?_⟩
    rw [last_snoc, e, Int.pow_succ, Int.mul_comm (2 ^ k) 2, ← Int.mul_assoc, Int.mul_comm (lst' ns) 2]
theorem cnt_pow : ∀ (k : Nat) {ns : List Int} {n : Int}, IsAdd ns → n = lst' ns * 2 ^ k → cnt k ns n = 1
  | 0, ns, n, hA, e => by
    rw [Int.pow_zero, Int.mul_one] at e
    unfold cnt
    exact if_pos e.symm
  | k + 1, ns, n, hA, e => by
    have hl := hA.lo
    have h1 : 1 ≤ lst' ns := hA.pos (by omega)
    have hg := goes_dbl hA e
    have e2 : n = lst' (ns ++ [2 * lst' ns]) * 2 ^ k := by
      rw [last_snoc, e, Int.pow_succ, Int.mul_comm (2 ^ k) 2, ← Int.mul_assoc, Int.mul_comm (lst' ns) 2]
    unfold cnt
    rw [sum_one (x := 2 * lst' ns) hg (fun t ht hne => cnt_none k fun hr => ?_) _ (by omega) (by have := hg.hi; omega)]
    · exact cnt_pow k (hg.snoc hA) e2
    · have h2 := reach_le k (ht.snoc hA) hr
      rw [last_snoc] at h2
      rw [last_snoc] at e2
      have h3 := ht.le hA
      have hp : (0 : Int) < 2 ^ k := Int.pow_pos (by decide)
      have h4 : 2 * lst' ns ≤ t := Int.le_of_mul_le_mul_right (by omega) hp
      omega
theorem least_pow {n : Int} {L j : Nat} (h : LeastIs n L) (e : n = 2 ^ j) : L = j := by
  have h1 : L ≤ j := h.le (reach_pow j IsAdd.single (by rw [e]; show (2 : Int) ^ j = 1 * 2 ^ j; rw [Int.one_mul]))
  have h2 := reach_le L IsAdd.single h.yes
  rw [e] at h2
  replace h2 : (2 : Int) ^ j ≤ 1 * 2 ^ L := h2
  rw [Int.one_mul] at h2
  by_cases h3 : j ≤ L
  · omega
  · exfalso
    have h4 : (2 : Nat) ^ L < 2 ^ j := Nat.pow_lt_pow_right (by decide) (by omega)
    have h5 : ((2 ^ L : Nat) : Int) < ((2 ^ j : Nat) : Int) := by omega
    rw [Int.natCast_pow, Int.natCast_pow] at h5
    have h6 : (2 : Int) ^ L < 2 ^ j := h5
    omega
theorem cnt_least {n : Int} {L j : Nat} (h : LeastIs n L) (e : n = 2 ^ j) : cnt L [1] n = 1 := by
  obtain rfl := least_pow h e
  exact cnt_pow L IsAdd.single (by rw [e]; show (2 : Int) ^ L = 1 * 2 ^ L; rw [Int.one_mul])
theorem pow_in {n : Int} (h : n ∈ [(1 : Int), 2, 4, 8, 16, 32]) : ∃ j : Nat, n = 2 ^ j := by
  simp only [List.mem_cons, List.not_mem_nil, or_false] at h
  rcases h with rfl | rfl | rfl | rfl | rfl | rfl
  · exact ⟨0, rfl⟩
  · exact ⟨1, rfl⟩
  · exact ⟨2, rfl⟩
  · exact ⟨3, rfl⟩
  · exact ⟨4, rfl⟩
  · exact ⟨5, rfl⟩
/-! ### promises -/
def spCounted (d : Nat) : Sp := fun vs H Q _ => ∃ (a : Addr) (ns : List Int) (n : Int) (k : Nat), k < d ∧ vs = [.ref a, .int n, .int (k : Int)] ∧ H a = some (.lst (ns.map V.int)) ∧ IsAdd ns ∧ (ns.length + k ≤ 20 ∧ lst' ns ≤ 1000 ∧ n ≤ 1000) ∧ ∀ H', Same H H' → Q (.int (cnt k ns n)) H'
theorem c_counted {d k : Nat} {a : Addr} {ns : List Int} {n i : Int} {H : Hp} {Q : VK} {E : XK} (e : i = (k : Int)) (hk : k < d) (h : H a = some (.lst (ns.map V.int))) (hA : IsAdd ns) (hb : ns.length + k ≤ 20 ∧ lst' ns ≤ 1000 ∧ n ≤ 1000) (q : ∀ H', Same H H' → Q (.int (cnt k ns n)) H') : spCounted d [.ref a, .int n, .int i] H Q E :=
  ⟨a, ns, n, k, hk, by rw [e], h, hA, hb, q⟩
def spMany : Sp := fun vs H Q _ => ∃ n : Int, vs = [.int n] ∧ (1 ≤ n ∧ n ≤ 40) ∧ ∀ (L : Nat) H', LeastIs n L → Same H H' → Q (.int (cnt L [1] n)) H'
theorem c_many {n : Int} {H : Hp} {Q : VK} {E : XK} (h : 1 ≤ n ∧ n ≤ 40) (q : ∀ (L : Nat) H', LeastIs n L → Same H H' → Q (.int (cnt L [1] n)) H') : spMany [.int n] H Q E := ⟨n, rfl, h, q⟩
section
variable {σ : L2.St} {H : Hp} {Q : VK} {K : PySem.W.Frag} {te : TE} {ta : TA} {vs : List Nat} {j : Nat}
/-- [f(x) for x in a list of ints], where f lays objects -/
theorem e_lcMapS {a : Addr} {cs : List Int} (f : Int → Int) (hx : SqL K H a (cs.map V.int)) (hz : cs.length ≤ 100000) (hw : ∀ x, wipe ((wipe σ vs).set j (some x)) vs = wipe σ vs)
    (hs : ∀ (i : Nat) (x : Int) (H' : Hp) (K1 : VK), i < cs.length → cs.getD i 0 = x → Same H H' → (∀ H2, Same H' H2 → K1 (.int (f x)) H2) → te ((wipe σ vs).set j (some (.int x))) H' K1)
    (hd : ∀ D H', H D = none → Same H H' → H' D = some (.lst ((cs.map f).map V.int)) → Q (.ref D) H') : tLc (iAt K a) (gName j) tYes te vs σ H Q := by
  refine e_lcL (xs := cs.map V.int) (LcG fun i => ((cs.map f).take i).map V.int) hx (by rw [List.length_map]; exact hz) (fun _ _ => rfl) lcg_mono hw (fun i x hx => ?_) (fun D acc H4 hD e4 hacc hR => ?_)
  · have hi : i < cs.length := by
      have := (List.getElem?_eq_some_iff.mp hx).1
      rw [List.length_map] at this
      exact this
    have hxv : x = V.int (cs.getD i 0) := by
      rw [List.getElem?_map, getD_get 0 hi] at hx
      exact (Option.some.inj hx).symm
    subst hxv
    refine lct_yes (y := .int (f (cs.getD i 0))) ?_ (fun H5 K1 e k1 => hs i _ H5 K1 hi rfl e k1)
    rw [List.take_add_one, List.getElem?_map, getD_get 0 hi, List.map_append]
    rfl
  · replace hR : acc = ((cs.map f).take (cs.map V.int).length).map V.int := hR
    rw [List.length_map, List.take_of_length_le (by rw [List.length_map]; exact Nat.le_refl _)] at hR
    rw [hR] at hacc
    exact hd D H4 hD e4 hacc
theorem r_sum {a : Addr} {ns : List Int} (h : H a = some (.lst (ns.map V.int))) (q : Q (.int ns.sum) H) : rSum K [.ref a] H Q := ⟨a, ns, rfl, SqL.of h, q⟩
theorem desc_len {P : Int → Prop} : ∀ m : Nat, (desc P m).length ≤ m
  | 0 => Nat.le_refl _
  | m + 1 => by
    have ih := desc_len (P := P) m
    unfold desc
    split
    · rw [List.length_cons]
      omega
    · omega
end
end Fs

/-! ## Texts: numbers written and read -/
namespace Fs
open PySem PySem.Spec PyProof.Rows L2
/-- the text of a number -/
def wd (n : Int) : Str := Str.ofString (toString n)
def blk : Str := Str.ofString " "
theorem blk_eq : blk = ⟨#[32]⟩ := by decide +kernel
theorem zero_eq : Str.ofString "0" = ⟨#[48]⟩ := by decide +kernel
theorem figs_eq : (Str.ofString "0123456789").cps.toList = [48, 49, 50, 51, 52, 53, 54, 55, 56, 57] := by decide +kernel
theorem one_sign {c d : Nat} : (⟨#[c]⟩ : Str) = ⟨#[d]⟩ ↔ c = d := by
  constructor
  · intro h
    have := congrArg (fun z : Str => z.cps.toList) h
    simpa using this
  · rintro rfl
    rfl
theorem str_ext {a b : Str} (h : a.cps.toList = b.cps.toList) : a = b := Str.ext' (Array.toList_inj.mp h)
theorem in_figs (c : Nat) : c ∈ (Str.ofString "0123456789").cps.toList ↔ 48 ≤ c ∧ c ≤ 57 := by
  rw [figs_eq]
  simp only [List.mem_cons, List.not_mem_nil, or_false]
  omega
/-! ### parts joined, a text cut -/
theorem cut_eq {c : Nat} : ∀ {a b s t : List Nat}, c ∉ a → c ∉ b → a ++ c :: s = b ++ c :: t → a = b ∧ s = t
  | [], [], _, _, _, _, h => ⟨rfl, (List.cons.inj h).2⟩
  | [], y :: b, _, _, _, hb, h => absurd (by rw [(List.cons.inj h).1]; exact List.mem_cons_self ..) hb
  | x :: a, [], _, _, ha, _, h => absurd (by rw [← (List.cons.inj h).1]; exact List.mem_cons_self ..) ha
  | x :: a, y :: b, s, t, ha, hb, h => by
    obtain ⟨e, h2⟩ := List.cons.inj h
    obtain ⟨e2, e3⟩ := cut_eq (fun z => ha (List.mem_cons_of_mem _ z)) (fun z => hb (List.mem_cons_of_mem _ z)) h2
    exact ⟨by rw [e, e2], e3⟩
/-- parts with a sign between two -/
def jn (c : Nat) : List (List Nat) → List Nat
  | [] => []
  | [x] => x
  | x :: y :: r => x ++ c :: jn c (y :: r)
theorem jn_inj {c : Nat} : ∀ {A B : List (List Nat)}, A ≠ [] → B ≠ [] → (∀ a, a ∈ A → c ∉ a) → (∀ b, b ∈ B → c ∉ b) → jn c A = jn c B → A = B
  | [], _, h, _, _, _, _ => absurd rfl h
  | _ :: _, [], _, h, _, _, _ => absurd rfl h
  | [a], [b], _, _, _, _, h => by rw [show a = b from h]
  | [a], b :: b2 :: r, _, _, ha, _, h => by
    have h1 : a = b ++ c :: jn c (b2 :: r) := h
    refine absurd ?_ (ha a (List.mem_cons_self ..))
    rw [h1]
    exact List.mem_append_right _ (List.mem_cons_self ..)
  | a :: a2 :: r, [b], _, _, _, hb, h => by
    have h1 : a ++ c :: jn c (a2 :: r) = b := h
    refine absurd ?_ (hb b (List.mem_cons_self ..))
    rw [← h1]
    exact List.mem_append_right _ (List.mem_cons_self ..)
  | a :: a2 :: r, b :: b2 :: t, _, _, ha, hb, h => by
    have h1 : a ++ c :: jn c (a2 :: r) = b ++ c :: jn c (b2 :: t) := h
    obtain ⟨e, e2⟩ := cut_eq (ha a (List.mem_cons_self ..)) (hb b (List.mem_cons_self ..)) h1
    have ih := jn_inj (A := a2 :: r) (B := b2 :: t) (List.cons_ne_nil _ _) (List.cons_ne_nil _ _) (fun x hx => ha x (List.mem_cons_of_mem _ hx)) (fun x hx => hb x (List.mem_cons_of_mem _ hx)) e2
    rw [e, ih]
theorem join_jn (c : Nat) : ∀ ws : List Str, (Str.join ⟨#[c]⟩ ws).cps.toList = jn c (ws.map fun w => w.cps.toList)
  | [] => rfl
  | [x] => rfl
  | x :: y :: r => by
    have ih := join_jn c (y :: r)
    show (x ++ (⟨#[c]⟩ : Str) ++ Str.join ⟨#[c]⟩ (y :: r)).cps.toList = x.cps.toList ++ c :: jn c ((y :: r).map fun w => w.cps.toList)
    rw [← ih, Str.cps_append, Str.cps_append, Array.toList_append, Array.toList_append, List.append_assoc]
    rfl
theorem split_join {c : Nat} {ws : List Str} (h0 : ws ≠ []) (hf : ∀ w, w ∈ ws → c ∉ w.cps.toList) : Txt.split (Str.join ⟨#[c]⟩ ws) ⟨#[c]⟩ = ws := by
  have e := StrLaws.join_split (Str.join ⟨#[c]⟩ ws) ⟨#[c]⟩
  have hp := split_pos (Str.join ⟨#[c]⟩ ws) ⟨#[c]⟩
  have hs := StrLaws.split_free (Str.join ⟨#[c]⟩ ws) c
  generalize Txt.split (Str.join ⟨#[c]⟩ ws) ⟨#[c]⟩ = vs at *
  have e2 := congrArg (fun z : Str => z.cps.toList) e
  simp only [join_jn] at e2
  have h1 : vs ≠ [] := fun z => by
    rw [z] at hp
    exact absurd hp (by decide)
  have e3 := jn_inj (A := vs.map fun w => w.cps.toList) (B := ws.map fun w => w.cps.toList) (by simpa using h1) (by simpa using h0)
    (fun a ha => by
      obtain ⟨w, hw, rfl⟩ := List.mem_map.mp ha
      exact hs w hw)
    (fun a ha => by
      obtain ⟨w, hw, rfl⟩ := List.mem_map.mp ha
      exact hf w hw) e2
  refine List.map_inj_right (f := fun w : Str => w.cps.toList) (fun a b h => str_ext h) |>.mp e3
theorem join_snoc {s w : Str} : ∀ {ws : List Str}, ws ≠ [] → Str.join s (ws ++ [w]) = Str.join s ws ++ s ++ w
  | [], h => absurd rfl h
  | [x], _ => rfl
  | x :: y :: r, _ => by
    have ih := join_snoc (s := s) (w := w) (ws := y :: r) (List.cons_ne_nil _ _)
    show x ++ s ++ Str.join s ((y :: r) ++ [w]) = x ++ s ++ Str.join s (y :: r) ++ s ++ w
    rw [ih, Str.append_assoc, Str.append_assoc, Str.append_assoc, Str.append_assoc, Str.append_assoc]
/-! ### the figures of a number -/
theorem wd_signs (m : Nat) : (wd (m : Int)).cps.toList = (Nat.toDigits 10 m).map Char.toNat := PySem.W.KIN.signs_num m
theorem wd_figs {n : Int} (h0 : 0 ≤ n) : ∀ c, c ∈ (wd n).cps.toList → 48 ≤ c ∧ c ≤ 57 := by
  obtain ⟨m, rfl⟩ := Int.eq_ofNat_of_zero_le h0
  intro c hc
  rw [wd_signs] at hc
  obtain ⟨ch, hch, e⟩ := List.mem_map.mp hc
  have r := digit_range (Nat.isDigit_of_mem_toDigits (by decide) (by decide) hch)
  rw [← e]
  exact r
theorem wd_len {n : Int} {k : Nat} (h0 : 0 ≤ n) (hk : 0 < k) (h : n < 10 ^ k) : (wd n).length ≤ k := toString_length_le h0 hk h
theorem str_len (z : Str) : z.cps.toList.length = z.length := by simp [Str.length]
theorem wd_pos {n : Int} (h0 : 0 ≤ n) : 1 ≤ (wd n).length := by
  obtain ⟨m, rfl⟩ := Int.eq_ofNat_of_zero_le h0
  rw [← str_len, wd_signs, List.length_map]
  exact toDigits_len_ge 10 m
theorem dig_head : ∀ m : Nat, 1 ≤ m → ∃ c r, Nat.toDigits 10 m = c :: r ∧ c.toNat ≠ 48 := by
  intro m
  induction m using Nat.strongRecOn with
  | ind m ih =>
    intro h1
    by_cases h : m < 10
    · rw [Nat.toDigits_of_lt_base h]
      refine ⟨_, _, rfl, ?_⟩
      have : ∀ d : Nat, d < 10 → 1 ≤ d → (Nat.digitChar d).toNat ≠ 48 := by decide
      exact this m h h1
    · have t : Nat.toDigits 10 (m / 10) ++ Nat.toDigits 10 (m % 10) = Nat.toDigits 10 (10 * (m / 10) + m % 10) := Nat.toDigits_append_toDigits (by decide) (by omega) (Nat.mod_lt m (by decide))
      rw [Nat.div_add_mod] at t
      obtain ⟨c, r, e, hc⟩ := ih (m / 10) (by omega) (by omega)
      rw [← t, e]
      exact ⟨c, _, rfl, hc⟩
theorem wd_reads {n : Int} (h0 : 0 ≤ n) (h : n < 10 ^ 100) : PySem.intText? (wd n) = some n := by
  have hl := wd_len (k := 100) h0 (by decide) h
  have hf := wd_figs h0
  have hp := wd_pos h0
  obtain ⟨m, rfl⟩ := Int.eq_ofNat_of_zero_le h0
  have e := PySem.intText_digits (x := wd (m : Int)) hf (fun z => by
    rw [← str_len, z] at hp
    exact absurd hp (by decide)) (Nat.le_trans hl (by decide))
  rw [wd_signs, PySem.W.KIN.val_back] at e
  exact e
/-- a word that writes a number -/
structure NumW (w : Str) : Prop where
  lo : 1 ≤ w.length
  hi : w.length ≤ 100
  head : atI w.cps.toList 0 ≠ some 48
  figs : ∀ c, c ∈ w.cps.toList → 48 ≤ c ∧ c ≤ 57
/-- the number that it writes -/
def numV (w : Str) : Int := ((NumText.digitsVal w.cps.toList : Nat) : Int)
theorem NumW.reads {w : Str} (h : NumW w) : PySem.intText? w = some (numV w) := PySem.intText_digits h.figs (fun z => by
    have hp := h.lo
    rw [← str_len, z] at hp
    exact absurd hp (by decide)) (Nat.le_trans h.hi (by decide))
theorem atI_zero {xs : List Nat} : atI xs 0 = xs[0]? := by
  cases xs with
  | nil => rfl
  | cons x r =>
    unfold atI ixN
    rw [if_pos (by decide), if_pos (by rw [List.length_cons]; omega)]
    rfl
theorem wd_num {n : Int} (h0 : 1 ≤ n) (h : n < 10 ^ 100) : NumW (wd n) ∧ numV (wd n) = n := by
  have hN : NumW (wd n) := by
    refine ⟨wd_pos (by omega), wd_len (by omega) (by decide) h, ?_, wd_figs (by omega)⟩
    obtain ⟨m, rfl⟩ := Int.eq_ofNat_of_zero_le (show 0 ≤ n by omega)
    obtain ⟨c, r, e, hc⟩ := dig_head m (by omega)
    rw [atI_zero, wd_signs, e]
    show some c.toNat ≠ some 48
    exact fun z => hc (Option.some.inj z)
  have e := hN.reads
  rw [wd_reads (by omega) h] at e
  exact ⟨hN, (Option.some.inj e).symm⟩
/-- the text of a chain -/
def txt (ns : List Int) : Str := Str.join blk (ns.map wd)
theorem txt_split {ns : List Int} (h : ns ≠ []) (hp : ∀ n, n ∈ ns → 0 ≤ n) : Txt.split (txt ns) blk = ns.map wd := by
  unfold txt
  rw [blk_eq]
  refine split_join (by simpa using h) fun w hw => ?_
  obtain ⟨n, hn, rfl⟩ := List.mem_map.mp hw
  intro hc
  have := wd_figs (hp n hn) 32 hc
  omega
theorem txt_len {ns : List Int} {k : Nat} (h : ∀ n, n ∈ ns → (wd n).length ≤ k) : (txt ns).length ≤ ns.length * (k + 1) ∧ ((ns.map wd).map (·.length)).sum + (ns.map wd).length * blk.length ≤ ns.length * (k + 1) := by
  have h1 := StrLaws.join_length_le blk (ns.map wd)
  have h2 := sumLen_le_of_bound wd k ns h
  have h3 : blk.length = 1 := by rw [blk_eq]; rfl
  rw [h3, Nat.mul_one, List.length_map] at h1 ⊢
  have h4 : ns.length * (k + 1) = k * ns.length + ns.length := by rw [Nat.mul_add, Nat.mul_one, Nat.mul_comm]
  exact ⟨by unfold txt; omega, by omega⟩
theorem txt_snoc {ns : List Int} {n : Int} (h : ns ≠ []) : txt (ns ++ [n]) = txt ns ++ blk ++ wd n := by
  unfold txt
  rw [List.map_append]
  exact join_snoc (by simpa using h)
theorem txt_one : txt [1] = Str.ofString "1" := by decide +kernel
theorem pos_mem {ns : List Int} (h : IsAdd ns) : ∀ n, n ∈ ns → 1 ≤ n ∧ n ≤ ns.getD (ns.length - 1) 0 := by
  intro n hn
  obtain ⟨i, hi⟩ := List.mem_iff_getElem?.mp hn
  have hl := (List.getElem?_eq_some_iff.mp hi).1
  rw [getD_get 0 hl] at hi
  obtain rfl := Option.some.inj hi
  exact ⟨h.pos hl, h.le_last hl⟩
/-! ### rules of texts by names -/
def rSplit : V → List V → Hp → VK → Prop := fun x xs H Q => ∃ a b, x = .str a ∧ xs = [.str b] ∧ (b.length == 0) = false ∧ a.length + 2 ≤ sizeLine ∧ rNewStrs (Txt.split a b) H Q
theorem mt_splitN' {X : Cx} : MtR X "str.split" rSplit := mt_split
def rJoin (K : PySem.W.Frag) : V → List V → Hp → VK → Prop := fun x xs H Q => ∃ a p, ∃ ys : List Str, x = .str a ∧ xs = [.ref p] ∧ (SqL K H p (ys.map V.str) ∨ SqT K H p (ys.map V.str)) ∧ (ys.map (·.length)).sum + ys.length * a.length ≤ 16777216 ∧ Q (.str (Txt.join a ys)) H
theorem mt_joinN {X : Cx} : MtR X "str.join" (rJoin X.K) := mt_join
def rAddS : R2 := fun x y H Q => ∃ i j, x = .str i ∧ y = .str j ∧ i.length + j.length ≤ sizeLine ∧ Q (.str (i ++ j)) H
theorem op_addS {X : Cx} : OpR X (binaryOp .Add) rAddS := op_add_str
section
variable {σ : L2.St} {H : Hp} {K : PySem.W.Frag} {Q : VK} {to te : TE} {t : TA}
theorem e_m1 {r : V → List V → Hp → VK → Prop} (q : to σ H fun x H1 => (∃ a, x = .str a) ∧ te σ H1 fun y H2 => r x [y] H2 Q) : tM1 r to te σ H Q := q
theorem x_str {a : Str} {A : Prop} (h : A) : (∃ b, V.str a = .str b) ∧ A := ⟨⟨a, rfl⟩, h⟩
theorem r_addS {a b : Str} (h : a.length + b.length ≤ 100000) (q : Q (.str (a ++ b)) H) : rAddS (.str a) (.str b) H Q := ⟨a, b, rfl, rfl, le_line h, q⟩
theorem r_split {a b : Str} (hb : (b.length == 0) = false) (ha : a.length ≤ 50000) (q : ∀ p H1, H p = none → Same H H1 → H1 p = some (.lst ((Txt.split a b).map V.str)) → Q (.ref p) H1) : rSplit (.str a) [.str b] H Q :=
  ⟨a, b, rfl, rfl, hb, le_line (by omega), fun p hp => q p _ hp (same_new hp) upd_same⟩
theorem r_join {a : Str} {p : Addr} {ys : List Str} (h : H p = some (.lst (ys.map V.str))) (hz : (ys.map (·.length)).sum + ys.length * a.length ≤ 16777216) (q : Q (.str (Str.join a ys)) H) : rJoin K (.str a) [.ref p] H Q :=
  ⟨a, p, ys, rfl, rfl, .inl (SqL.of h), hz, by
    show Q (.str (Builtin.Str.glued a ys)) H
    rw [StrLaws.glued_eq_join]
    exact q⟩
theorem r_notInS {c : Nat} {z : Str} (q : Q (.bl (!decide (c ∈ z.cps.toList))) H) : rNotInS (.str ⟨#[c]⟩) (.str z) H Q := ⟨c, z, rfl, rfl, q⟩
theorem e_ixS {z : Str} {i : Int} {c : Nat} (hz : z.length ≤ 100000) (h : atI z.cps.toList i = some c) (q : Q (.str ⟨#[c]⟩) H) : rIxS (.str z) (.int i) H Q := ⟨z, i, c, rfl, rfl, le_line hz, h, q⟩
theorem r_wd {n : Int} (h : n.natAbs.log2 < 1920) (q : Q (.str (wd n)) H) : rStrI [.int n] H Q := r_str h q
end
section
variable {σ : L2.St} {H : Hp} {Q : VK} {K : PySem.W.Frag} {te : TE} {vs : List Nat} {j : Nat}
/-- [f(x) for x in a list] -/
theorem e_lcMapG {α : Type} {a : Addr} {l : List α} (ia f : α → V) (hx : SqL K H a (l.map ia)) (hz : l.length ≤ 100000) (hw : ∀ x, wipe ((wipe σ vs).set j (some x)) vs = wipe σ vs)
    (hs : ∀ (i : Nat) (x : α) (H' : Hp) (K1 : VK), l[i]? = some x → Same H H' → K1 (f x) H' → te ((wipe σ vs).set j (some (ia x))) H' K1)
    (hd : ∀ D H', H D = none → Same H H' → H' D = some (.lst (l.map f)) → Q (.ref D) H') : tLc (iAt K a) (gName j) tYes te vs σ H Q := by
  refine e_lcL (xs := l.map ia) (LcG fun i => (l.take i).map f) hx (by rw [List.length_map]; exact hz) (fun _ _ => rfl) lcg_mono hw (fun i x hx => ?_) (fun D acc H4 hD e4 hacc hR => ?_)
  · rw [List.getElem?_map] at hx
    cases hy : l[i]? with
    | none => rw [hy] at hx; cases hx
    | some y =>
      rw [hy] at hx
      obtain rfl := Option.some.inj hx
      refine lct_yes (y := f y) ?_ (fun H5 K1 e k1 => hs i _ H5 K1 hy e (k1 H5 (Same.refl _)))
      rw [List.take_add_one, hy, List.map_append]
      rfl
  · replace hR : acc = (l.take (l.map ia).length).map f := hR
    rw [List.length_map, List.take_length] at hR
    rw [hR] at hacc
    exact hd D H4 hD e4 hacc
end
theorem wd_ok {n : Int} (h0 : 0 ≤ n) (h : n < 10 ^ 100) : n.natAbs.log2 < 1920 := by
  by_cases e : n.natAbs = 0
  · rw [e]
    decide
  · refine (Nat.log2_lt e).mpr ?_
    have h1 : n.natAbs < 10 ^ 100 := by omega
    exact Nat.lt_of_lt_of_le h1 (by decide +kernel)
/-! ### promises -/
def spNumberOf : Sp := fun vs H Q _ => ∃ w : Str, vs = [.str w] ∧ NumW w ∧ Q (.int (numV w)) H
theorem c_number_of {w : Str} {H : Hp} {Q : VK} {E : XK} (h : NumW w) (q : Q (.int (numV w)) H) : spNumberOf [.str w] H Q E := ⟨w, rfl, h, q⟩
def spShown : Sp := fun vs H Q _ => ∃ (a : Addr) (ns : List Int), vs = [.ref a] ∧ H a = some (.lst (ns.map V.int)) ∧ IsCh ns ∧ gi ns (-1) < 10 ^ 100 ∧ ∀ H', Same H H' → Q (.str (txt ns)) H'
theorem c_shown {a : Addr} {ns : List Int} {H : Hp} {Q : VK} {E : XK} (h : H a = some (.lst (ns.map V.int))) (hc : IsCh ns) (hb : gi ns (-1) < 10 ^ 100) (q : ∀ H', Same H H' → Q (.str (txt ns)) H') : spShown [.ref a] H Q E := ⟨a, ns, rfl, h, hc, hb, q⟩
def spRead : Sp := fun vs H Q _ => ∃ ns : List Int, vs = [.str (txt ns)] ∧ IsCh ns ∧ gi ns (-1) < 10 ^ 100 ∧ ∀ p H', Same H H' → H p = none → H' p = some (.lst (ns.map V.int)) → Q (.ref p) H'
theorem c_read {ns : List Int} {H : Hp} {Q : VK} {E : XK} (hc : IsCh ns) (hb : gi ns (-1) < 10 ^ 100) (q : ∀ p H', Same H H' → H p = none → H' p = some (.lst (ns.map V.int)) → Q (.ref p) H') : spRead [.str (txt ns)] H Q E := ⟨ns, rfl, hc, hb, q⟩
end Fs

/-! ## Own errors: a def that raises, one that is handed a caught error -/
namespace Fs
open PySem PySem.Spec PyProof.Rows L2
section
variable {P : Program} {w : World} {K : PySem.W.Frag} {mg : Str → Option Value} {base : Heap}
/-- a def that may raise -/
theorem Own.okX {x : Str} {st : Stmt} {N ps : List Str} {k : Nat} {sp : Sp} (F : Own K mg x st ps) (S : FnScope N ps (defScope st)) (len : ∀ vs H Q E, sp vs H Q E → vs.length = ps.length)
    (hbody : ∀ (f : Addr) (cdv : Value) (A : Around) (outer : List Env) (s : Shared) (H : Hp) (vs : List V) (Q : VK) (E : XK), Room k (A.deeper (envOfC x (defScope st) s.heap.objs.size f cdv)) → sp vs H Q E →
      ∃ t, PSs (cxOf (L2.CX P w) P w K mg base N x (defScope st) f cdv A outer s H E) (defBody st) t ∧ t ⟨fun _ H' => Q .non H', Q, fun _ _ => False, fun _ _ => False⟩ (start N vs) H) : Cal P w K mg base (L2.CX P w) (k + 1) x ps sp := by
  obtain ⟨f, fd, F, g, b⟩ := F.ex
  exact ⟨f, fd, F.okX S len (hbody f), g, F.kp, b, fdAt_of F⟩
end
section
variable {P : Program} {w : World} {K : PySem.W.Frag} {mg : Str → Option Value} {base : Heap}
/-- a def that keeps one promise without a raise, another one with it -/
theorem Cal.or {x : Str} {ps : List Str} {k : Nat} {sp1 sp2 : Sp} (G1 : Cal P w K mg base CX0 k x ps sp1) (G2 : Cal P w K mg base (L2.CX P w) k x ps sp2) : Cal P w K mg base (L2.CX P w) k x ps (fun vs H Q E => sp1 vs H Q E ∨ sp2 vs H Q E) := by
  obtain ⟨f, fd, F, g, kp, b, l⟩ := G1.ex
  obtain ⟨f2, fd2, F2, g2, _, _, l2⟩ := G2.ex
  have e := g.symm.trans g2
  cases e
  obtain rfl := l.uniq l2
  refine ⟨f, fd, ⟨fun vs H Q E h => h.elim (F.len vs H Q E) (F2.len vs H Q E), fun A outer s H args us vs Q E hr e0 hb r h => ?_⟩, g, kp, b, l⟩
  rcases h with h | h
  · refine codeAny_mono (F.run A outer s H args us vs Q E hr e0 hb r h) fun rs s' hq => ?_
    cases rs with
    | error e => exact hq.elim
    | ok fl => cases fl <;> exact hq
  · exact F2.run A outer s H args us vs Q E hr e0 hb r h
end
/-- what a def promises that is handed the error at p: its class, its dict -/
abbrev SpE := Addr → Value → Option Addr → Sp
structure FnE (P : Program) (w : World) (K : PySem.W.Frag) (mg : Str → Option Value) (base : Heap) (k : Nat) (f : Addr) (fd : FuncData) (ps : List Str) (sp : SpE) : Prop where
  len : ∀ a cls d vs H Q E, sp a cls d vs H Q E → vs.length = ps.length
  run : ∀ (A : Around) (outer : List Env) (s : Shared) (H : Hp) (args : Args) (us : List Value) (vs : List V) (Q : VK) (E : XK) (p : Addr × Obj) (cls : Value) (d : Option Addr), L2H.RoomH k A → L2H.PinOk outer H s p → Zc cls d p.2 → (∃ vs, p.2.data = .fields vs) → Env0 P w K mg base A outer s H → BindsTo s fd args (ps.zip us) → Vals vs us → sp p.1 cls d vs H Q E →
    codeAny (model P w) A (.call (.ref f) args) (CR CX0 outer P w H s Q E) s
/-- .. that stands in the text -/
structure CalE (P : Program) (w : World) (K : PySem.W.Frag) (mg : Str → Option Value) (base : Heap) (k : Nat) (x : Str) (ps : List Str) (sp : SpE) : Prop where
  ex : ∃ f fd, FnE P w K mg base k f fd ps sp ∧ mg x = some (.ref f) ∧ PySem.W.keepIn K (.ref f) = true ∧ Binds K fd ps []
section
variable {P : Program} {w : World} {K : PySem.W.Frag} {mg : Str → Option Value} {base : Heap}
theorem Own.okE {x : Str} {st : Stmt} {N ps : List Str} {k : Nat} {sp : SpE} (O : Own K mg x st ps) (S : FnScope N ps (defScope st)) (len : ∀ a cls d vs H Q E, sp a cls d vs H Q E → vs.length = ps.length)
    (hbody : ∀ (f : Addr) (cdv : Value) (A : Around) (outer : List Env) (s : Shared) (H : Hp) (vs : List V) (Q : VK) (E : XK) (p : Addr × Obj) (cls : Value) (d : Option Addr), Zc cls d p.2 → (∃ vs, p.2.data = .fields vs) → L2H.RoomH k (A.deeper (envOfC x (defScope st) s.heap.objs.size f cdv)) → sp p.1 cls d vs H Q E →
      ∃ t, PSs (L2H.cxH CX0 P w K mg base N x (defScope st) f cdv A outer s H E p) (defBody st) t ∧ t ⟨fun _ H' => Q .non H', Q, fun _ _ => False, fun _ _ => False⟩ (start N vs) H) : CalE P w K mg base (k + 1) x ps sp := by
  obtain ⟨f, fd, F, g, b⟩ := O.ex
  refine ⟨f, fd, ?_, g, F.kp, b⟩
  obtain ⟨oc, od, kV, doc, pm, an, cdv, ct, osl, rfl, lk, hcd⟩ := F.ex
  refine ⟨len, fun A outer s H args us vs Q E p cls d hr hpin hz hf e0 hb r hsp => ?_⟩
  have hl := len _ _ _ _ _ _ _ hsp
  have KX : K.In s.heap := e0.mod.kin.keeps fun b o e => (e0.bs b o e).1
  have hkind : ∀ y ∈ ps.zip us, (defScope st).names.lookup y.1 = some .local ∨ ((defScope st).names.lookup y.1 = some .cell ∧ ((cellsFrom (s.heap.objs.size + 1) (defScope st).names []).lookup y.1).isSome = true) := fun ⟨n, v⟩ hy => by
    rcases S.par n (List.of_mem_zip hy).1 with q | q
    · exact .inl q
    · exact .inr ⟨q, PySem.W.cellsFrom_some _ _ _ (.inl q)⟩
  refine codeAny_call_function hr.depth (KX _ _ lk) rfl S.co S.gen rfl (PySem.W.codeRec_of KX hcd) (hb _ _ _ _ ?_)
  refine wpAny_newFunctionEnv_cells S.kind hkind fun env he s1 y => ?_
  subst he
  refine ⟨(e0.mod.nolimit.keeps fun b o e => (e0.bs b o e).1).keeps y.toInCall.keep, codeAny_func ?_⟩
  obtain ⟨t, ht, hq⟩ := hbody f cdv A outer s H vs Q E p cls d hz hf (hr.deeper _) hsp
  have I := L2H.inv_startH (CX := CX0) (E := E) S hpin e0 hl r y
  refine wpAny_mono (ht.run [] s1 (start N vs) H _ I hq) (fun fl s' hs => ?_) fun e s' hs => hs
  cases fl with
  | ret u =>
    obtain ⟨v, σ', H', J, rv, q⟩ := hs
    exact ⟨v, H', J.os, J.bare, J.base, J.hok, rv, q⟩
  | next =>
    obtain ⟨σ', H', J, q⟩ := hs
    exact ⟨V.non, H', J.os, J.bare, J.base, J.hok, rfl, q⟩
  | brk =>
    obtain ⟨_, _, _, q⟩ := hs
    exact q.elim
  | cont =>
    obtain ⟨_, _, _, q⟩ := hs
    exact q.elim
end
section
variable {X : Cx} {CX : CXT} {k : Nat} {ps : List Str} {sp : Sp} {spE : SpE} {x : Str} {p pos : Pos} {e : Expr} {es : List Expr} {t : TA}
/-- a call within a try -/
theorem pe_calS {E : L2.St → XK} (G : Cal X.prog X.w X.K X.mg X.base CX k x ps sp) (hr : Room k X.A) (hx : ∀ σ, PassesAt CX X σ (E σ)) (hg : Gl X x) (ha : PA X (e :: es) t) (hdb : (x == ("__debug__" : Str)) = false := by decide)
    (he : starEach (e :: es) X.env = (false, eval e X.env) :: starEach es X.env := by rfl) (hpl : (backTo pos (starEach es X.env)).any (·.1) = false := by rfl) :
    PE X (.Call (.Name x p) (e :: es) [] pos) (tCallS sp E t) := by
  obtain ⟨f, fd, F, g, kp, b, _⟩ := G.ex
  exact pe_callS F hr hg g kp b hx ha hdb he hpl
/-- a call within the suite, that is handed the error -/
theorem pe_calE {a : Addr} {oe : Obj} {cls : Value} {d : Option Addr} (G : CalE X.prog X.w X.K X.mg X.base k x ps spE) (hr : L2H.RoomH k X.A) (hq : (a, oe) ∈ X.pn) (hz : Zc cls d oe) (hf : ∃ vs, oe.data = .fields vs) (hg : Gl X x) (ha : PA X (e :: es) t) (hdb : (x == ("__debug__" : Str)) = false := by decide)
    (he : starEach (e :: es) X.env = (false, eval e X.env) :: starEach es X.env := by rfl) (hpl : (backTo pos (starEach es X.env)).any (·.1) = false := by rfl) :
    PE X (.Call (.Name x p) (e :: es) [] pos) (tCallS (spE a cls d) (fun _ => E0) t) := by
  obtain ⟨f, fd, F, g, kp, b⟩ := G.ex
  refine ⟨fun pins s σ H Q I h => ?_⟩
  refine wpAny_Call_Name_kw (ld_glob I hg g ?_ hdb)
  refine PySem.W.callWith_K (h₀ := X.base) I.ok.mod.kin kp (thn (ha.run pos pins s σ H _ I h) fun us s1 ⟨vs, H1, I1, r, hsp⟩ => ⟨I1.kIn, ?_⟩) he hpl
  have hl : us.length = ps.length := by
    rw [← r.length]
    exact F.len _ _ _ _ _ _ _ hsp
  have bd := b s1 us I1.kIn (by rw [List.append_nil]; exact hl)
  rw [List.append_nil] at bd
  have P1 := I1.pin (a, oe) (List.mem_append_left _ hq)
  have hpin : L2H.PinOk X.stack H1 s1 (a, oe) := ⟨P1.1, P1.2.1, fun hm => (List.mem_cons.mp (I1.stkSub a hm)).elim P1.2.2.1 P1.2.2.2.1, P1.2.2.2.2⟩
  refine wpAny_call (codeAny_mono (F.run X.A X.stack s1 H1 ⟨us, []⟩ us vs Q E0 (a, oe) cls d hr hpin hz hf I1.env0 bd r hsp) fun rs s' hq => ?_)
  cases rs with
  | error e => exact hq.elim
  | ok fl =>
    cases fl with
    | ret u => exact I1.after hq
    | next => exact hq.elim
    | brk => exact hq.elim
    | cont => exact hq.elim
/-- a class by its name -/
theorem pe_cls {C : Addr} {y : Str} {pos : Pos} (h : X.mg y = some (.ref C)) (hg : Gl X y) (hd : (y == ("__debug__" : Str)) = false := by decide) : PE X (.Name y pos) (tC (.ref C)) := pe_glob hg h (show RelV (.ref C) (.ref C) from rfl) hd
/-- isinstance of the error that is held -/
theorem call_isX {D : Addr} {q : Addr × Obj} (C : ExcC X.K D) (hq : q ∈ X.pn) (hz : Zc (.ref D) none q.2) (hf : ∃ vs, q.2.data = .fields vs) : CallR X (.builtin "isinstance") (rIsE X.K D q.1) := by
  intro pins s σ H xs us Q I r h
  obtain ⟨c, cv, b, rfl, hcv, e, hQ⟩ := h
  obtain ⟨u1, u2, rfl, r1, r2⟩ := vals2 r
  obtain rfl := hcv _ r2
  obtain rfl : u1 = Value.ref q.1 := r1
  obtain ⟨vs, hv⟩ := hf
  have hget := (I.pin q (List.mem_append_left _ hq)).1
  have J : PySem.W.InstAt s.heap q.1 q.2 D none := by
    obtain ⟨a, oc, od, oda, osl⟩ := q
    obtain ⟨h1, h2⟩ := hz
    dsimp only at h1 h2 hv hget
    subst h1 h2 hv
    exact ⟨hget, rfl, rfl, trivial⟩
  exact PySem.W.kia_one (PySem.W.handS_kitx_exc C.hg C.hk C.hs C.hd C.ha C.hn C.ht C.hm) I.kIn J e (fun z => nomatch z) fun tk => ⟨.bl b, H, I.kept (t' := tk) fun _ _ z => z, rfl, hQ⟩
/-- bools.count(b) -/
def rCntB (K : PySem.W.Frag) : V → List V → Hp → VK → Prop := fun x xs H Q => ∃ (p : Addr) (bs : List Bool) (b : Bool), x = .ref p ∧ xs = [.bl b] ∧ SqL K H p (bs.map V.bl) ∧ Q (.int (bs.count b : Nat)) H
theorem flat_bools : ∀ bs : List Bool, (bs.map V.bl).all flatV = true
  | [] => rfl
  | b :: r => by
    rw [List.map_cons, List.all_cons, flat_bools r]
    rfl
theorem countP_bools {b : Bool} : ∀ {bs : List Bool} {us : List Value}, Vals (bs.map V.bl) us → us.countP (eqU (.bl b)) = bs.count b
  | [], _, .nil => rfl
  | c :: r, u :: us, .cons h t => by
    have ih := countP_bools (b := b) t
    rw [List.countP_cons, List.count_cons, ih, eqU_of (x := .bl b) (y := .bl c) h rfl]
    rfl
theorem mt_lcountB : MtR X "list.count" (rCntB X.K) := by
  intro pins s σ H x xs v us Q I rx rxs h
  obtain ⟨p, bs, b, rfl, rfl, hs, q⟩ := h
  cases rx
  obtain ⟨u, rfl, ru⟩ := rxs.one
  obtain ⟨its, rv, ⟨⟨cls, dd, data, sl⟩, n, ho, hc, hdn, hd⟩, hlen⟩ := I.list hs
  simp only at hc hd
  subst hc hd
  refine call_meets PySem.F.slot_list_count ⟨_, ho, rfl⟩ PySem.F.entry_list_count (PySem.F.args_list_count_2 _ _)
    (SeqAt.list_countAt p its.toArray n dd sl u (eqU (.bl b))) ⟨ho, fun y hy => mem_eqAt ru rfl rv (flat_bools bs) y (by simpa using hy), ?_⟩
  have ec : its.toArray.toList.countP (eqU (.bl b)) = bs.count b := countP_bools rv
  refine ⟨.int (bs.count b : Nat), H, I.tok _, ⟨s.toks, ?_⟩, q⟩
  show Value.int ((its.toArray.toList.countP (eqU (.bl b)) : Nat) : Int) s.toks = Value.int ((bs.count b : Nat) : Int) s.toks
  rw [ec]
end
section
variable {σ : L2.St} {H : Hp} {K : PySem.W.Frag} {Q : VK} {t : TA}
theorem e_callS {sp : Sp} {E : L2.St → XK} (q : t σ H fun vs H1 => sp vs H1 Q (E σ)) : tCallS sp E t σ H Q := q
theorem r_indexB {p : Addr} {bs : List Bool} {j : Nat} (h : SqL K H p (bs.map V.bl)) (hj : bs[j]? = some true) (hn : ∀ m, m < j → bs[m]? ≠ some true) (q : Q (.int (j : Int)) H) : rIndex K (.ref p) [.bl true] H Q := by
  refine ⟨p, _, .bl true, j, .bl true, rfl, rfl, h, rfl, flat_bools bs, ?_, rfl, fun m z hm hz => ?_, q⟩
  · rw [List.getElem?_map, hj]
    rfl
  · rw [List.getElem?_map] at hz
    cases hb : bs[m]? with
    | none => rw [hb] at hz; cases hz
    | some b =>
      rw [hb] at hz
      obtain rfl := Option.some.inj hz
      cases b with
      | true => exact absurd hb (hn m hm)
      | false => rfl
theorem m_countB {p : Addr} {bs : List Bool} {b : Bool} (h : SqL K H p (bs.map V.bl)) (q : Q (.int ((bs.count b : Nat) : Int)) H) : rCntB K (.ref p) [.bl b] H Q := ⟨p, bs, b, rfl, rfl, h, q⟩
theorem r_isE {D a : Addr} {C : Addr} {b : Bool} (e : PySem.W.kitOne K (.ref D) (.ref C) = some b) (q : Q (.bl b) H) : rIsE K D a [.ref a, .ref C] H Q := ⟨.ref C, .ref C, b, rfl, fun u h => h, e, q⟩
theorem r_isEv {D a : Addr} {n : String} {b : Bool} (e : PySem.W.kitOne K (.ref D) (.type n) = some b) (q : Q (.bl b) H) : rIsE K D a [.ref a, .ty n] H Q := ⟨.ty n, .type n, b, rfl, fun u h => h, e, q⟩
end
/-! ### the classes of the program -/
/-- one that is raised -/
structure ClsX (K : PySem.W.Frag) (mg : Str → Option Value) (x : Str) (C S : Addr) : Prop where
  g : mg x = some (.ref C)
  x : PySem.W.excIn K C [.type "ValueError", .type "Exception", .type "BaseException", .type "object"] "ValueError.__new__" = true
  k : PySem.W.keepIn K (.ref C) = true
  b : PySem.W.subIn K (.ref C) (.type "BaseException") = some true
  t : PySem.W.typeIn K (.ref C) = some (.type "type")
  e : PySem.W.exmOne K (.ref C) (.ref S) = some true
  c : ExcC K C
  v : PySem.W.kitOne K (.ref C) (.type "ValueError") = some true
theorem ClsX.mk' {K : PySem.W.Frag} {mg : Str → Option Value} {x : Str} {C S : Addr} (g : mg x = some (.ref C)) (q : PySem.W.excIn K C [.type "ValueError", .type "Exception", .type "BaseException", .type "object"] "ValueError.__new__" = true) (k : PySem.W.keepIn K (.ref C) = true) (b : PySem.W.subIn K (.ref C) (.type "BaseException") = some true) (t : PySem.W.typeIn K (.ref C) = some (.type "type"))
    (bS : PySem.W.subIn K (.ref S) (.type "BaseException") = some true) (dS : PySem.W.hasDictIn K S = true) (tS : PySem.W.typeIn K (.ref S) = some (.type "type")) (e : PySem.W.subIn K (.ref C) (.ref S) = some true)
    (hg : PySem.W.findIn K (.ref C) "__getattribute__" = some (some (.builtin "BaseException.__getattribute__"))) (hk : PySem.W.findIn K (.ref C) "__getattr__" = some none) (hd : PySem.W.hasDictIn K C = true) (ha : PySem.W.findIn K (.ref C) "__class__" = some (some (.builtin "object.__class__")))
    (hn : PySem.W.specialIn K (.builtin "object.__class__") "__get__" = some (some (.builtin "getset_descriptor.__get__"))) (ht : PySem.W.takesIn K (.builtin "object.__class__") = some true) (hm : PySem.W.mroIn K C (.type "object") = some true) (v : PySem.W.kitOne K (.ref C) (.type "ValueError") = some true) : ClsX K mg x C S :=
  ⟨g, q, k, b, t, PySem.W.exm_ref bS dS tS e, ⟨hg, hk, b, hd, ha, hn, ht, hm⟩, v⟩
theorem ClsX.raises {X : Cx} {x : Str} {C S : Addr} (h : ClsX X.K X.mg x C S) : Raises X (.ref C) := raises_own h.b h.t
/-- the word of the i-th class -/
def wordAt (i : Nat) : Str := (["chain", "modulus", "number", "long", "note"] : List Str).getD i Str.empty
def nameAt (i : Nat) : Str := (["NoChain", "NoModulus", "NoNumber", "TooLong", "NoNote"] : List Str).getD i Str.empty
structure Kinds (K : PySem.W.Frag) (mg : Str → Option Value) (D : Nat → Addr) (S : Addr) (L : List Nat) : Prop where
  n0 : mg "NoChain" = some (.ref (D 0))
  n1 : mg "NoModulus" = some (.ref (D 1))
  n2 : mg "NoNumber" = some (.ref (D 2))
  n3 : mg "TooLong" = some (.ref (D 3))
  n4 : mg "NoNote" = some (.ref (D 4))
  s : mg "SumError" = some (.ref S)
  x : ∀ i, i ∈ L → i < 5 ∧ ClsX K mg (nameAt i) (D i) S
  kit : ∀ i, i ∈ L → ∀ j, j < 5 → PySem.W.kitOne K (.ref (D i)) (.ref (D j)) = some (decide (i = j))
theorem kit_five {K : PySem.W.Frag} {t : Value} {D : Nat → Addr} {i : Nat} (h0 : PySem.W.kitOne K t (.ref (D 0)) = some (decide (i = 0))) (h1 : PySem.W.kitOne K t (.ref (D 1)) = some (decide (i = 1))) (h2 : PySem.W.kitOne K t (.ref (D 2)) = some (decide (i = 2))) (h3 : PySem.W.kitOne K t (.ref (D 3)) = some (decide (i = 3))) (h4 : PySem.W.kitOne K t (.ref (D 4)) = some (decide (i = 4))) :
    ∀ j, j < 5 → PySem.W.kitOne K t (.ref (D j)) = some (decide (i = j))
  | 0, _ => h0
  | 1, _ => h1
  | 2, _ => h2
  | 3, _ => h3
  | 4, _ => h4
/-- _law_word_of -/
def spWordOf (D : Nat → Addr) (L : List Nat) : SpE := fun a cls d vs H Q _ => ∃ i, i ∈ L ∧ cls = .ref (D i) ∧ d = none ∧ vs = [.ref a] ∧ ∀ H', Same H H' → Q (.str (wordAt i)) H'
theorem c_word_of {D : Nat → Addr} {L : List Nat} {i : Nat} {a : Addr} {H : Hp} {Q : VK} {E : XK} (hi : i ∈ L) (q : ∀ H', Same H H' → Q (.str (wordAt i)) H') : spWordOf D L a (.ref (D i)) none [.ref a] H Q E := ⟨i, hi, rfl, rfl, rfl, q⟩
end Fs

/-! ## What is refused, what is not: promises -/
namespace Fs
open PySem PySem.Spec PyProof.Rows L2
/-- asked_chain: of any list -/
def spAskedX (C : Addr) : Sp := fun vs H Q E => ∃ (a : Addr) (ns : List Int), vs = [.ref a] ∧ H a = some (.lst (ns.map V.int)) ∧ ns.length ≤ 1000 ∧ (IsCh ns → ∀ H', Same H H' → Q .non H') ∧ (¬ IsCh ns → ∀ H', Same H H' → E (.ref C) none H')
theorem c_askedX {C a : Addr} {ns : List Int} {H : Hp} {Q : VK} {E : XK} (h : H a = some (.lst (ns.map V.int))) (hl : ns.length ≤ 1000) (q : IsCh ns → ∀ H', Same H H' → Q .non H') (qE : ¬ IsCh ns → ∀ H', Same H H' → E (.ref C) none H') : spAskedX C [.ref a] H Q E := ⟨a, ns, rfl, h, hl, q, qE⟩
/-- a def of one list that refuses it -/
def spNo1 (C : Addr) : Sp := fun vs H _ E => ∃ (a : Addr) (ns : List Int), vs = [.ref a] ∧ H a = some (.lst (ns.map V.int)) ∧ ns.length ≤ 1000 ∧ ¬ IsCh ns ∧ ∀ H', Same H H' → E (.ref C) none H'
def spNo2 (C : Addr) : Sp := fun vs H _ E => ∃ (a b : Addr) (ns ms : List Int), vs = [.ref a, .ref b] ∧ H a = some (.lst (ns.map V.int)) ∧ H b = some (.lst (ms.map V.int)) ∧ (ns.length ≤ 1000 ∧ ms.length ≤ 1000) ∧ ¬ (IsCh ns ∧ IsCh ms) ∧ ∀ H', Same H H' → E (.ref C) none H'
def spNoP (C C1 : Addr) : Sp := fun vs H _ E => ∃ (a : Addr) (ns : List Int) (b m : Int), vs = [.ref a, .int b, .int m] ∧ H a = some (.lst (ns.map V.int)) ∧ ns.length ≤ 1000 ∧ (IsCh ns → m < 1 ∨ 10 ^ 30 < m) ∧ (IsCh ns → ∀ H', Same H H' → E (.ref C1) none H') ∧ (¬ IsCh ns → ∀ H', Same H H' → E (.ref C) none H')
def spNoN (C : Addr) (most : Int) : Sp := fun vs H _ E => ∃ n : Int, vs = [.int n] ∧ (n < 1 ∨ most < n) ∧ ∀ H', Same H H' → E (.ref C) none H'
def spNoA (C : Addr) : Sp := fun vs H _ E => ∃ n m : Int, vs = [.int n, .int m] ∧ (n < 1 ∨ m < n) ∧ ∀ H', Same H H' → E (.ref C) none H'
theorem c_noA {C : Addr} {n m : Int} {H : Hp} {Q : VK} {E : XK} (h : n < 1 ∨ m < n) (q : ∀ H', Same H H' → E (.ref C) none H') : spNoA C [.int n, .int m] H Q E := ⟨n, m, rfl, h, q⟩
/-- either way -/
def spCh1 (C : Addr) : Sp := fun vs H Q E => ∃ (a : Addr) (ns : List Int), vs = [.ref a] ∧ H a = some (.lst (ns.map V.int)) ∧ ns.length ≤ 1000 ∧ (IsCh ns → gi ns (-1) < 10 ^ 50) ∧ (IsCh ns → ∀ v H', Same H H' → Q v H') ∧ (¬ IsCh ns → ∀ H', Same H H' → E (.ref C) none H')
def spCh2 (C : Addr) : Sp := fun vs H Q E => ∃ (a b : Addr) (ns ms : List Int), vs = [.ref a, .ref b] ∧ H a = some (.lst (ns.map V.int)) ∧ H b = some (.lst (ms.map V.int)) ∧ (ns.length ≤ 1000 ∧ ms.length ≤ 1000) ∧ (IsCh ns → IsCh ms → ns.length + ms.length ≤ 200 ∧ gi ns (-1) < 10 ^ 50 ∧ gi ms (-1) < 10 ^ 50) ∧ (IsCh ns → IsCh ms → ∀ v H', Same H H' → Q v H') ∧ (¬ (IsCh ns ∧ IsCh ms) → ∀ H', Same H H' → E (.ref C) none H')
def spChP (C C1 : Addr) : Sp := fun vs H Q E => ∃ (a : Addr) (ns : List Int) (b m : Int), vs = [.ref a, .int b, .int m] ∧ H a = some (.lst (ns.map V.int)) ∧ ns.length ≤ 1000 ∧ (IsCh ns → 1 ≤ m ∧ m ≤ 10 ^ 30 → ∀ v H', Same H H' → Q v H') ∧ (IsCh ns → m < 1 ∨ 10 ^ 30 < m → ∀ H', Same H H' → E (.ref C1) none H') ∧ (¬ IsCh ns → ∀ H', Same H H' → E (.ref C) none H')
def spNum (C : Addr) (most : Int) : Sp := fun vs H Q E => ∃ n : Int, vs = [.int n] ∧ (1 ≤ n ∧ n ≤ most → ∀ v H', Same H H' → Q v H') ∧ (n < 1 ∨ most < n → ∀ H', Same H H' → E (.ref C) none H')
theorem c_ch1 {C a : Addr} {ns : List Int} {H : Hp} {Q : VK} {E : XK} (h : H a = some (.lst (ns.map V.int))) (hl : ns.length ≤ 1000) (hg : IsCh ns → gi ns (-1) < 10 ^ 50) (q : IsCh ns → ∀ v H', Same H H' → Q v H') (qE : ¬ IsCh ns → ∀ H', Same H H' → E (.ref C) none H') : spCh1 C [.ref a] H Q E := ⟨a, ns, rfl, h, hl, hg, q, qE⟩
theorem c_ch2 {C a b : Addr} {ns ms : List Int} {H : Hp} {Q : VK} {E : XK} (h : H a = some (.lst (ns.map V.int))) (h2 : H b = some (.lst (ms.map V.int))) (hl : ns.length ≤ 1000 ∧ ms.length ≤ 1000) (hg : IsCh ns → IsCh ms → ns.length + ms.length ≤ 200 ∧ gi ns (-1) < 10 ^ 50 ∧ gi ms (-1) < 10 ^ 50) (q : IsCh ns → IsCh ms → ∀ v H', Same H H' → Q v H') (qE : ¬ (IsCh ns ∧ IsCh ms) → ∀ H', Same H H' → E (.ref C) none H') : spCh2 C [.ref a, .ref b] H Q E := ⟨a, b, ns, ms, rfl, h, h2, hl, hg, q, qE⟩
theorem c_chP {C C1 a : Addr} {ns : List Int} {b m : Int} {H : Hp} {Q : VK} {E : XK} (h : H a = some (.lst (ns.map V.int))) (hl : ns.length ≤ 1000) (q : IsCh ns → 1 ≤ m ∧ m ≤ 10 ^ 30 → ∀ v H', Same H H' → Q v H') (q1 : IsCh ns → m < 1 ∨ 10 ^ 30 < m → ∀ H', Same H H' → E (.ref C1) none H') (qE : ¬ IsCh ns → ∀ H', Same H H' → E (.ref C) none H') : spChP C C1 [.ref a, .int b, .int m] H Q E := ⟨a, ns, b, m, rfl, h, hl, q, q1, qE⟩
theorem c_num {C : Addr} {most n : Int} {H : Hp} {Q : VK} {E : XK} (q : 1 ≤ n ∧ n ≤ most → ∀ v H', Same H H' → Q v H') (qE : n < 1 ∨ most < n → ∀ H', Same H H' → E (.ref C) none H') : spNum C most [.int n] H Q E := ⟨n, rfl, q, qE⟩
/-! ### the law's own -/
/-- which numbers are not refused -/
def okN (w n : Int) : Prop := (w = 6 → 1 ≤ n ∧ n ≤ 10 ^ 30) ∧ (w = 7 → 1 ≤ n ∧ n ≤ 60) ∧ (w = 8 → 1 ≤ n ∧ n ≤ 60) ∧ (w = 9 → 1 ≤ n ∧ n ≤ 40)
/-- which chains, which moduli -/
def okC (w : Int) (ns : List Int) : Prop := 0 ≤ w → w ≤ 5 → IsCh ns
def okM (w m : Int) : Prop := w = 5 → 1 ≤ m ∧ m ≤ 10 ^ 30
def spOfChains (D : Nat → Addr) : Sp := fun vs H Q E => ∃ (w : Int) (a : Addr) (ns : List Int) (m : Int), vs = [.int w, .ref a, .int m] ∧ H a = some (.lst (ns.map V.int)) ∧ ns.length ≤ 1000 ∧ (IsCh ns → ns.length ≤ 100 ∧ gi ns (-1) < 10 ^ 50) ∧
  (okC w ns → okM w m → ∀ H', Same H H' → Q .non H') ∧ (¬ okC w ns → ∀ H', Same H H' → E (.ref (D 0)) none H') ∧ (okC w ns → ¬ okM w m → ∀ H', Same H H' → E (.ref (D 1)) none H')
theorem c_of_chains {D : Nat → Addr} {w m : Int} {a : Addr} {ns : List Int} {H : Hp} {Q : VK} {E : XK} (h : H a = some (.lst (ns.map V.int))) (hl : ns.length ≤ 1000) (hg : IsCh ns → ns.length ≤ 100 ∧ gi ns (-1) < 10 ^ 50) (q : okC w ns → okM w m → ∀ H', Same H H' → Q .non H') (q0 : ¬ okC w ns → ∀ H', Same H H' → E (.ref (D 0)) none H') (q1 : okC w ns → ¬ okM w m → ∀ H', Same H H' → E (.ref (D 1)) none H') : spOfChains D [.int w, .ref a, .int m] H Q E := ⟨w, a, ns, m, rfl, h, hl, hg, q, q0, q1⟩
def spOfNumbers (D : Nat → Addr) : Sp := fun vs H Q E => ∃ w n : Int, vs = [.int w, .int n] ∧ (okN w n → ∀ H', Same H H' → Q .non H') ∧ (¬ okN w n → ∀ H', Same H H' → E (.ref (D 2)) none H')
theorem c_of_numbers {D : Nat → Addr} {w n : Int} {H : Hp} {Q : VK} {E : XK} (q : okN w n → ∀ H', Same H H' → Q .non H') (qE : ¬ okN w n → ∀ H', Same H H' → E (.ref (D 2)) none H') : spOfNumbers D [.int w, .int n] H Q E := ⟨w, n, rfl, q, qE⟩
def spTried : Sp := fun vs H Q _ => ∃ (w : Int) (a : Addr) (ns : List Int) (m n : Int), vs = [.int w, .ref a, .int m, .int n] ∧ H a = some (.lst (ns.map V.int)) ∧ ns.length ≤ 1000 ∧ (IsCh ns → ns.length ≤ 100 ∧ gi ns (-1) < 10 ^ 50) ∧
  (okC w ns → okM w m → okN w n → ∀ H', Same H H' → Q (.str (Str.ofString "done")) H') ∧ (¬ okC w ns → ∀ H', Same H H' → Q (.str (Str.ofString "chain")) H') ∧ (okC w ns → ¬ okM w m → ∀ H', Same H H' → Q (.str (Str.ofString "modulus")) H') ∧ (okC w ns → okM w m → ¬ okN w n → ∀ H', Same H H' → Q (.str (Str.ofString "number")) H')
theorem c_tried {w m n : Int} {a : Addr} {ns : List Int} {H : Hp} {Q : VK} {E : XK} (h : H a = some (.lst (ns.map V.int))) (hl : ns.length ≤ 1000) (hg : IsCh ns → ns.length ≤ 100 ∧ gi ns (-1) < 10 ^ 50) (q : okC w ns → okM w m → okN w n → ∀ H', Same H H' → Q (.str (Str.ofString "done")) H') (q0 : ¬ okC w ns → ∀ H', Same H H' → Q (.str (Str.ofString "chain")) H') (q1 : okC w ns → ¬ okM w m → ∀ H', Same H H' → Q (.str (Str.ofString "modulus")) H') (q2 : okC w ns → okM w m → ¬ okN w n → ∀ H', Same H H' → Q (.str (Str.ofString "number")) H') : spTried [.int w, .ref a, .int m, .int n] H Q E := ⟨w, a, ns, m, n, rfl, h, hl, hg, q, q0, q1, q2⟩
/-- what is told of a trial -/
structure TriedIs (w m n : Int) (ns : List Int) (t : Str) : Prop where
  done : okC w ns → okM w m → okN w n → t = Str.ofString "done"
  chain : ¬ okC w ns → t = Str.ofString "chain"
  modulus : okC w ns → ¬ okM w m → t = Str.ofString "modulus"
  number : okC w ns → okM w m → ¬ okN w n → t = Str.ofString "number"
theorem c_triedT {w m n : Int} {a : Addr} {ns : List Int} {H : Hp} {Q : VK} {E : XK} (h : H a = some (.lst (ns.map V.int))) (hl : ns.length ≤ 1000) (hg : IsCh ns → ns.length ≤ 100 ∧ gi ns (-1) < 10 ^ 50) (q : ∀ t H', Same H H' → TriedIs w m n ns t → Q (.str t) H') : spTried [.int w, .ref a, .int m, .int n] H Q E :=
  c_tried h hl hg (fun hc hm hn H' e => q _ H' e ⟨fun _ _ _ => rfl, fun z => absurd hc z, fun _ z => absurd hm z, fun _ _ z => absurd hn z⟩)
    (fun hc H' e => q _ H' e ⟨fun z => absurd z hc, fun _ => rfl, fun z => absurd z hc, fun z => absurd z hc⟩)
    (fun hc hm H' e => q _ H' e ⟨fun _ z => absurd z hm, fun z => absurd hc z, fun _ _ => rfl, fun _ z => absurd z hm⟩)
    (fun hc hm hn H' e => q _ H' e ⟨fun _ _ z => absurd z hn, fun z => absurd hc z, fun _ z => absurd hm z, fun _ _ _ => rfl⟩)
/-- what is due of a chain, of powers by a modulus -/
structure DueIs (ns : List Int) (m : Int) (due last : Str) : Prop where
  d1 : IsCh ns → due = Str.ofString "done"
  d2 : ¬ IsCh ns → due = Str.ofString "chain"
  l1 : IsCh ns → 1 ≤ m ∧ m ≤ 10 ^ 30 → last = Str.ofString "done"
  l2 : IsCh ns → ¬ (1 ≤ m ∧ m ≤ 10 ^ 30) → last = Str.ofString "modulus"
  l3 : ¬ IsCh ns → last = Str.ofString "chain"
def dueAt (due last : Str) (i : Nat) : Str := if i < 5 then due else last
theorem due_at {due last : Str} {i : Nat} (h : i < 6) : atI [V.str due, V.str last] ((i : Int) / 5) = some (.str (dueAt due last i)) := by
  have k : i = 0 ∨ i = 1 ∨ i = 2 ∨ i = 3 ∨ i = 4 ∨ i = 5 := by omega
  rcases k with rfl | rfl | rfl | rfl | rfl | rfl <;> rfl
theorem tried_due {i : Nat} {m : Int} {ns : List Int} {t due last : Str} (h : i < 6) (d : DueIs ns m due last) (z : TriedIs (i : Int) m 0 ns t) : t = dueAt due last i := by
  have hn : okN (i : Int) 0 := ⟨fun z => by omega, fun z => by omega, fun z => by omega, fun z => by omega⟩
  unfold dueAt
  by_cases hC : IsCh ns
  · have hc : okC (i : Int) ns := fun _ _ => hC
    by_cases h5 : i < 5
    · rw [if_pos h5, d.d1 hC]
      exact z.done hc (fun z => by omega) hn
    · rw [if_neg h5]
      by_cases hm : 1 ≤ m ∧ m ≤ 10 ^ 30
      · rw [d.l1 hC hm]
        exact z.done hc (fun _ => hm) hn
      · rw [d.l2 hC hm]
        exact z.modulus hc (fun y => hm (y (by omega)))
  · have hc : ¬ okC (i : Int) ns := fun y => hC (y (by omega) (by omega))
    rw [z.chain hc]
    by_cases h5 : i < 5
    · rw [if_pos h5, d.d2 hC]
    · rw [if_neg h5, d.l3 hC]
theorem want_at (b : Bool) : atI [V.str (Str.ofString "number"), V.str (Str.ofString "done")] (if b = true then 1 else 0) = some (.str (if b = true then Str.ofString "done" else Str.ofString "number")) := by cases b <;> rfl
theorem most_at : ∀ i : Nat, i < 4 → ∃ x : Int, atI [V.int 1000000000000000000000000000000, V.int 60, V.int 60, V.int 40] (6 + (i : Int) - 6) = some (.int x) ∧ ∀ n, okN (6 + (i : Int)) n ↔ 1 ≤ n ∧ n ≤ x
  | 0, _ => ⟨1000000000000000000000000000000, rfl, fun n => ⟨fun h => h.1 (by omega), fun h => ⟨fun _ => h, fun z => by omega, fun z => by omega, fun z => by omega⟩⟩⟩
  | 1, _ => ⟨60, rfl, fun n => ⟨fun h => h.2.1 (by omega), fun h => ⟨fun z => by omega, fun _ => h, fun z => by omega, fun z => by omega⟩⟩⟩
  | 2, _ => ⟨60, rfl, fun n => ⟨fun h => h.2.2.1 (by omega), fun h => ⟨fun z => by omega, fun z => by omega, fun _ => h, fun z => by omega⟩⟩⟩
  | 3, _ => ⟨40, rfl, fun n => ⟨fun h => h.2.2.2 (by omega), fun h => ⟨fun z => by omega, fun z => by omega, fun z => by omega, fun _ => h⟩⟩⟩
  | n + 4, h => by omega
theorem tried_want {i : Nat} {n : Int} {b : Bool} {t : Str} (hb : b = true ↔ okN (6 + (i : Int)) n) (z : TriedIs (6 + (i : Int)) 1 n [1] t) : t = if b = true then Str.ofString "done" else Str.ofString "number" := by
  have hc : okC (6 + (i : Int)) [1] := fun _ y => by omega
  have hm : okM (6 + (i : Int)) 1 := fun y => by omega
  cases b with
  | true => exact z.done hc hm (hb.mp rfl)
  | false => exact z.number hc hm fun y => nomatch hb.mpr y
/-- _law_spoilt: what is no chain -/
def spSpoilt14 (K : PySem.W.Frag) : Sp := fun vs H Q _ => ∃ (a c : Addr) (ns cs : List Int) (way : Int), vs = [.ref a, .ref c, .int way] ∧ SqL K H a (ns.map V.int) ∧ H c = some (.lst (cs.map V.int)) ∧ IsAdd cs ∧ cs.length ≤ 40 ∧ gi cs (-1) < 10 ^ 13 ∧
  ∀ (ds : List Int) p H', ds.length ≤ 310 → ¬ IsCh ds → Same H H' → H p = none → H' p = some (.lst (ds.map V.int)) → Q (.ref p) H'
theorem c_spoilt14 {K : PySem.W.Frag} {a c : Addr} {ns cs : List Int} {way : Int} {H : Hp} {Q : VK} {E : XK} (h : SqL K H a (ns.map V.int)) (hc : H c = some (.lst (cs.map V.int))) (hA : IsAdd cs) (hl : cs.length ≤ 40) (hg : gi cs (-1) < 10 ^ 13) (q : ∀ (ds : List Int) p H', ds.length ≤ 310 → ¬ IsCh ds → Same H H' → H p = none → H' p = some (.lst (ds.map V.int)) → Q (.ref p) H') : spSpoilt14 K [.ref a, .ref c, .int way] H Q E := ⟨a, c, ns, cs, way, rfl, h, hc, hA, hl, hg, q⟩
theorem no_nil : ¬ IsCh [] := fun h => absurd h.lo (by decide)
theorem no_head {x : Int} {r : List Int} (hx : x ≠ 1) : ¬ IsCh (x :: r) := fun h => hx h.one
theorem no_long {ns : List Int} (h : 250 < ns.length) : ¬ IsCh ns := fun z => by
  have := z.hi
  omega
/-- one more number that is not greater, or greater than any sum -/
theorem no_snoc {cs : List Int} (hA : IsAdd cs) {x : Int} (hx : x ≤ gi cs (-1) ∨ 2 * gi cs (-1) < x) : ¬ IsCh (cs ++ [x]) := fun h => by
  have hB := ((ch_iff _).mp h).1
  have hlo := hA.lo
  obtain ⟨h1, i, j, hi, hj, e⟩ := hB.step cs.length hlo (by rw [List.length_append, List.length_singleton]; omega)
  rw [getD_snoc_lt (by omega), getD_snoc_eq] at h1
  rw [getD_snoc_eq, getD_snoc_lt hi, getD_snoc_lt hj] at e
  have a := hA.le_last hi
  have b := hA.le_last hj
  have c := last_eq hA
  omega
end Fs

/-! ## The text by places -/
namespace Fs
open PySem PySem.Spec PyProof.Rows L2
def topS (i : Nat) : Stmt := PySem.Challenge.pw_fewsums_k14_refused.main.body.getD i (.Pass ⟨0, 0, 0, 0⟩)
/-- what the module's names hold -/
structure Nb (mg : Str → Option Value) : Prop where
  b_len : mg "len" = none
  b_range : mg "range" = none
  b_reversed : mg "reversed" = none
  b_list : mg "list" = none
  b_int : mg "int" = none
  b_str : mg "str" = none
  b_sum : mg "sum" = none
  b_sorted : mg "sorted" = none
  b_isinstance : mg "isinstance" = none
  b_bool : mg "bool" = none
  b_tuple : mg "tuple" = none
  b_min : mg "min" = none
  b_max : mg "max" = none
  b_all : mg "all" = none
  b_ValueError : mg "ValueError" = none
  c_MOST_chains : ∃ t, mg "MOST_chains" = some (.int 250 t)
  c_GREATEST_chains : ∃ t, mg "GREATEST_chains" = some (.int 1000000000000000000000000000000 t)
  c_GREATEST_powers : ∃ t, mg "GREATEST_powers" = some (.int 1000000000000000000000000000000 t)
  c_MOST_shortest : ∃ t, mg "MOST_shortest" = some (.int 60 t)
  c_MOST_COUNTED : ∃ t, mg "MOST_COUNTED" = some (.int 40 t)
def spLaw (K : PySem.W.Frag) : Sp := fun vs H Q _ => ∃ (a : Addr) (ns : List Int), vs = [.ref a] ∧ SqL K H a (ns.map V.int) ∧ ns.length ≤ 63 ∧ ∀ H', Q (.bl true) H'

/-! ## Short tactics of my own, under names that the library has for its own (local to this text) -/
-- kd_adr: a fact about a heap
local macro_rules | `(tactic| kd_adr) => `(tactic| first
  | assumption
  | (with_reducible apply upd_same)
  | (with_reducible apply Same.refl)
  | ((with_reducible apply SqL.of); kd_adr)
  | ((with_reducible apply same_new); kd_adr)
  | ((with_reducible apply get_new); kd_adr; (first | assumption | ((with_reducible apply Same.free) <;> assumption)))
  | ((with_reducible apply get_ne); (first | assumption | (refine Ne.symm ?_; assumption)); kd_adr)
  | ((with_reducible apply same_get); assumption; kd_adr)
  | ((with_reducible apply Same.seq); (first | assumption | ((with_reducible apply same_new); assumption)); kd_adr)
  | ((with_reducible apply same_mut); kd_adr; kd_adr)
  | ((with_reducible apply Same.free); kd_adr; assumption)
  | ((with_reducible apply Same.trans); kd_adr; (first | assumption | ((with_reducible apply same_new); assumption))))
-- kln_le: a side condition on ints
local macro_rules | `(tactic| kln_le) => `(tactic| first
  | assumption
  | omega
  | decide
  | (refine ⟨?_, ?_⟩ <;> first | omega | decide)
  | (refine Or.inl ⟨?_, ?_⟩ <;> first | omega | decide)
  | (refine Or.inr ⟨?_, ?_⟩ <;> first | omega | decide)
  | (refine ⟨?_, ?_, ?_⟩ <;> first | omega | decide))
-- kct_strs: a reading, as far as it goes by itself (kat_tups: one step of a def's own rule)
local macro_rules | `(tactic| kct_strs) => `(tactic| repeat (first
  | with_reducible refine s_seq ?_
  | with_reducible refine s_asg ?_
  | with_reducible refine g_name ?_
  | with_reducible refine s_ret ?_
  | with_reducible refine s_drop ?_
  | with_reducible refine s_next ?_
  | ((with_reducible apply e_var); exact rfl)
  | with_reducible refine e_c ?_
  | with_reducible refine e_op ?_
  | with_reducible refine e_un ?_
  | with_reducible refine e_I0 ?_
  | with_reducible refine e_U ?_
  | with_reducible refine e_nil ?_
  | with_reducible refine e_cons ?_
  | with_reducible refine e_lst ?_
  | with_reducible refine e_tup ?_
  | with_reducible refine e_cb ?_
  | with_reducible refine e_call ?_
  | with_reducible refine e_ckw ?_
  | with_reducible refine e_callS ?_
  | with_reducible refine e_eqI ?_
  | with_reducible refine e_neI ?_
  | with_reducible refine e_eqS ?_
  | with_reducible refine e_neS ?_
  | with_reducible refine t_test ?_
  | with_reducible refine t_B ?_
  | with_reducible refine t_bl ?_
  | with_reducible refine t_bl' ?_
  | with_reducible refine e_andV ?_
  | with_reducible refine e_orV ?_
  | with_reducible refine e_notV ?_
  | with_reducible refine iteT ?_
  | with_reducible refine iteF ?_
  | with_reducible refine t_or ?_
  | with_reducible refine t_and ?_
  | with_reducible refine t_not ?_
  | with_reducible refine i_nt ?_
  | with_reducible refine i_nn (decide_eq_true rfl) ?_
  | with_reducible refine i_yes (decide_eq_true rfl) ?_
  | with_reducible refine i_nf ?_
  | with_reducible refine e_p30 ?_
  | with_reducible refine e_p12 ?_
  | with_reducible refine e_p15 ?_
  | with_reducible refine e_p39 ?_
  | ((with_reducible apply r_eqL); kd_adr; kd_adr)
  | ((with_reducible apply r_neL); kd_adr; kd_adr)
  | ((with_reducible refine e_I ?c ?_); (case c => kln_le))
  | ((with_reducible apply e_ixI); kd_adr; kln_le; kln_le)
  | ((with_reducible apply r_len); kd_adr)
  | with_reducible refine r_isN ?_
  | with_reducible refine r_notN ?_
  | with_reducible refine r_isB ?_
  | with_reducible refine r_notB ?_
  | with_reducible refine e_m1 ?_
  | with_reducible refine x_str ?_
  | with_reducible refine r_notInS ?_
  | with_reducible refine r_max ?_
  | with_reducible refine r_min ?_
  | with_reducible refine r_intB ?_
  | with_reducible refine s_dput ?_
  | with_reducible refine d_din ?_
  | with_reducible refine d_dget ?_
  | ((with_reducible apply d_put); kd_adr; kln_le)
  | with_reducible refine e_lc0 ?_
  | with_reducible refine e_yes ?_
  | with_reducible refine s_for0 ?_
  | with_reducible refine rg_ref ?_
  | with_reducible refine e_sl ?_
  | with_reducible refine e_noPart ?_
  | with_reducible refine e_part ?_
  | with_reducible refine g_sub ?_
  | ((with_reducible apply m_set); kd_adr; kln_le; kln_le)
  | with_reducible refine e_eqB ?_
  | with_reducible refine e_neB ?_
  | with_reducible refine e_bm ?_
  | with_reducible refine e_bm0 ?_
  | ((with_reducible apply m_bm); kd_adr)
  | ((with_reducible apply m_bm0); kd_adr)
  | ((with_reducible apply m_appendI); kd_adr; (try simp only [List.length_append, List.length_singleton]); kln_le)
  | ((with_reducible apply m_append); kd_adr; (try simp only [List.length_map]); kln_le)
  | ((with_reducible apply m_clear); kd_adr)
  | ((with_reducible apply m_count); kd_adr)
  | with_reducible refine rg_int ?_
  | with_reducible refine rg_ints ?_
  | with_reducible refine r_int_int ?_
  | with_reducible refine r_int_bool ?_
  | with_reducible refine r_bool_bool ?_
  | with_reducible refine r_str_str ?_
  | with_reducible refine r_str_list ?_
  | ((with_reducible apply r_list_list); kd_adr)
  | ((with_reducible apply r_tup_tup); kd_adr)
  | kat_tups))
-- kp_flats: what a test answers that leaves the heap
local macro_rules | `(tactic| kp_flats) => `(tactic| first
  | ((with_reducible apply n_or); kp_flats; (intro hf; (try simp only [decide_eq_false_iff_not, decide_eq_true_eq, Bool.not_eq_false', Bool.not_eq_true', Bool.or_eq_false_iff, Bool.and_eq_true, Bool.or_eq_true, Bool.and_eq_false_iff] at hf); kp_flats))
  | ((with_reducible apply n_and); kp_flats; (intro hf; (try simp only [decide_eq_false_iff_not, decide_eq_true_eq, Bool.not_eq_false', Bool.not_eq_true', Bool.or_eq_false_iff, Bool.and_eq_true, Bool.or_eq_true, Bool.and_eq_false_iff] at hf); kp_flats))
  | ((with_reducible apply n_not); kp_flats)
  | ((with_reducible apply n_chain); (focus (intro Qt qt; kct_strs; exact qt)); (focus (intro Qt qt; kct_strs; exact qt)); (focus (intro Qt qt; kct_strs; exact qt)); (focus (intro hf Qt qt; kct_strs; exact qt)); (focus (intro hf Qt qt; kct_strs; exact qt)))
  | ((with_reducible apply n_of); focus (intro Qt qt; kct_strs; exact qt)))
-- kpt_turns: an if by what its test answers (b = true, then b = false)
local macro_rules | `(tactic| kpt_turns) => `(tactic| ((with_reducible apply s_if); kp_flats))

/-! ## _law_cell_at -/
abbrev sLawCellAt : Stmt := topS 35
theorem scLawCellAt : FnScope ["script", "k"] ["script", "k"] (defScope sLawCellAt) := ⟨rfl, rfl, rfl, by decide +kernel, rfl, by decide +kernel, by decide +kernel⟩
section
variable {P : Program} {w : World} {K : PySem.W.Frag} {mg : Str → Option Value} {base : Heap}
theorem ok_cell_at (F : Own K mg "_law_cell_at" sLawCellAt ["script", "k"]) (B : Nb mg) : Cal P w K mg base CX0 1 "_law_cell_at" ["script", "k"] (spCellAt K) := by
  refine F.ok scLawCellAt (fun vs H Q E h => ?_) (fun f cdv A outer s H vs Q E hr h => ?_)
  · obtain ⟨a, ns, k, rfl, _⟩ := h
    rfl
  obtain ⟨a, ns, k, rfl, hS, h0, q⟩ := h
  refine ⟨_, (pss_cons (ps_if (pt_cmpR op_lt (pv 1) (pe_callB f_len (by rfl) B.b_len PySem.boot_len (pa_cons (pv 0) pa_nil)) (nomark _)) (pss_one (ps_ret (pe_ix ix_list (pv 0) (pv 1) (fun _ _ => rfl)))) pss_nil)
      (pss_one (ps_ret pe_int))), ?_⟩
  dsimp only [cxOf, Cx.nox, Cx.wish, L2.start]
  kct_strs
  kpt_turns <;> intro hb
  · have hb' := of_decide_eq_true hb
    kct_strs
    have e : cellAt ns k = gi ns k := by
      unfold cellAt
      rw [if_pos hb']
    rw [← e]
    exact q
  · have hb' := of_decide_eq_false hb
    kct_strs
    have e : cellAt ns k = 0 := by
      unfold cellAt
      rw [if_neg hb']
    rw [← e]
    exact q
end

local macro_rules | `(tactic| kat_tups) => `(tactic| first | ((with_reducible apply c_cell_at); kd_adr; kln_le))

/-! ## _law_draw -/
abbrev sLawDraw : Stmt := topS 36
theorem scLawDraw : FnScope ["cell", "k", "bound", "left", "j", "stir"] ["cell", "k", "bound"] (defScope sLawDraw) := ⟨rfl, rfl, rfl, by decide +kernel, rfl, by decide +kernel, by decide +kernel⟩
section
variable {P : Program} {w : World} {K : PySem.W.Frag} {mg : Str → Option Value} {base : Heap}
theorem ok_draw (F : Own K mg "_law_draw" sLawDraw ["cell", "k", "bound"]) (B : Nb mg) : Cal P w K mg base CX0 1 "_law_draw" ["cell", "k", "bound"] spDraw := by
  refine F.ok scLawDraw (fun vs H Q E h => ?_) (fun f cdv A outer s H vs Q E hr h => ?_)
  · obtain ⟨cell, k, bound, rfl, _⟩ := h
    rfl
  obtain ⟨cell, k, bound, rfl, ⟨hk, hk2⟩, ⟨hb, hb2⟩, q⟩ := h
  refine ⟨_, (pss_cons (ps_if (pt_cmpR op_eq (pe_op op_mod (pv 0) pe_int) pe_int (nomark _)) (pss_cons (ps_set (i := 3) scLawDraw.nd rfl (.inl rfl) (pe_op op_fdiv (pv 0) pe_int))
      (pss_cons (ps_for PassesOwn.never rfl (pi_range1 (by rfl) B.b_range (pa_cons (pv 1) pa_nil)) (pg_name (i := 4) scLawDraw.nd rfl (.inl rfl))
      (pss_one (ps_set (i := 3) scLawDraw.nd rfl (.inl rfl) (pe_op op_fdiv (pv 3) (pv 2)))))
      (pss_one (ps_ret (pe_op op_mod (pv 3) (pv 2)))))) pss_nil)
      (pss_cons (ps_set (i := 5) scLawDraw.nd rfl (.inl rfl) (pe_op op_mod (pe_op op_mul (pe_op op_add (pe_op op_add (pe_op op_mod (pv 0) pe_int) (pe_op op_mul pe_int (pv 1))) pe_int) pe_int) pe_int))
      (pss_cons (ps_set (i := 5) scLawDraw.nd rfl (.inl rfl) (pe_op op_mod (pe_op op_mul (pv 5) (pv 5)) pe_int))
      (pss_cons (ps_set (i := 5) scLawDraw.nd rfl (.inl rfl) (pe_op op_mod (pe_op op_mul (pe_op op_add (pv 5) (pe_op op_mul pe_int (pe_op op_add (pv 1) pe_int))) pe_int) pe_int))
      (pss_one (ps_ret (pe_op op_mod (pe_op op_fdiv (pv 5) pe_int) (pv 2)))))))), ?_⟩
  dsimp only [cxOf, Cx.nox, Cx.wish, L2.start]
  kct_strs
  kpt_turns <;> intro hc
  · kct_strs
    refine s_for1 (x := k) (fun i σ' H' => ∃ x y, σ' = [some (.int cell), some (.int k), some (.int bound), some (.int x), y, none] ∧ H' = H) rfl (by omega) (fun Qt qt => by kct_strs; exact qt) (by omega) ?_ ?_ ?_
    · exact ⟨_, _, rfl, rfl⟩
    · rintro i σ' H' hi ⟨x, y, rfl, rfl⟩
      kct_strs
      exact ⟨_, _, rfl, rfl⟩
    · rintro σ' H' ⟨x, y, rfl, rfl⟩
      kct_strs
      exact q _ (Int.emod_nonneg _ (by omega)) (Int.emod_lt_of_pos _ hb)
  · kct_strs
    exact q _ (Int.emod_nonneg _ (by omega)) (Int.emod_lt_of_pos _ hb)
end

/-! ## _law_chain_by -/
abbrev sLawChainBy : Stmt := topS 37
theorem scLawChainBy : FnScope ["script", "first", "most", "chain", "k", "cell", "far", "one", "total"] ["script", "first", "most"] (defScope sLawChainBy) := ⟨rfl, rfl, rfl, by decide +kernel, rfl, by decide +kernel, by decide +kernel⟩
local macro_rules | `(tactic| kat_tups) => `(tactic| ((with_reducible apply c_cell_at); kd_adr; kln_le))
section
variable {P : Program} {w : World} {K : PySem.W.Frag} {mg : Str → Option Value} {base : Heap}
theorem ok_chain_by (F : Own K mg "_law_chain_by" sLawChainBy ["script", "first", "most"]) (B : Nb mg) (GLawCellAt : Cal P w K mg base CX0 1 "_law_cell_at" ["script", "k"] (spCellAt K)) (GLawDraw : Cal P w K mg base CX0 1 "_law_draw" ["cell", "k", "bound"] spDraw) :
    Cal P w K mg base CX0 2 "_law_chain_by" ["script", "first", "most"] (spChainBy K) := by
  refine F.ok scLawChainBy (fun vs H Q E h => ?_) (fun f cdv A outer s H vs Q E hr h => ?_)
  · obtain ⟨a, ns, first, most, rfl, _⟩ := h
    rfl
  obtain ⟨a, ns, first, most, rfl, hS0, ⟨hf, hm, hm2⟩, q⟩ := h
  refine ⟨_, (pss_cons (ps_set (i := 3) scLawChainBy.nd rfl (.inl rfl) (pe_lst (pa_cons pe_int pa_nil)))
      (pss_cons (ps_for PassesOwn.never rfl (pi_range1 (by rfl) B.b_range (pa_cons (pe_op op_mod (pe_cal GLawCellAt (hr.mono (by decide)) pass0 rfl (pa_cons (pv 0) (pa_cons (pv 1) pa_nil))) (pv 2)) pa_nil)) (pg_name (i := 4) scLawChainBy.nd rfl (.inl rfl))
      (pss_cons (ps_set (i := 5) scLawChainBy.nd rfl (.inl rfl) (pe_cal GLawDraw (hr.mono (by decide)) pass0 rfl (pa_cons (pe_cal GLawCellAt (hr.mono (by decide)) pass0 rfl (pa_cons (pv 0) (pa_cons (pe_op op_add (pv 1) pe_int) pa_nil))) (pa_cons (pv 4) (pa_cons pe_int pa_nil)))))
      (pss_cons (ps_set (i := 6) scLawChainBy.nd rfl (.inl rfl) (pe_op op_sub (pe_callB f_len (by rfl) B.b_len PySem.boot_len (pa_cons (pv 3) pa_nil)) pe_int))
      (pss_mid (ps_if (pt_cmpR op_eq (pe_op op_mod (pe_op op_fdiv (pe_cal GLawCellAt (hr.mono (by decide)) pass0 rfl (pa_cons (pv 0) (pa_cons (pv 1) pa_nil))) pe_int) pe_int) pe_int (nomark _)) (pss_one (ps_set (i := 6) scLawChainBy.nd rfl (.inl rfl) (pe_op op_mod (pe_op op_fdiv (pv 5) pe_int) (pe_callB f_len (by rfl) B.b_len PySem.boot_len (pa_cons (pv 3) pa_nil))))) pss_nil)
      (pss_cons (ps_set (i := 7) scLawChainBy.nd rfl (.inl rfl) (pe_op op_mod (pv 5) (pe_callB f_len (by rfl) B.b_len PySem.boot_len (pa_cons (pv 3) pa_nil))))
      (pss_cons (ps_set (i := 8) scLawChainBy.nd rfl (.inl rfl) (pe_op op_add (pe_ix ix_list (pv 3) (pv 6) (fun _ _ => rfl)) (pe_ix ix_list (pv 3) (pv 7) (fun _ _ => rfl))))
      (pss_mid (ps_if (pt_cmpR op_le (pv 8) (pe_ix ix_list (pv 3) (pe_un un_neg pe_int) (fun _ _ => rfl)) (nomark _)) (pss_one (ps_set (i := 8) scLawChainBy.nd rfl (.inl rfl) (pe_op op_add (pe_ix ix_list (pv 3) (pe_un un_neg pe_int) (fun _ _ => rfl)) (pe_ix ix_list (pv 3) (pv 7) (fun _ _ => rfl))))) pss_nil)
      (pss_one (ps_if (pt_cmpR op_lt (pv 8) (pe_op op_pow pe_int pe_int) (nomark _)) (pss_one (ps_expr (pe_bm PySem.F.plainAttrs_list PySem.F.slot_list_append PySem.F.type_list_append mt_append (pv 3) (pa_cons (pv 8) pa_nil)))) pss_nil)))))))))
      (pss_one (ps_ret (pv 3))))), ?_⟩
  dsimp only [cxOf, Cx.nox, Cx.wish, L2.start]
  kct_strs
  refine ⟨le_one, fun p hp => ?_⟩
  kct_strs
  have hmod := Int.emod_nonneg (cellAt ns first) (show most ≠ 0 by omega)
  have hmod2 := Int.emod_lt_of_pos (cellAt ns first) (show 0 < most by omega)
  have hS1 : SqL K (upd H p (.lst [.int 1])) a (ns.map V.int) := (same_new hp).seq hS0
  refine s_for1 (x := cellAt ns first % most) (fun i σ' H' => ∃ (cs : List Int) (y1 y2 y3 y4 y5 : Option V), σ' = [some (.ref a), some (.int first), some (.int most), some (.ref p), y1, y2, y3, y4, y5] ∧ Same H H' ∧ H' p = some (.lst (cs.map V.int)) ∧ IsAdd cs ∧ cs.length ≤ i + 1 ∧ ∀ i, i < cs.length → cs.getD i 0 < 1000000000000)
    rfl (by omega) (fun Qt qt => by kct_strs; exact qt) (by omega) ⟨[1], _, _, _, _, _, rfl, same_new hp, upd_same, IsAdd.single, Nat.le_refl _, fun i hi => by
      have : i = 0 := by
        have : i < 1 := hi
        omega
      subst this
      decide⟩ ?_ ?_
  · rintro i σ' H' hi ⟨cs, y1, y2, y3, y4, y5, rfl, hS, hcs, hA, hl, hlt⟩
    have hlo := hA.lo
    have hS' : SqL K H' a (ns.map V.int) := hS.seq hS0
    kct_strs
    refine c_draw ⟨by omega, by omega⟩ ⟨by omega, by omega⟩ fun r hr0 hr1 => ?_
    kct_strs
    refine s_cut (fun σ2 H2 => ∃ (far : Nat), far < cs.length ∧ σ2 = [some (.ref a), some (.int first), some (.int most), some (.ref p), some (.int (i : Int)), some (.int r), some (.int (far : Int)), y4, y5] ∧ H' = H2) ?_ ?_
    · kpt_turns <;> intro hb
      · kct_strs
        have h1 := Int.emod_nonneg (r / 7) (show (cs.length : Int) ≠ 0 by omega)
        have h2 := Int.emod_lt_of_pos (r / 7) (show 0 < (cs.length : Int) by omega)
        refine ⟨(r / 7 % (cs.length : Int)).toNat, by omega, ?_, rfl⟩
        rw [Int.toNat_of_nonneg h1]
        rfl
      · kct_strs
        refine ⟨cs.length - 1, by omega, ?_, rfl⟩
        rw [show ((cs.length - 1 : Nat) : Int) = (cs.length : Int) - 1 by omega]
        rfl
    rintro σ2 H2 ⟨far, hfar, rfl, rfl⟩
    have h1 := Int.emod_nonneg r (show (cs.length : Int) ≠ 0 by omega)
    have h2 := Int.emod_lt_of_pos r (show 0 < (cs.length : Int) by omega)
    obtain ⟨one, hone⟩ : ∃ one : Nat, r % (cs.length : Int) = (one : Int) := ⟨(r % (cs.length : Int)).toNat, by omega⟩
    have hone2 : one < cs.length := by omega
    kct_strs
    rw [hone]
    have g1 : gi cs (far : Int) = cs.getD far 0 := gi_nat cs far
    have g2 : gi cs (one : Int) = cs.getD one 0 := gi_nat cs one
    have g3 : gi cs (-1) = cs.getD (cs.length - 1) 0 := gi_last cs (by
      intro z
      rw [z] at hlo
      exact absurd hlo (by decide))
    kct_strs
    rw [g1, g2]
    refine s_cut (fun σ2 H2 => ∃ (total : Int) (x y : Nat), x < cs.length ∧ y < cs.length ∧ total = cs.getD x 0 + cs.getD y 0 ∧ cs.getD (cs.length - 1) 0 < total ∧ σ2 = [some (.ref a), some (.int first), some (.int most), some (.ref p), some (.int (i : Int)), some (.int r), some (.int (far : Int)), some (.int (one : Int)), some (.int total)] ∧ H' = H2) ?_ ?_
    · kpt_turns <;> intro hb
      · kct_strs
        rw [g2, g3]
        have := hA.pos (show one < cs.length by omega)
        exact ⟨_, cs.length - 1, one, by omega, by omega, rfl, by omega, rfl, rfl⟩
      · have hb' := of_decide_eq_false hb
        rw [g3] at hb'
        kct_strs
        exact ⟨_, far, one, hfar, by omega, rfl, by omega, rfl, rfl⟩
    rintro σ3 H3 ⟨total, x, y, hx, hy, ht, htl, rfl, rfl⟩
    kpt_turns <;> intro hb
    · have hb' := of_decide_eq_true hb
      kct_strs
      refine ⟨cs ++ [total], _, _, _, _, _, rfl, same_mut hS hp, upd_same, hA.snoc hx hy ht htl, ?_, fun j hj => ?_⟩
      · rw [List.length_append, List.length_singleton]
        omega
      rw [List.length_append, List.length_singleton] at hj
      by_cases e : j < cs.length
      · rw [getD_snoc_lt e]
        exact hlt j e
      · obtain rfl : j = cs.length := by omega
        rw [getD_snoc_eq]
        exact hb'
    · kct_strs
      exact ⟨cs, _, _, _, _, _, rfl, hS, hcs, hA, by omega, hlt⟩
  · rintro σ' H' ⟨cs, y1, y2, y3, y4, y5, rfl, hS, hcs, hA, hl, hlt⟩
    kct_strs
    exact q cs p H' hA (by omega) hlt hS hp hcs
end

/-! ## link_of, is_chain -/
abbrev sLinkOf : Stmt := topS 10
theorem scLinkOf : FnScope ["chain", "place", "spots", "k", "rest"] ["chain", "place"] (defScope sLinkOf) := ⟨rfl, rfl, rfl, by decide +kernel, rfl, by decide +kernel, by decide +kernel⟩
abbrev sIsChain : Stmt := topS 11
theorem scIsChain : FnScope ["chain", "place"] ["chain"] (defScope sIsChain) := ⟨rfl, rfl, rfl, by decide +kernel, rfl, by decide +kernel, by decide +kernel⟩
section
variable {P : Program} {w : World} {K : PySem.W.Frag} {mg : Str → Option Value} {base : Heap}
theorem ok_link_of (F : Own K mg "link_of" sLinkOf ["chain", "place"]) (B : Nb mg) : Cal P w K mg base CX0 1 "link_of" ["chain", "place"] spLinkOf := by
  refine F.ok scLinkOf (fun vs H Q E h => ?_) (fun f cdv A outer s H vs Q E hr h => ?_)
  · obtain ⟨a, ns, p, rfl, _⟩ := h
    rfl
  obtain ⟨a, ns, p, rfl, ha, ⟨hp, hl⟩, q⟩ := h
  refine ⟨_, (pss_cons (ps_set (i := 2) scLinkOf.nd rfl (.inl rfl) pe_dnewK)
      (pss_cons (ps_for PassesOwn.never rfl (pi_range1 (by rfl) B.b_range (pa_cons (pv 1) pa_nil)) (pg_name (i := 3) scLinkOf.nd rfl (.inl rfl))
      (pss_one (ps_dput (hu_of hr) (pv 2) (pe_ix ix_list (pv 0) (pv 3) (fun _ _ => rfl)) (pv 3) rfl)))
      (pss_cons (ps_for PassesOwn.never rfl (pi_revR (by rfl) B.b_reversed (prg_1 (by rfl) B.b_range (pv 1))) (pg_name (i := 3) scLinkOf.nd rfl (.inl rfl))
      (pss_cons (ps_set (i := 4) scLinkOf.nd rfl (.inl rfl) (pe_op op_sub (pe_ix ix_list (pv 0) (pv 1) (fun _ _ => rfl)) (pe_ix ix_list (pv 0) (pv 3) (fun _ _ => rfl))))
      (pss_one (ps_if (PW.pt (pw_and (pt_cmp (pc_din (hu_of hr) (pv 4) (pv 2))) (pw_and1 (pt_cmpR op_le (pe_dget (hu_of hr) (pv 2) (pv 4) (fun _ _ => rfl)) (pv 3) (nomark _))))) (pss_one (ps_ret (pe_tup (pa_cons (pe_dget (hu_of hr) (pv 2) (pv 4) (fun _ _ => rfl)) (pa_cons (pv 3) pa_nil))))) pss_nil))))
      (pss_one (ps_ret pe_non))))), ?_⟩
  dsimp only [cxOf, Cx.nox, Cx.wish, L2.start]
  kct_strs
  refine d_new fun d hd => ?_
  kct_strs
  refine s_for1 (x := (p : Int)) (k := p) (fun i σ' H' => ∃ (y : Option V) (kvs : List (Key × V)), σ' = [some (.ref a), some (.int (p : Int)), some (.ref d), y, none] ∧ Same H H' ∧ H' d = some (.dK kvs) ∧ kvs.length ≤ i ∧ ∀ x : Int, valV kvs (Sum.inl x) = (lastIx ns i x).map fun j : Nat => V.int (j : Int))
    (by omega) (by omega) (fun Qt qt => by kct_strs; exact qt) (by omega) ⟨none, [], rfl, same_new hd, upd_same, Nat.le_refl _, fun x => rfl⟩ ?_ ?_
  · rintro i σ' H' hi ⟨y, kvs, rfl, hS, hkd, hkl, hkv⟩
    kct_strs
    refine ⟨_, _, rfl, same_mut hS hd, upd_same, Nat.le_trans (length_putK _ _ _) (by omega), fun x => ?_⟩
    rw [valV_put, gi_nat]
    unfold lastIx
    by_cases e : ns.getD i 0 = x
    · rw [if_pos e, if_pos (by rw [e])]
      rfl
    · rw [if_neg e, if_neg (fun z => e (Sum.inl.inj z).symm)]
      exact hkv x
  · rintro σ' H' ⟨y, kvs, rfl, hS, hkd, hkl, hkv⟩
    kct_strs
    refine s_forRR (a := 0) (b := (p : Int)) (k := p) (fun i σ2 H2 => ∃ (y z : Option V), σ2 = [some (.ref a), some (.int (p : Int)), some (.ref d), y, z] ∧ Same H' H2 ∧ linkOf ns p = linkGo ns p (p - i)) (by omega) (fun Qt qt => by refine prg1_of (x := 0) ?_; kct_strs; exact qt) (by omega) ⟨_, _, rfl, Same.refl _, rfl⟩ ?_ ?_
    · rintro i σ2 H2 hi ⟨y2, z2, rfl, hS2, hlk⟩
      have hk : ((0 : Int) + ((p - 1 - i : Nat) : Int)) = ((p - 1 - i : Nat) : Int) := by omega
      rw [hk]
      have hpi : p - i = (p - 1 - i) + 1 := by omega
      have hpi2 : p - (i + 1) = p - 1 - i := by omega
      rw [hpi] at hlk
      rw [hpi2]
      have hkp : p - 1 - i < p := by omega
      generalize p - 1 - i = k at *
      unfold linkGo at hlk
      kct_strs
      refine s_ifs ?_
      kct_strs
      refine d_in (by kd_adr) (hkv _) ?_
      kct_strs
      rw [gi_nat, gi_nat]
      cases hx : lastIx ns p (ns.getD p 0 - ns.getD k 0) with
      | none =>
        rw [hx] at hlk
        refine iteF (iteF ?_)
        kct_strs
        exact ⟨_, _, rfl, hS2, hlk⟩
      | some j =>
        rw [hx] at hlk
        replace hlk : linkOf ns p = if j ≤ k then some (j, k) else linkGo ns p k := hlk
        refine iteT ?_
        kct_strs
        refine d_get (by kd_adr) ((hkv _).trans (by rw [hx]; rfl)) ?_
        kct_strs
        refine ite2 (fun hc => ?_) (fun hc => ?_)
        · have hc' : j ≤ k := by
            have := of_decide_eq_true hc
            omega
          rw [if_pos hc'] at hlk
          kct_strs
          refine d_get (by kd_adr) ((hkv _).trans (by rw [hx]; rfl)) ?_
          kct_strs
          refine ⟨le_two, fun t ht => ?_⟩
          kct_strs
          refine q (.ref t) _ ((hS.trans hS2).trans (same_new ht)) ?_ (fun t' e => ?_)
          · rw [hlk]
            exact ⟨t, rfl, upd_same⟩
          · cases e
            exact (hS.trans hS2).free ht
        · have hc' : ¬ j ≤ k := fun z => hc (decide_eq_true (by omega))
          rw [if_neg hc'] at hlk
          kct_strs
          exact ⟨_, _, rfl, hS2, hlk⟩
    · rintro σ2 H2 ⟨y2, z2, rfl, hS2, hlk⟩
      rw [Nat.sub_self] at hlk
      kct_strs
      refine q .non H2 (hS.trans hS2) ?_ (fun t e => by cases e)
      rw [hlk]
      rfl
theorem ok_is_chain (F : Own K mg "is_chain" sIsChain ["chain"]) (B : Nb mg) (GLinkOf : Cal P w K mg base CX0 1 "link_of" ["chain", "place"] spLinkOf) : Cal P w K mg base CX0 2 "is_chain" ["chain"] spIsChain := by
  refine F.ok scIsChain (fun vs H Q E h => ?_) (fun f cdv A outer s H vs Q E hr h => ?_)
  · obtain ⟨a, ns, rfl, _⟩ := h
    rfl
  obtain ⟨a, ns, rfl, ha, hl, q⟩ := h
  refine ⟨_, (pss_cons (ps_if (PW.pt (pw_or (pt_cmpR op_lt (pe_callB f_len (by rfl) B.b_len PySem.boot_len (pa_cons (pv 0) pa_nil)) pe_int (nomark _)) (pw_or (pt_cmpR op_gt (pe_callB f_len (by rfl) B.b_len PySem.boot_len (pa_cons (pv 0) pa_nil)) (pe_const B.c_MOST_chains rfl) (nomark _)) (pw_or1 (pt_cmpR op_ne (pe_ix ix_list (pv 0) pe_int (fun _ _ => rfl)) pe_int (nomark _)))))) (pss_one (ps_ret pe_bl)) pss_nil)
      (pss_cons (ps_for PassesOwn.never rfl (pi_range2 (by rfl) B.b_range (pa_cons pe_int (pa_cons (pe_callB f_len (by rfl) B.b_len PySem.boot_len (pa_cons (pv 0) pa_nil)) pa_nil))) (pg_name (i := 1) scIsChain.nd rfl (.inl rfl))
      (pss_one (ps_if (PW.pt (pw_or (pt_cmpR op_le (pe_ix ix_list (pv 0) (pv 1) (fun _ _ => rfl)) (pe_ix ix_list (pv 0) (pe_op op_sub (pv 1) pe_int) (fun _ _ => rfl)) (nomark _)) (pw_or1 (pt_cmpR op_isN1 (pe_cal GLinkOf (hr.mono (by decide)) pass0 rfl (pa_cons (pv 0) (pa_cons (pv 1) pa_nil))) pe_non (nomark _))))) (pss_one (ps_ret pe_bl)) pss_nil)))
      (pss_one (ps_ret pe_bl)))), ?_⟩
  dsimp only [cxOf, Cx.nox, Cx.wish, L2.start]
  kct_strs
  kpt_turns <;> intro hb
  · kct_strs
    refine q false H (Same.refl _) ⟨(fun z => nomatch z), fun h => ?_⟩
    have h1 := h.lo
    have h2 := h.hi
    have h3 := h.one
    simp only [Bool.or_eq_true, decide_eq_true_eq, Bool.not_eq_true', decide_eq_false_iff_not] at hb
    rcases hb with hb | hb | hb
    · omega
    · omega
    · exact absurd h3 hb
  simp only [Bool.or_eq_false_iff, decide_eq_false_iff_not, Bool.not_eq_false', decide_eq_true_eq] at hb
  obtain ⟨hb1, hb2, hb3⟩ := hb
  have hb3' : ns.getD 0 0 = 1 := hb3
  kct_strs
  refine s_for2 (a := 1) (b := (ns.length : Int)) (k := ns.length - 1) (fun i σ' H' => ∃ y : Option V, σ' = [some (.ref a), y] ∧ Same H H' ∧ ∀ p, 1 ≤ p → p < 1 + i → stepOk ns p = true) (by omega) (fun Qt qt => by kct_strs; exact qt) (by omega) ⟨_, rfl, Same.refl _, fun p h1 h2 => by omega⟩ ?_ ?_
  · rintro i σ' H' hi ⟨y, rfl, hS, hst⟩
    have hk : (1 : Int) + (i : Int) = ((1 + i : Nat) : Int) := by omega
    rw [hk]
    have hne : ∀ (b : Bool), stepOk ns (1 + i) = false → (b = true ↔ IsCh ns) → b = false := fun b h1 h2 => by
      cases b with
      | false => rfl
      | true =>
        have := (h2.mp rfl).step (1 + i) (by omega) (by omega)
        rw [h1] at this
        cases this
    have hfalse : stepOk ns (1 + i) = false → (false = true ↔ IsCh ns) := fun h1 => ⟨(fun z => nomatch z), fun h2 => by
      have := h2.step (1 + i) (by omega) (by omega)
      rw [h1] at this
      cases this⟩
    kct_strs
    refine s_ifs ?_
    kct_strs
    have e1 : gi ns ((1 + i : Nat) : Int) = ns.getD (1 + i) 0 := gi_nat ns (1 + i)
    have e2 : gi ns (((1 + i : Nat) : Int) - 1) = ns.getD (1 + i - 1) 0 := by
      rw [gi_nn (by omega)]
      congr 1
      omega
    rw [e1, e2]
    refine ite2 (fun hc => ?_) (fun hc => ?_)
    · have hc' := of_decide_eq_true hc
      refine iteT ?_
      kct_strs
      refine q false H' hS (hfalse ?_)
      unfold stepOk
      rw [decide_eq_false (by omega)]
      rfl
    · have hc' : ¬ ns.getD (1 + i) 0 ≤ ns.getD (1 + i - 1) 0 := fun z => hc (decide_eq_true z)
      kct_strs
      refine c_link_of (p := 1 + i) rfl (by kd_adr) ⟨by omega, hl⟩ fun v H2 e hv hf => ?_
      kct_strs
      cases hlk : linkOf ns (1 + i) with
      | none =>
        rw [hlk] at hv
        subst hv
        refine i_yes (decide_eq_true rfl) ?_
        kct_strs
        refine q false H2 (hS.trans e) (hfalse ?_)
        unfold stepOk
        rw [hlk, Bool.and_comm]
        rfl
      | some jk =>
        rw [hlk] at hv
        obtain ⟨t, rfl, ht⟩ := hv
        refine i_no (decide_eq_false (by intro z; cases z)) ?_
        kct_strs
        refine ⟨_, rfl, hS.trans e, fun p h1 h2 => ?_⟩
        by_cases hp : p < 1 + i
        · exact hst p h1 hp
        · obtain rfl : p = 1 + i := by omega
          unfold stepOk
          rw [hlk, decide_eq_true (by omega)]
          rfl
  · rintro σ' H' ⟨y, rfl, hS, hst⟩
    kct_strs
    exact q true H' hS ⟨fun _ => ⟨by omega, by omega, hb3', fun p h1 h2 => hst p h1 (by omega)⟩, fun _ => rfl⟩
end

/-! ## asked_chain (of a chain) -/
abbrev sAskedChain : Stmt := topS 12
theorem scAskedChain : FnScope ["chain"] ["chain"] (defScope sAskedChain) := ⟨rfl, rfl, rfl, by decide +kernel, rfl, by decide +kernel, by decide +kernel⟩
section
variable {P : Program} {w : World} {K : PySem.W.Frag} {mg : Str → Option Value} {base : Heap}
theorem ok_asked (F : Own K mg "asked_chain" sAskedChain ["chain"]) (B : Nb mg) (GIsChain : Cal P w K mg base CX0 2 "is_chain" ["chain"] spIsChain) : Cal P w K mg base CX0 3 "asked_chain" ["chain"] spAsked := by
  refine F.ok scAskedChain (fun vs H Q E h => ?_) (fun f cdv A outer s H vs Q E hr h => ?_)
  · obtain ⟨a, ns, rfl, _⟩ := h
    rfl
  obtain ⟨a, ns, rfl, ha, hC, q⟩ := h
  refine ⟨_, (pss_one (ps_if (pt_not (pt_val (pe_cal GIsChain (hr.mono (by decide)) pass0 rfl (pa_cons (pv 0) pa_nil)))) (pss_one ps_never) pss_nil)), ?_⟩
  dsimp only [cxOf, Cx.nox, Cx.wish, L2.start]
  have hl := hC.hi
  refine s_ifs ?_
  kct_strs
  refine c_is_chain (by kd_adr) (by omega) fun b H1 e1 hb => ?_
  obtain rfl : b = true := hb.mpr hC
  kct_strs
  exact q H1 e1
end

/-! ## links_by -/
abbrev sLinksBy : Stmt := topS 13
theorem scLinksBy : FnScope ["chain", "place"] ["chain"] (defScope sLinksBy) := ⟨rfl, rfl, rfl, by decide +kernel, rfl, by decide +kernel, by decide +kernel⟩
section
variable {P : Program} {w : World} {K : PySem.W.Frag} {mg : Str → Option Value} {base : Heap}
theorem ok_links_by (F : Own K mg "links_by" sLinksBy ["chain"]) (B : Nb mg) (GLinkOf : Cal P w K mg base CX0 1 "link_of" ["chain", "place"] spLinkOf) : Cal P w K mg base CX0 2 "links_by" ["chain"] spLinksBy := by
  refine F.ok scLinksBy (fun vs H Q E h => ?_) (fun f cdv A outer s H vs Q E hr h => ?_)
  · obtain ⟨a, ns, rfl, _⟩ := h
    rfl
  obtain ⟨a, ns, rfl, ha, hC, q⟩ := h
  refine ⟨_, (pss_one (ps_ret (pe_lc (own := [("place", 1)]) (g := gName 1) rfl scLinksBy.nd (pi_range2 (by rfl) B.b_range (pa_cons pe_int (pa_cons (pe_callB f_len (by rfl) B.b_len PySem.boot_len (pa_cons (pv 0) pa_nil)) pa_nil))) (blkOk_by (N := ["chain", "place"]) (sc := defScope sLinksBy) (by decide +kernel)) (fun _ _ _ _ _ => pg_name (i := 1) scLinksBy.nd rfl (Or.inl rfl)) (fun _ _ _ _ _ => pts_nil) (fun _ _ _ _ _ => (pe_cal GLinkOf (hr.mono (by decide)) pass0 rfl (pa_cons (pv 0) (pa_cons (pv 1) pa_nil))))))), ?_⟩
  dsimp only [cxOf, Cx.nox, Cx.wish, L2.start]
  have hl := hC.hi
  have hl1 := hC.lo
  kct_strs
  refine e_lcR2 (a := 1) (b := (ns.length : Int)) (k := ns.length - 1) (LinksR ns) (by omega) (fun Qt qt => by kct_strs; exact qt) (by omega) (by omega) (fun D _ => linksR_nil D) linksR_mono (fun _ => rfl) (fun i hi => ?_) (fun D acc H2 hD e2 hacc hR => ?_)
  · intro D acc H2 K1 K0 hD e2 hacc hR k1 k0
    obtain ⟨jk, hjk⟩ := hC.link (p := 1 + i) (by omega) (by omega)
    kct_strs
    refine c_link_of (p := 1 + i) (by omega) (by kd_adr) ⟨by omega, by omega⟩ fun v H3 e3 hv _ => ?_
    exact k1 v H3 e3 (linksR_snoc hR hacc e3 hjk hv)
  · refine q D acc H2 e2 hD hacc (linksR_end hR) fun t ht => ?_
    obtain ⟨m, hm⟩ := List.mem_iff_getElem?.mp ht
    obtain ⟨t2, jk, n, _, c, _⟩ := hR.2 m (by rw [← hR.1]; exact (List.getElem?_eq_some_iff.mp hm).1)
    rw [hm] at c
    obtain rfl := V.ref.inj (Option.some.inj c)
    exact n
end

/-! ## links -/
abbrev sLinks : Stmt := topS 14
theorem scLinks : FnScope ["chain"] ["chain"] (defScope sLinks) := ⟨rfl, rfl, rfl, by decide +kernel, rfl, by decide +kernel, by decide +kernel⟩
section
variable {P : Program} {w : World} {K : PySem.W.Frag} {mg : Str → Option Value} {base : Heap}
theorem ok_links (F : Own K mg "links" sLinks ["chain"]) (B : Nb mg) (GAskedChain : Cal P w K mg base CX0 3 "asked_chain" ["chain"] spAsked) (GLinksBy : Cal P w K mg base CX0 2 "links_by" ["chain"] spLinksBy) : Cal P w K mg base CX0 4 "links" ["chain"] spLinksBy := by
  refine F.ok scLinks (fun vs H Q E h => ?_) (fun f cdv A outer s H vs Q E hr h => ?_)
  · obtain ⟨a, ns, rfl, _⟩ := h
    rfl
  obtain ⟨a, ns, rfl, ha, hC, q⟩ := h
  refine ⟨_, (pss_cons (ps_expr (pe_cal GAskedChain (hr.mono (by decide)) pass0 rfl (pa_cons (pv 0) pa_nil)))
      (pss_one (ps_ret (pe_cal GLinksBy (hr.mono (by decide)) pass0 rfl (pa_cons (pv 0) pa_nil))))), ?_⟩
  dsimp only [cxOf, Cx.nox, Cx.wish, L2.start]
  kct_strs
  refine c_asked (by kd_adr) hC fun H1 e1 => ?_
  kct_strs
  refine c_links_by (by kd_adr) hC fun p acc H2 e2 hp h2 hL hn => ?_
  exact q p acc H2 (e1.trans e2) (e1.free hp) h2 hL hn
end

/-! ## thinned -/
abbrev sThinned : Stmt := topS 15
theorem scThinned : FnScope ["chain", "known", "needed", "place"] ["chain"] (defScope sThinned) := ⟨rfl, rfl, rfl, by decide +kernel, rfl, by decide +kernel, by decide +kernel⟩
section
variable {P : Program} {w : World} {K : PySem.W.Frag} {mg : Str → Option Value} {base : Heap}
theorem ok_thinned (F : Own K mg "thinned" sThinned ["chain"]) (B : Nb mg) (GAskedChain : Cal P w K mg base CX0 3 "asked_chain" ["chain"] spAsked) (GLinksBy : Cal P w K mg base CX0 2 "links_by" ["chain"] spLinksBy) : Cal P w K mg base CX0 4 "thinned" ["chain"] spThinned := by
  refine F.ok scThinned (fun vs H Q E h => ?_) (fun f cdv A outer s H vs Q E hr h => ?_)
  · obtain ⟨a, ns, rfl, _⟩ := h
    rfl
  obtain ⟨a, ns, rfl, ha, hC, q⟩ := h
  refine ⟨_, (pss_cons (ps_expr (pe_cal GAskedChain (hr.mono (by decide)) pass0 rfl (pa_cons (pv 0) pa_nil)))
      (pss_cons (ps_set (i := 1) scThinned.nd rfl (.inl rfl) (pe_cal GLinksBy (hr.mono (by decide)) pass0 rfl (pa_cons (pv 0) pa_nil)))
      (pss_cons (ps_set (i := 2) scThinned.nd rfl (.inr rfl) (pe_disp (pps_cons (pe_op op_sub (pe_callB f_len (by rfl) B.b_len PySem.boot_len (pa_cons (pv 0) pa_nil)) pe_int) pe_bl (pps_cons pe_int pe_bl pps_nil)) (by rfl) (by rfl) (fun z => by cases z) (by decide)))
      (pss_cons (ps_for PassesOwn.never rfl (pi_revR (by rfl) B.b_reversed (prg_2 (by rfl) B.b_range pe_int (pe_callB f_len (by rfl) B.b_len PySem.boot_len (pa_cons (pv 0) pa_nil)))) (pg_name (i := 3) scThinned.nd rfl (.inl rfl))
      (pss_one (ps_if (pt_cmp (pc_din (hu_of hr) (pv 3) (pv 2))) (pss_cons (ps_dput (hu_of hr) (pv 2) (pe_ix ix_tup (pe_ix ix_list (pv 1) (pe_op op_sub (pv 3) pe_int) (fun _ _ => rfl)) pe_int (fun _ _ => rfl)) pe_bl rfl)
      (pss_one (ps_dput (hu_of hr) (pv 2) (pe_ix ix_tup (pe_ix ix_list (pv 1) (pe_op op_sub (pv 3) pe_int) (fun _ _ => rfl)) pe_int (fun _ _ => rfl)) pe_bl rfl))) pss_nil)))
      (pss_one (ps_ret (pe_lc (own := [("place", 3)]) (g := gName 3) rfl scThinned.nd (pi_range1 (by rfl) B.b_range (pa_cons (pe_callB f_len (by rfl) B.b_len PySem.boot_len (pa_cons (pv 0) pa_nil)) pa_nil)) (blkOk_by (N := ["chain", "known", "needed", "place"]) (sc := defScope sThinned) (by decide +kernel)) (fun _ _ _ _ _ => pg_name (i := 3) scThinned.nd rfl (Or.inl rfl)) (fun _ _ _ _ _ => (pts_one (pt_cmp (pc_din (hu_of hr) (pv 3) (pv 2))))) (fun _ _ _ _ _ => (pe_ix (ix_at (K := K)) (pv 0) (pv 3) (fun _ _ => rfl)))))))))), ?_⟩
  dsimp only [cxOf, Cx.nox, Cx.wish, L2.start]
  have hl := hC.hi
  have hl1 := hC.lo
  have hA : IsAdd ns := ((ch_iff ns).mp hC).1
  kct_strs
  refine c_asked (by kd_adr) hC fun H1 e1 => ?_
  kct_strs
  refine c_links_by (by kd_adr) hC fun pk acc H2 e2 hpk h2 hL hn => ?_
  kct_strs
  refine d_disp2 (k1 := ((ns.length - 1 : Nat) : Int)) (k2 := 0) (v1 := .bl true) (v2 := .bl true) (fun H' Q' e q' => ?_) fun d hd => ?_
  · kct_strs
    rw [show (ns.length : Int) - 1 = ((ns.length - 1 : Nat) : Int) by omega]
    exact q'
  kct_strs
  refine s_forRR (a := 1) (b := (ns.length : Int)) (k := ns.length - 1) (fun i σ' H' => ∃ (y : Option V) (kvs : List (Key × V)), σ' = [some (.ref a), some (.ref pk), some (.ref d), y] ∧ Same H2 H' ∧ H' d = some (.dK kvs) ∧ kvs.length ≤ 2 + 2 * i ∧ Hid (Part ns (ns.length - i) (HasK kvs))) (by omega) (fun Qt qt => by refine prg2_of ?_; kct_strs; exact qt) (by omega) ⟨none, _, rfl, same_new hd, upd_same, Nat.le_trans (length_putK _ _ _) (Nat.le_refl _), ⟨Part.start hA fun x => ?_⟩⟩ ?_ ?_
  · rw [hasK_put]
    refine or_congr ?_ Iff.rfl
    unfold HasK
    by_cases e : x = ((ns.length - 1 : Nat) : Int)
    · subst e
      simp [valV]
    · simp [valV, e, Ne.symm e]
  · rintro i σ' H' hi ⟨y, kvs, rfl, e3, hkd, hkl, hP⟩
    have hk : (1 : Int) + ((ns.length - 1 - 1 - i : Nat) : Int) = ((ns.length - (i + 1) : Nat) : Int) := by omega
    rw [hk]
    have hpe : ns.length - i = (ns.length - (i + 1)) + 1 := by omega
    rw [hpe] at hP
    have hp1 : 1 ≤ ns.length - (i + 1) := by omega
    have hp2 : ns.length - (i + 1) < ns.length := by omega
    generalize ns.length - (i + 1) = p at *
    kct_strs
    refine s_ifs ?_
    kct_strs
    refine d_in (by kd_adr) rfl ?_
    kct_strs
    by_cases hS : HasK kvs (p : Int)
    · refine i_yes hS ?_
      obtain ⟨jk, hjk⟩ := hC.link hp1 hp2
      obtain ⟨t, jk2, el, hx, ht⟩ := hL.2 (p - 1) (by omega)
      rw [show 1 + (p - 1) = p by omega, hjk] at el
      obtain rfl := Option.some.inj el
      have hat : atI acc ((p : Int) - 1) = some (.ref t) := by
        unfold atI ixN
        rw [if_pos (by omega), if_pos (by rw [hL.1]; omega), Option.bind_some, show ((p : Int) - 1).toNat = p - 1 by omega]
        exact hx
      have htd : t ≠ d := fun z => by
        subst z
        rw [hd] at ht
        cases ht
      have hpd : pk ≠ d := ne_of_none h2 hd
      have h3t : H' t = some (.tup [.int (jk.1 : Int), .int (jk.2 : Int)]) := e3 _ _ ht
      kct_strs
      refine e_ixV (v := .ref t) (by kd_adr) hat ?_
      kct_strs
      refine e_ixT (v := .int (jk.1 : Int)) (SqT.of h3t) rfl ?_
      kct_strs
      refine e_ixV (v := .ref t) (by kd_adr) hat ?_
      kct_strs
      refine e_ixT (v := .int (jk.2 : Int)) (SqT.of (get_ne htd h3t)) rfl ?_
      kct_strs
      refine d_put upd_same ?_ ?_
      · have := length_putK kvs (Sum.inl (jk.1 : Int)) (.bl true)
        omega
      kct_strs
      refine ⟨_, _, rfl, same_mut (same_mut e3 hd) hd, upd_same, ?_, ⟨hP.out.take hS hp1 hjk fun x => ?_⟩⟩
      · have := length_putK kvs (Sum.inl (jk.1 : Int)) (.bl true)
        have := length_putK (putK kvs (Sum.inl (jk.1 : Int)) (.bl true)) (Sum.inl (jk.2 : Int)) (.bl true)
        omega
      · rw [hasK_put, hasK_put, or_assoc]
    · refine i_no (by unfold HasK at hS; simpa using hS) ?_
      kct_strs
      exact ⟨_, _, rfl, e3, hkd, by omega, ⟨hP.out.skip hS⟩⟩
  · rintro σ' H' ⟨y, kvs, rfl, e3, hkd, hkl, hP⟩
    rw [show ns.length - (ns.length - 1) = 1 by omega] at hP
    have ha' : H' a = some (.lst (ns.map V.int)) := e3 _ _ (e2 _ _ (e1 _ _ ha))
    kct_strs
    refine e_lcR1 (n := (ns.length : Int)) (k := ns.length) (LcG fun i => (thinTo ns i).map V.int) (by omega) (fun Qt qt => by kct_strs; exact qt) (by omega) (fun _ _ => rfl) lcg_mono (fun _ => rfl) (fun i hi => ?_) (fun D acc4 H4 hD e4 hacc hR => ?_)
    · refine lct_thin (b := (valV kvs (Sum.inl (i : Int))).isSome) (hP.out.done i) (fun H5 R e5 hr => ?_) (fun H5 K1 e5 k1 => ?_)
      · have hkd5 := e5 _ _ hkd
        kct_strs
        refine d_in (by kd_adr) rfl ?_
        kct_strs
        exact hr
      · have ha5 := e5 _ _ ha'
        kct_strs
        rw [gi_nat]
        exact k1
    · replace hR : acc4 = (thinTo ns ns.length).map V.int := hR
      rw [thinTo_end] at hR
      subst hR
      kct_strs
      exact q D H4 (e1.trans (e2.trans (e3.trans e4))) ((e1.trans (e2.trans e3)).free hD) hacc
end

/-! ## joined, where there is room -/
abbrev sJoined : Stmt := topS 16
theorem scJoined : FnScope ["one", "other", "number"] ["one", "other"] (defScope sJoined) := ⟨rfl, rfl, rfl, by decide +kernel, rfl, by decide +kernel, by decide +kernel⟩
section
variable {P : Program} {w : World} {K : PySem.W.Frag} {mg : Str → Option Value} {base : Heap}
theorem ok_joined (F : Own K mg "joined" sJoined ["one", "other"]) (B : Nb mg) (GAskedChain : Cal P w K mg base CX0 3 "asked_chain" ["chain"] spAsked) : Cal P w K mg base CX0 4 "joined" ["one", "other"] spJoined := by
  refine F.ok scJoined (fun vs H Q E h => ?_) (fun f cdv A outer s H vs Q E hr h => ?_)
  · obtain ⟨a, b, ns, ms, rfl, _⟩ := h
    rfl
  obtain ⟨a, b, ns, ms, rfl, ha, hb, hC, hD, hlen, hw1, hw2, q⟩ := h
  refine ⟨_, (pss_cons (ps_expr (pe_cal GAskedChain (hr.mono (by decide)) pass0 rfl (pa_cons (pv 0) pa_nil)))
      (pss_cons (ps_expr (pe_cal GAskedChain (hr.mono (by decide)) pass0 rfl (pa_cons (pv 1) pa_nil)))
      (pss_cons (ps_if (pt_cmpR op_gt (pe_op op_sub (pe_op op_add (pe_callB f_len (by rfl) B.b_len PySem.boot_len (pa_cons (pv 0) pa_nil)) (pe_callB f_len (by rfl) B.b_len PySem.boot_len (pa_cons (pv 1) pa_nil))) pe_int) (pe_const B.c_MOST_chains rfl) (nomark _)) (pss_one ps_never) pss_nil)
      (pss_one (ps_ret (pe_op op_cat (pe_callTy f_list (by rfl) B.b_list (by decide +kernel) (pa_cons (pv 0) pa_nil)) (pe_lc (own := [("number", 2)]) (g := gName 2) rfl scJoined.nd (pi_list (pe_slice sl_list (pv 1) (po_some pe_int) po_none)) (blkOk_by (N := ["one", "other", "number"]) (sc := defScope sJoined) (by decide +kernel)) (fun _ _ _ _ _ => pg_name (i := 2) scJoined.nd rfl (Or.inl rfl)) (fun _ _ _ _ _ => pts_nil) (fun _ _ _ _ _ => (pe_op op_mulW (pv 2) (pe_ix (ix_at (K := K)) (pv 0) (pe_un un_neg pe_int) (fun _ _ => rfl))))))))))), ?_⟩
  dsimp only [cxOf, Cx.nox, Cx.wish, L2.start]
  have hA := ((ch_iff _).mp hC).1
  have hA2 := ((ch_iff _).mp hD).1
  have hl := hA.lo
  have hl2 := hA2.lo
  kct_strs
  refine c_asked (by kd_adr) hC fun H1 e1 => ?_
  kct_strs
  refine c_asked (e1 _ _ hb) hD fun H2 e2 => ?_
  have ha2 := e2 _ _ (e1 _ _ ha)
  have hb2 := e2 _ _ (e1 _ _ hb)
  kct_strs
  kpt_turns <;> intro hc
  · simp only [decide_eq_true_eq] at hc
    omega
  kct_strs
  refine n_list (by kd_adr) fun p3 H3 hp3 e3 h3 => ?_
  have ha3 := e3 _ _ ha2
  have hb3 := e3 _ _ hb2
  kct_strs
  refine n_drop (by kd_adr) (by omega) fun p5 H5 hp5 e5 h5 => ?_
  have ha5 := e5 _ _ ha3
  kct_strs
  have hle : (ms.drop (1 : Int).toNat).length ≤ 250 := by rw [List.length_drop, show (1 : Int).toNat = 1 from rfl]; omega
  refine e_lcMapI (cs := ms.drop (1 : Int).toNat) (· * gi ns (-1)) (by kd_adr) (by omega) (fun _ => rfl) (fun m x H6 K1 hm hx e k1 => ?_) (fun D H6 hD6 e6 hacc => ?_)
  · have ha6 := e _ _ ha5
    kct_strs
    have hxb : 0 ≤ x ∧ x < 2 ^ 200 := by
      rw [← hx, List.getD_eq_getElem?_getD, List.getElem?_drop, ← List.getD_eq_getElem?_getD, show (1 : Int).toNat = 1 from rfl]
      rw [List.length_drop, show (1 : Int).toNat = 1 from rfl] at hm
      have h1 := hA2.pos (show 1 + m < ms.length by omega)
      have h2 := hA2.le_last (show 1 + m < ms.length by omega)
      rw [← last_eq hA2] at h2
      exact ⟨by omega, by omega⟩
    have hlb := gi_last_pos hA
    refine e_I (wide_of hxb.1 hxb.2 (by omega) hw1) ?_
    exact k1
  · refine n_cat (e6 _ _ (e5 _ _ h3)) hacc ?_ fun p7 H7 hp7 e7 h7 => ?_
    · rw [List.length_map]
      have := hC.hi
      omega
    · exact q p7 H7 (e1.trans (e2.trans (e3.trans (e5.trans (e6.trans e7))))) ((e1.trans (e2.trans (e3.trans (e5.trans e6)))).free hp7) h7
end

/-! ## shown -/
abbrev sShown : Stmt := topS 19
theorem scShown : FnScope ["chain", "number"] ["chain"] (defScope sShown) := ⟨rfl, rfl, rfl, by decide +kernel, rfl, by decide +kernel, by decide +kernel⟩
section
variable {P : Program} {w : World} {K : PySem.W.Frag} {mg : Str → Option Value} {base : Heap}
theorem ok_shown (F : Own K mg "shown" sShown ["chain"]) (B : Nb mg) (GAskedChain : Cal P w K mg base CX0 3 "asked_chain" ["chain"] spAsked) : Cal P w K mg base CX0 4 "shown" ["chain"] spShown := by
  refine F.ok scShown (fun vs H Q E h => ?_) (fun f cdv A outer s H vs Q E hr h => ?_)
  · obtain ⟨a, ns, rfl, _⟩ := h
    rfl
  obtain ⟨a, ns, rfl, ha, hC, hb, q⟩ := h
  refine ⟨_, (pss_cons (ps_expr (pe_cal GAskedChain (hr.mono (by decide)) pass0 rfl (pa_cons (pv 0) pa_nil)))
      (pss_one (ps_ret (pe_m1 PySem.F.slot_str_join PySem.F.type_str_join mt_joinN pe_str (pe_lc (own := [("number", 1)]) (g := gName 1) rfl scShown.nd (pi_list (pv 0)) (blkOk_by (N := ["chain", "number"]) (sc := defScope sShown) (by decide +kernel)) (fun _ _ _ _ _ => pg_name (i := 1) scShown.nd rfl (Or.inl rfl)) (fun _ _ _ _ _ => pts_nil) (fun _ _ _ _ _ => (pe_callTy f_str (by rfl) B.b_str (by decide +kernel) (pa_cons (pv 1) pa_nil)))))))), ?_⟩
  dsimp only [cxOf, Cx.nox, Cx.wish, L2.start]
  have hA := ((ch_iff _).mp hC).1
  have hl := hC.hi
  have hbn : ∀ n, n ∈ ns → 1 ≤ n ∧ n < 10 ^ 100 := fun n hn => by
    have := pos_mem hA n hn
    rw [← last_eq hA] at this
    exact ⟨this.1, by omega⟩
  kct_strs
  refine c_asked (by kd_adr) hC fun H1 e1 => ?_
  have ha1 := e1 _ _ ha
  kct_strs
  refine e_lcMapG V.int (fun n => V.str (wd n)) (l := ns) (SqL.of ha1) (by omega) (fun _ => rfl) (fun i n H2 K1 hn e2 k1 => ?_) (fun D H2 hD e2 hacc => ?_)
  · have := hbn n (List.mem_of_getElem? hn)
    kct_strs
    exact r_wd (wd_ok (by omega) this.2) k1
  · kct_strs
    refine r_join (ys := ns.map wd) (by rw [List.map_map]; exact hacc) ?_ ?_
    · have := (txt_len (ns := ns) (k := 100) fun n hn => wd_len (Int.le_trans (by decide) (hbn n hn).1) (by decide) (hbn n hn).2).2
      exact Nat.le_trans this (by omega)
    · exact q H2 (e1.trans e2)
end

/-! ## powers -/
abbrev sPowers : Stmt := topS 22
theorem scPowers : FnScope ["chain", "base", "modulus", "found", "one", "other"] ["chain", "base", "modulus"] (defScope sPowers) := ⟨rfl, rfl, rfl, by decide +kernel, rfl, by decide +kernel, by decide +kernel⟩
section
variable {P : Program} {w : World} {K : PySem.W.Frag} {mg : Str → Option Value} {base : Heap}
theorem ok_powers (F : Own K mg "powers" sPowers ["chain", "base", "modulus"]) (B : Nb mg) (GAskedChain : Cal P w K mg base CX0 3 "asked_chain" ["chain"] spAsked) (GLinksBy : Cal P w K mg base CX0 2 "links_by" ["chain"] spLinksBy) : Cal P w K mg base CX0 4 "powers" ["chain", "base", "modulus"] spPowers := by
  refine F.ok scPowers (fun vs H Q E h => ?_) (fun f cdv A outer s H vs Q E hr h => ?_)
  · obtain ⟨a, ns, b, m, rfl, _⟩ := h
    rfl
  obtain ⟨a, ns, b, m, rfl, ha, hC, ⟨hm1, hm2⟩, q⟩ := h
  refine ⟨_, (pss_cons (ps_expr (pe_cal GAskedChain (hr.mono (by decide)) pass0 rfl (pa_cons (pv 0) pa_nil)))
      (pss_cons (ps_if (PW.pt (pw_or (pt_cmpR op_lt (pv 2) pe_int (nomark _)) (pw_or1 (pt_cmpR op_gt (pv 2) (pe_const B.c_GREATEST_powers rfl) (nomark _))))) (pss_one ps_never) pss_nil)
      (pss_cons (ps_set (i := 3) scPowers.nd rfl (.inl rfl) (pe_lst (pa_cons (pe_op op_mod (pv 1) (pv 2)) pa_nil)))
      (pss_cons (ps_for PassesOwn.never rfl (pi_list (pe_cal GLinksBy (hr.mono (by decide)) pass0 rfl (pa_cons (pv 0) pa_nil))) (pg_tup rfl (pgs_cons (pg_name (i := 4) scPowers.nd rfl (.inl rfl)) (pgs_cons (pg_name (i := 5) scPowers.nd rfl (.inl rfl)) pgs_nil)))
      (pss_one (ps_expr (pe_bm PySem.F.plainAttrs_list PySem.F.slot_list_append PySem.F.type_list_append mt_append (pv 3) (pa_cons (pe_op op_mod (pe_op op_mulW (pe_ix ix_list (pv 3) (pv 4) (fun _ _ => rfl)) (pe_ix ix_list (pv 3) (pv 5) (fun _ _ => rfl))) (pv 2)) pa_nil)))))
      (pss_one (ps_ret (pv 3))))))), ?_⟩
  dsimp only [cxOf, Cx.nox, Cx.wish, L2.start]
  have hl := hC.hi
  have hl1 := hC.lo
  have hA : IsAdd ns := ((ch_iff ns).mp hC).1
  have hmw : m < 2 ^ 200 := Int.lt_of_le_of_lt hm2 (by decide)
  kct_strs
  refine c_asked (by kd_adr) hC fun H1 e1 => ?_
  kct_strs
  kpt_turns <;> intro hb
  · simp only [Bool.or_eq_true, decide_eq_true_eq] at hb
    omega
  kct_strs
  refine n_lst le_1 fun pf H2 hpf e2 h2 => ?_
  kct_strs
  refine c_links_by (e2 _ _ (e1 _ _ ha)) hC fun pk acc H3 e3 hpk h3 hL hn => ?_
  kct_strs
  refine s_forL (xs := acc) (fun i σ' H' => ∃ (y z : Option V), σ' = [some (.ref a), some (.int b), some (.int m), some (.ref pf), y, z] ∧ H' = upd H3 pf (.lst (((ns.take (1 + i)).map (pw b m)).map V.int))) (SqL.of h3) ⟨none, none, rfl, ?_⟩ (fun i σ' H' hP => ?_) (fun i x σ' H' hx hP => ?_) (fun σ' H' hP => ?_)
  · rw [show ns.take (1 + 0) = [1] by
      cases ns with
      | nil => exact absurd hl1 (by decide)
      | cons x r =>
        have := hA.one
        rw [show x = 1 from this]
        rfl, show ([1] : List Int).map (pw b m) = [b % m] by rw [List.map_singleton, pw_one]]
    funext c
    by_cases ec : c = pf
    · subst ec
      rw [upd_same]
      exact e3 _ _ h2
    · rw [upd_ne ec]
  · obtain ⟨y, z, rfl, rfl⟩ := hP
    exact SqL.of (get_ne (fun e => by subst e; rw [hpk] at h2; cases h2) h3)
  · obtain ⟨y, z, rfl, rfl⟩ := hP
    have hi : i < ns.length - 1 := by
      rw [← hL.1]
      exact (List.getElem?_eq_some_iff.mp hx).1
    obtain ⟨t, jk, el, hx2, ht⟩ := hL.2 i hi
    rw [hx] at hx2
    obtain rfl := Option.some.inj hx2
    have lf := link_facts el
    have htp : t ≠ pf := ne_of ht (e3 _ _ h2) (by intro z; cases z)
    refine g_tup2 (SqT.of (get_ne htp ht)) ?_
    kct_strs
    have htl : ((ns.take (1 + i)).map (pw b m)).length = 1 + i := by
      rw [List.length_map, List.length_take]
      omega
    refine e_ixI (ns := (ns.take (1 + i)).map (pw b m)) (SqL.of upd_same) (by omega) (by omega) ?_
    kct_strs
    rw [take_map_get (by omega) (by omega), take_map_get (by omega) (by omega)]
    refine e_I (wide_of (pw_lo _ (by omega)) (Int.lt_trans (pw_hi _ (by omega)) hmw) (pw_lo _ (by omega)) (Int.lt_trans (pw_hi _ (by omega)) hmw)) ?_
    kct_strs
    rw [pw_mul (Int.le_trans (by decide) (hA.pos (by omega))) (Int.le_trans (by decide) (hA.pos (by omega))), lf.2.2, ← take_map_snoc (by omega), upd_upd]
    exact ⟨_, _, rfl, by rw [Nat.add_assoc]⟩
  · obtain ⟨y, z, rfl, rfl⟩ := hP
    kct_strs
    refine q pf _ (same_mut (e1.trans (e2.trans e3)) (e1.free hpf)) (e1.free hpf) ?_
    rw [hL.1, show 1 + (ns.length - 1) = ns.length by omega, List.take_length]
    exact upd_same
end

/-! ## doubling -/
abbrev sDoubling : Stmt := topS 17
theorem scDoubling : FnScope ["number", "figures", "found", "figure"] ["number"] (defScope sDoubling) := ⟨rfl, rfl, rfl, by decide +kernel, rfl, by decide +kernel, by decide +kernel⟩
section
variable {P : Program} {w : World} {K : PySem.W.Frag} {mg : Str → Option Value} {base : Heap}
theorem ok_doubling (F : Own K mg "doubling" sDoubling ["number"]) (B : Nb mg) : Cal P w K mg base CX0 1 "doubling" ["number"] spDoubling := by
  refine F.ok scDoubling (fun vs H Q E h => ?_) (fun f cdv A outer s H vs Q E hr h => ?_)
  · obtain ⟨n, rfl, _⟩ := h
    rfl
  obtain ⟨n, rfl, ⟨h1, h2⟩, q⟩ := h
  refine ⟨_, (pss_cons (ps_if (PW.pt (pw_or (pt_cmpR op_lt (pv 0) pe_int (nomark _)) (pw_or1 (pt_cmpR op_gt (pv 0) (pe_const B.c_GREATEST_chains rfl) (nomark _))))) (pss_one ps_never) pss_nil)
      (pss_cons (ps_set (i := 1) scDoubling.nd rfl (.inl rfl) (pe_lst pa_nil))
      (pss_cons (ps_while PassesOwn.never (pt_cmpR op_gt (pv 0) pe_int (nomark _))
      (pss_cons (ps_expr (pe_bm PySem.F.plainAttrs_list PySem.F.slot_list_append PySem.F.type_list_append mt_append (pv 1) (pa_cons (pe_op op_mod (pv 0) pe_int) pa_nil)))
      (pss_one (ps_set (i := 0) scDoubling.nd rfl (.inl rfl) (pe_op op_fdiv (pv 0) pe_int)))))
      (pss_cons (ps_set (i := 2) scDoubling.nd rfl (.inl rfl) (pe_lst (pa_cons pe_int pa_nil)))
      (pss_cons (ps_for PassesOwn.never rfl (pi_reversed (by rfl) B.b_reversed (pa_cons (pv 1) pa_nil)) (pg_name (i := 3) scDoubling.nd rfl (.inl rfl))
      (pss_cons (ps_expr (pe_bm PySem.F.plainAttrs_list PySem.F.slot_list_append PySem.F.type_list_append mt_append (pv 2) (pa_cons (pe_op op_mul (pe_ix ix_list (pv 2) (pe_un un_neg pe_int) (fun _ _ => rfl)) pe_int) pa_nil)))
      (pss_one (ps_if (pt_cmpR op_eq (pv 3) pe_int (nomark _)) (pss_one (ps_expr (pe_bm PySem.F.plainAttrs_list PySem.F.slot_list_append PySem.F.type_list_append mt_append (pv 2) (pa_cons (pe_op op_add (pe_ix ix_list (pv 2) (pe_un un_neg pe_int) (fun _ _ => rfl)) pe_int) pa_nil)))) pss_nil))))
      (pss_one (ps_ret (pv 2)))))))), ?_⟩
  dsimp only [cxOf, Cx.nox, Cx.wish, L2.start]
  kct_strs
  kpt_turns <;> intro hc
  · exfalso
    simp only [Bool.or_eq_true, decide_eq_true_eq] at hc
    omega
  kct_strs
  refine ⟨Nat.zero_le _, fun pf hpf => ?_⟩
  kct_strs
  have hfl : (figs n).length ≤ 99 := figs_len 99 n (Nat.lt_of_le_of_lt h2 (by decide))
  refine s_while (fun m σ' H' => ∃ fs : List Int, m ≥ 1 ∧ figs n = fs ++ figs m ∧ σ' = [some (.int (m : Int)), some (.ref pf), none, none] ∧ H' = upd H pf (.lst (fs.map V.int))) n ⟨[], h1, rfl, rfl, rfl⟩ (fun m σ' H' hW => ?_)
  obtain ⟨fs, hm, hfs, rfl, rfl⟩ := hW
  apply wt_of
  · kp_flats
  · intro hb
    have hb' := of_decide_eq_true hb
    have hl : fs.length ≤ 99 := by
      have := congrArg List.length hfs
      rw [List.length_append] at this
      omega
    kct_strs
    refine ⟨m / 2, by omega, fs ++ [((m % 2 : Nat) : Int)], by omega, ?_, ?_, ?_⟩
    · rw [hfs, figs, dif_neg (by omega), List.append_assoc]
      rfl
    · rfl
    · rw [upd_upd]
      rfl
  · intro hb
    have hb' := of_decide_eq_false hb
    have e1 : figs m = [] := by rw [figs, dif_pos (by omega)]
    rw [e1, List.append_nil] at hfs
    subst hfs
    kct_strs
    refine ⟨by decide, fun pl hpl => ?_⟩
    have nfl : pf ≠ pl := fun e => by
      rw [← e, upd_same] at hpl
      cases hpl
    have hpl0 : H pl = none := by
      rw [upd_ne nfl.symm] at hpl
      exact hpl
    kct_strs
    refine s_forRev (a := pf) (xs := (figs n).map V.int) (fun i σ' H' => ∃ v, σ' = [some (.int (m : Int)), some (.ref pf), some (.ref pl), v] ∧ Same H H' ∧ H' pf = some (.lst ((figs n).map V.int)) ∧ H' pl = some (.lst ((bld ((figs n).drop ((figs n).length - i))).map V.int))) (fun Qt qt => by kct_strs; exact qt) (by kd_adr) ⟨none, rfl, ?_, ?_, ?_⟩ (fun i σ' H' h => SqL.of h.choose_spec.2.2.1) (fun i x σ' H' hi hx hP => ?_) (fun σ' H' hP => ?_)
    · exact same_mut (same_new hpf) hpl0
    · kd_adr
    · rw [Nat.sub_zero, List.drop_length]
      exact upd_same
    · obtain ⟨v, rfl, hS, hf, hl⟩ := hP
      rw [List.length_map] at hi hx
      have hget : (figs n)[(figs n).length - 1 - i]? = some ((figs n).getD ((figs n).length - 1 - i) 0) := getD_get 0 (by omega)
      rw [List.getElem?_map, hget] at hx
      obtain rfl := Option.some.inj hx
      generalize hfg : (figs n).getD ((figs n).length - 1 - i) 0 = fg at *
      have hdr : (figs n).drop ((figs n).length - (i + 1)) = fg :: (figs n).drop ((figs n).length - i) := by
        have hlt : (figs n).length - 1 - i < (figs n).length := by omega
        rw [show (figs n).length - (i + 1) = (figs n).length - 1 - i by omega, List.drop_eq_getElem_cons hlt, show (figs n).length - 1 - i + 1 = (figs n).length - i by omega]
        rw [List.getElem?_eq_getElem hlt] at hget
        rw [Option.some.inj hget]
      have hbl := bld_len ((figs n).drop ((figs n).length - i))
      rw [List.length_drop] at hbl
      rw [hdr]
      generalize hbs : bld ((figs n).drop ((figs n).length - i)) = bs at *
      refine g_name ?_
      kct_strs
      have hS2 : Same H (upd H' pl (.lst ((bs ++ [gi bs (-1) * 2]).map V.int))) := same_mut hS hpl0
      have hf2 : (upd H' pl (.lst ((bs ++ [gi bs (-1) * 2]).map V.int))) pf = some (.lst ((figs n).map V.int)) := get_ne nfl hf
      have hl2 : (upd H' pl (.lst ((bs ++ [gi bs (-1) * 2]).map V.int))) pl = some (.lst ((bs ++ [gi bs (-1) * 2]).map V.int)) := upd_same
      have hlen2 : (bs ++ [gi bs (-1) * 2]).length = bs.length + 1 := by rw [List.length_append, List.length_singleton]
      kpt_turns <;> intro hb1
      · have hb1' := of_decide_eq_true hb1
        kct_strs
        refine ⟨_, rfl, same_mut hS2 hpl0, get_ne nfl hf2, ?_⟩
        rw [upd_same]
        unfold bld
        rw [hbs, if_pos hb1']
      · have hb1' := of_decide_eq_false hb1
        kct_strs
        refine ⟨_, rfl, hS2, hf2, ?_⟩
        rw [upd_same]
        unfold bld
        rw [hbs, if_neg hb1']
    · obtain ⟨v, rfl, hS, hf, hl⟩ := hP
      rw [List.length_map, Nat.sub_self, List.drop_zero, bld_figs n h1] at hl
      kct_strs
      exact q pl H' hS hpl0 hl
end

/-! ## nexts -/
abbrev sNexts : Stmt := topS 27
theorem scNexts : FnScope ["chain", "number", "steps", "found", "one", "other", "total"] ["chain", "number", "steps"] (defScope sNexts) := ⟨rfl, rfl, rfl, by decide +kernel, rfl, by decide +kernel, by decide +kernel⟩
section
variable {P : Program} {w : World} {K : PySem.W.Frag} {mg : Str → Option Value} {base : Heap}
theorem pow_tab : ∀ k : Nat, k < 8 → gi [1, 2, 4, 8, 16, 32, 64, 128] (k : Int) = 2 ^ k := by decide +kernel
theorem ok_nexts (F : Own K mg "nexts" sNexts ["chain", "number", "steps"]) (B : Nb mg) : Cal P w K mg base CX0 1 "nexts" ["chain", "number", "steps"] spNexts := by
  refine F.ok scNexts (fun vs H Q E h => ?_) (fun f cdv A outer s H vs Q E hr h => ?_)
  · obtain ⟨a, ns, n, k, rfl, _⟩ := h
    rfl
  obtain ⟨a, ns, n, k, rfl, ha, hA, ⟨hl, hk, hmx⟩, q⟩ := h
  refine ⟨_, (pss_cons (ps_set (i := 3) scNexts.nd rfl (.inl rfl) pe_dnewK)
      (pss_cons (ps_for PassesOwn.never rfl (pi_list (pv 0)) (pg_name (i := 4) scNexts.nd rfl (.inl rfl))
      (pss_one (ps_for PassesOwn.never rfl (pi_list (pv 0)) (pg_name (i := 5) scNexts.nd rfl (.inl rfl))
      (pss_cons (ps_set (i := 6) scNexts.nd rfl (.inl rfl) (pe_op op_add (pv 4) (pv 5)))
      (pss_one (ps_if (PW.pt (pw_and (pt_chain op_lt op_le (pe_ix ix_list (pv 0) (pe_un un_neg pe_int) (fun _ _ => rfl)) (pv 6) (pv 1)) (pw_and1 (pt_cmpR op_ge (pe_op op_mul (pv 6) (pe_ix ix_list (pe_lst (pa_cons pe_int (pa_cons pe_int (pa_cons pe_int (pa_cons pe_int (pa_cons pe_int (pa_cons pe_int (pa_cons pe_int (pa_cons pe_int pa_nil))))))))) (pe_op op_sub (pv 2) pe_int) (fun _ _ => rfl))) (pv 1) (nomark _))))) (pss_one (ps_dput (hu_of hr) (pv 3) (pv 6) pe_bl rfl)) pss_nil))))))
      (pss_one (ps_ret (pe_callBK (cr_sortedRev (b := true)) (by rfl) B.b_sorted (by decide +kernel) (pa_cons (pe_callTy (call_list_dK rfl) (by rfl) B.b_list (by decide +kernel) (pa_cons (pv 3) pa_nil)) pa_nil) (pk_cons pe_bl pk_nil)))))), ?_⟩
  dsimp only [cxOf, Cx.nox, Cx.wish, L2.start]
  have hl1 := hA.lo
  kct_strs
  refine d_new fun d hd => ?_
  kct_strs
  refine s_forL (xs := ns.map V.int) (fun i σ' H' => ∃ (y z u : Option V) (ks : List Int), σ' = [some (.ref a), some (.int n), some (.int ((k + 1 : Nat) : Int)), some (.ref d), y, z, u] ∧ Same H H' ∧ H' d = some (.dK (onV ks)) ∧ ks.length ≤ i * 20 ∧ Hid (Sums ns (fun t => lst' ns < t ∧ t ≤ n ∧ n ≤ t * 2 ^ k) i 0 ks)) (SqL.of (get_new ha hd)) ⟨none, none, none, [], rfl, same_new hd, upd_same, Nat.le_refl _, ⟨Sums.start⟩⟩ (fun i σ' H' hP => ?_) (fun i x σ' H' hx hP => ?_) (fun σ' H' hP => ?_)
  · obtain ⟨y, z, u, ks, rfl, e, _⟩ := hP
    exact SqL.of (e _ _ ha)
  · obtain ⟨y, z, u, ks, rfl, e, hkd, hkl, hSu⟩ := hP
    have hi : i < ns.length := by
      have := (List.getElem?_eq_some_iff.mp hx).1
      rw [List.length_map] at this
      exact this
    rw [List.getElem?_map, getD_get 0 hi] at hx
    obtain rfl := Option.some.inj hx
    kct_strs
    refine s_forL (xs := ns.map V.int) (fun j σ2 H2 => ∃ (z u : Option V) (ks : List Int), σ2 = [some (.ref a), some (.int n), some (.int ((k + 1 : Nat) : Int)), some (.ref d), some (.int (ns.getD i 0)), z, u] ∧ Same H H2 ∧ H2 d = some (.dK (onV ks)) ∧ ks.length ≤ i * 20 + j ∧ Hid (Sums ns (fun t => lst' ns < t ∧ t ≤ n ∧ n ≤ t * 2 ^ k) i j ks)) (SqL.of (e _ _ ha)) ⟨_, _, ks, rfl, e, hkd, by omega, hSu⟩ (fun j σ2 H2 hP => ?_) (fun j x σ2 H2 hx hP => ?_) (fun σ2 H2 hP => ?_)
    · obtain ⟨z, u, ks, rfl, e, _⟩ := hP
      exact SqL.of (e _ _ ha)
    · obtain ⟨z, u, ks, rfl, e, hkd, hkl, hSu⟩ := hP
      have hj : j < ns.length := by
        have := (List.getElem?_eq_some_iff.mp hx).1
        rw [List.length_map] at this
        exact this
      rw [List.getElem?_map, getD_get 0 hj] at hx
      obtain rfl := Option.some.inj hx
      have ha2 := e _ _ ha
      kct_strs
      refine s_ifs ?_
      kct_strs
      refine e_chain ?_
      kct_strs
      rw [last_eq hA]
      have hskip : ¬ (lst' ns < ns.getD i 0 + ns.getD j 0 ∧ ns.getD i 0 + ns.getD j 0 ≤ n ∧ n ≤ (ns.getD i 0 + ns.getD j 0) * 2 ^ k) → Hid (Sums ns (fun t => lst' ns < t ∧ t ≤ n ∧ n ≤ t * 2 ^ k) i (j + 1) ks) := fun h => ⟨hSu.out.skip h⟩
      refine ite2 (fun hc1 => ?_) (fun hc1 => ?_)
      · have hc1' : lst' ns < ns.getD i 0 + ns.getD j 0 := of_decide_eq_true hc1
        kct_strs
        refine ite2 (fun hc2 => ?_) (fun hc2 => ?_)
        · have hc2' : ns.getD i 0 + ns.getD j 0 ≤ n := of_decide_eq_true hc2
          kct_strs
          refine n_lst (by decide) fun pl H3 hpl e3 h3 => ?_
          kct_strs
          refine e_ixI (ns := [1, 2, 4, 8, 16, 32, 64, 128]) (SqL.of h3) (by simp only [List.length_cons, List.length_nil]; omega) (by simp only [List.length_cons, List.length_nil]; omega) ?_
          rw [show ((k + 1 : Nat) : Int) - 1 = (k : Int) by omega, pow_tab k hk]
          have hs1 : ns.getD i 0 ≤ lst' ns := hA.le_last hi
          have hs2 : ns.getD j 0 ≤ lst' ns := hA.le_last hj
          have hs3 := hA.pos hi
          have hs4 := hA.pos hj
          refine e_I (.inl ⟨by omega, by omega⟩) ?_
          kct_strs
          have hkd3 := e3 _ _ hkd
          refine ite2 (fun hc3 => ?_) (fun hc3 => ?_)
          · have hc3' : n ≤ (ns.getD i 0 + ns.getD j 0) * 2 ^ k := of_decide_eq_true hc3
            kct_strs
            refine d_putS hkd3 (by omega) ?_
            kct_strs
            refine ⟨_, _, _, rfl, same_mut (e.trans e3) hd, upd_same, Nat.le_trans len_ins (by omega), ⟨hSu.out.take hi hj ⟨hc1', hc2', hc3'⟩⟩⟩
          · have hc3' : ¬ n ≤ (ns.getD i 0 + ns.getD j 0) * 2 ^ k := fun z => hc3 (decide_eq_true z)
            kct_strs
            exact ⟨_, _, ks, rfl, e.trans e3, hkd3, by omega, hskip fun z => hc3' z.2.2⟩
        · have hc2' : ¬ ns.getD i 0 + ns.getD j 0 ≤ n := fun z => hc2 (decide_eq_true z)
          kct_strs
          exact ⟨_, _, ks, rfl, e, hkd, by omega, hskip fun z => hc2' z.2.1⟩
      · have hc1' : ¬ lst' ns < ns.getD i 0 + ns.getD j 0 := fun z => hc1 (decide_eq_true z)
        kct_strs
        exact ⟨_, _, ks, rfl, e, hkd, by omega, hskip fun z => hc1' z.1⟩
    · obtain ⟨z, u, ks, rfl, e, hkd, hkl, hSu⟩ := hP
      rw [List.length_map] at hSu hkl
      kct_strs
      exact ⟨_, _, _, ks, rfl, e, hkd, by omega, ⟨hSu.out.row⟩⟩
  · obtain ⟨y, z, u, ks, rfl, e, hkd, hkl, hSu⟩ := hP
    rw [List.length_map] at hSu
    kct_strs
    refine n_listD hkd fun p1 H1 hp1 e1 h1 => ?_
    kct_strs
    refine n_sorted h1 fun os p2 H2 hpe hor hp2 e2 h2 => ?_
    rw [hSu.out.endP hA hpe hor] at h2
    exact q p2 H2 (e.trans (e1.trans e2)) ((e.trans e1).free hp2) h2
end

/-! ## first_found, shortest_by, shortest, least -/
abbrev sFirstFound : Stmt := topS 28
theorem scFirstFound : FnScope ["chain", "number", "steps", "total", "found"] ["chain", "number", "steps"] (defScope sFirstFound) := ⟨rfl, rfl, rfl, by decide +kernel, rfl, by decide +kernel, by decide +kernel⟩
section
variable {P : Program} {w : World} {K : PySem.W.Frag} {mg : Str → Option Value} {base : Heap}
theorem ok_first (F : Own K mg "first_found" sFirstFound ["chain", "number", "steps"]) (B : Nb mg) (GNexts : Cal P w K mg base CX0 1 "nexts" ["chain", "number", "steps"] spNexts) : ∀ d : Nat, d ≤ 9 → Cal P w K mg base CX0 (d + 1) "first_found" ["chain", "number", "steps"] (spFirst d)
  | 0, _ => (F.zero fun vs H Q E h => by
    obtain ⟨a, ns, n, k, hk, _⟩ := h
    omega).mono (Nat.zero_le _)
  | d + 1, hd => by
    have GFirstFound := ok_first F B GNexts d (by omega)
    refine F.ok scFirstFound (fun vs H Q E h => ?_) (fun f cdv A outer s H vs Q E hr h => ?_)
    · obtain ⟨a, ns, n, k, hk, rfl, _⟩ := h
      rfl
    obtain ⟨a, ns, n, k, hk, rfl, ha, hA, ⟨hl, hmx, hn⟩, q⟩ := h
    refine ⟨_, (pss_cons (ps_if (pt_cmpR op_eq (pv 2) pe_int (nomark _)) (pss_one (ps_ret (pe_ifExp (pt_cmpR op_eq (pe_ix ix_list (pv 0) (pe_un un_neg pe_int) (fun _ _ => rfl)) (pv 1) (nomark _)) (pv 0) pe_non))) pss_nil)
      (pss_cons (ps_for PassesOwn.never rfl (pi_list (pe_cal GNexts (hr.mono (by omega)) pass0 rfl (pa_cons (pv 0) (pa_cons (pv 1) (pa_cons (pv 2) pa_nil))))) (pg_name (i := 3) scFirstFound.nd rfl (.inl rfl))
      (pss_cons (ps_set (i := 4) scFirstFound.nd rfl (.inl rfl) (pe_cal GFirstFound hr pass0 rfl (pa_cons (pe_op op_cat (pv 0) (pe_lst (pa_cons (pv 3) pa_nil))) (pa_cons (pv 1) (pa_cons (pe_op op_sub (pv 2) pe_int) pa_nil)))))
      (pss_one (ps_if (pt_cmpR op_notN1 (pv 4) pe_non (nomark _)) (pss_one (ps_ret (pv 4))) pss_nil))))
      (pss_one (ps_ret pe_non)))), ?_⟩
    dsimp only [cxOf, Cx.nox, Cx.wish, L2.start]
    have hl1 := hA.lo
    kct_strs
    kpt_turns <;> intro hb
    · have hb' := of_decide_eq_true hb
      obtain rfl : k = 0 := by omega
      kct_strs
      refine e_ifx ?_
      kct_strs
      rw [last_eq hA]
      refine ite2 (fun hc => ?_) (fun hc => ?_)
      · kct_strs
        exact q _ H (Same.refl _) (.yes hA rfl (of_decide_eq_true hc) (.inl rfl) ha)
      · kct_strs
        exact q _ H (Same.refl _) (.no fun z => hc (decide_eq_true z))
    · have hb' := of_decide_eq_false hb
      obtain ⟨j, rfl⟩ : ∃ j, k = j + 1 := ⟨k - 1, by omega⟩
      kct_strs
      refine c_nexts (k := j) rfl ha hA ⟨by omega, by omega, by omega⟩ fun p H1 e1 hp h1 => ?_
      kct_strs
      refine s_forL (xs := (nextP ns n j).map V.int) (fun i σ' H' => ∃ (y z : Option V), σ' = [some (.ref a), some (.int n), some (.int ((j + 1 : Nat) : Int)), y, z] ∧ Same H1 H' ∧ Hid (∀ m, m < i → ¬ Reach j (ns ++ [(nextP ns n j).getD m 0]) n)) (SqL.of h1) ⟨none, none, rfl, Same.refl _, ⟨fun m hm => absurd hm (Nat.not_lt_zero _)⟩⟩ (fun i σ' H' hP => ?_) (fun i x σ' H' hx hP => ?_) (fun σ' H' hP => ?_)
      · obtain ⟨y, z, rfl, e, _⟩ := hP
        exact SqL.of (e _ _ h1)
      · obtain ⟨y, z, rfl, e, hno⟩ := hP
        have hi : i < (nextP ns n j).length := by
          have := (List.getElem?_eq_some_iff.mp hx).1
          rw [List.length_map] at this
          exact this
        rw [List.getElem?_map, getD_get 0 hi] at hx
        obtain rfl := Option.some.inj hx
        obtain ⟨hg, _⟩ := (mem_nextP hA).mp (getD_mem (d := 0) hi)
        have hgt : (nextP ns n j).getD i 0 ≤ 1000 := Int.le_trans hg.hi hn
        have hlen : (ns ++ [(nextP ns n j).getD i 0]).length = ns.length + 1 := by rw [List.length_append, List.length_singleton]
        have hls := last_snoc ns ((nextP ns n j).getD i 0)
        have hAs := hg.snoc hA
        obtain ⟨t, hte⟩ : ∃ t, (nextP ns n j).getD i 0 = t := ⟨_, rfl⟩
        rw [hte] at hg hgt hlen hls hAs
        rw [hte]
        have ha1 := e _ _ (e1 _ _ ha)
        kct_strs
        refine n_lst le_1 fun p2 H2 hp2 e2 h2 => ?_
        kct_strs
        refine n_cat (ns := ns) (ms := [t]) (by kd_adr) h2 (by simp only [List.length_singleton]; omega) fun p3 H3 hp3 e3 h3 => ?_
        kct_strs
        refine c_first (k := j) (by omega) (by omega) h3 hAs ⟨by omega, by omega, hn⟩ fun v H4 e4 hf => ?_
        have hf2 := hf.free (e1.trans (e.trans (e2.trans e3))) ((e1.trans (e.trans e2)).free hp3)
        have e04 : Same H H4 := e1.trans (e.trans (e2.trans (e3.trans e4)))
        kct_strs
        refine s_ifs ?_
        kct_strs
        cases hf2 with
        | no h =>
          refine i_nn (decide_eq_true rfl) ?_
          kct_strs
          refine ⟨_, _, rfl, e.trans (e2.trans (e3.trans e4)), ⟨fun m hm => ?_⟩⟩
          by_cases em : m = i
          · subst em
            rw [hte]
            exact h
          · exact hno.out m (by omega)
        | yes hA5 hl5 el5 hp5 h5 =>
          refine i_nnF (decide_eq_false (by intro z; cases z)) ?_
          kct_strs
          exact q _ H4 e04 (.yes hA5 (by omega) el5 (.inr hp5) h5)
      · obtain ⟨y, z, rfl, e, hno⟩ := hP
        rw [List.length_map] at hno
        kct_strs
        refine q _ H' (e1.trans e) (.no fun hr => ?_)
        obtain ⟨t, ht, hr2⟩ := (reach_P hA).mp hr
        obtain ⟨m, hm, rfl⟩ := mem_getD (d := 0) ht
        exact hno.out m hm hr2
end
/-! ### by more and more steps -/
abbrev sShortestBy : Stmt := topS 30
theorem scShortestBy : FnScope ["number", "steps", "found"] ["number"] (defScope sShortestBy) := ⟨rfl, rfl, rfl, by decide +kernel, rfl, by decide +kernel, by decide +kernel⟩
abbrev sAskedNumber : Stmt := topS 26
theorem scAskedNumber : FnScope ["number", "most"] ["number", "most"] (defScope sAskedNumber) := ⟨rfl, rfl, rfl, by decide +kernel, rfl, by decide +kernel, by decide +kernel⟩
section
variable {P : Program} {w : World} {K : PySem.W.Frag} {mg : Str → Option Value} {base : Heap}
theorem ok_shortest_by (F : Own K mg "shortest_by" sShortestBy ["number"]) (B : Nb mg) (GFirstFound : Cal P w K mg base CX0 10 "first_found" ["chain", "number", "steps"] (spFirst 9)) : Cal P w K mg base CX0 11 "shortest_by" ["number"] spShortestBy := by
  refine F.ok scShortestBy (fun vs H Q E h => ?_) (fun f cdv A outer s H vs Q E hr h => ?_)
  · obtain ⟨n, rfl, _⟩ := h
    rfl
  obtain ⟨n, rfl, ⟨hn1, hn2⟩, q⟩ := h
  refine ⟨_, (pss_cons (ps_set (i := 1) scShortestBy.nd rfl (.inl rfl) pe_int)
      (pss_cons (ps_set (i := 2) scShortestBy.nd rfl (.inl rfl) (pe_cal GFirstFound (hr.mono (by decide)) pass0 rfl (pa_cons (pe_lst (pa_cons pe_int pa_nil)) (pa_cons (pv 0) (pa_cons (pv 1) pa_nil)))))
      (pss_cons (ps_while PassesOwn.never (pt_cmpR op_isN1 (pv 2) pe_non (nomark _))
      (pss_cons (ps_set (i := 1) scShortestBy.nd rfl (.inl rfl) (pe_op op_add (pv 1) pe_int))
      (pss_one (ps_set (i := 2) scShortestBy.nd rfl (.inl rfl) (pe_cal GFirstFound (hr.mono (by decide)) pass0 rfl (pa_cons (pe_lst (pa_cons pe_int pa_nil)) (pa_cons (pv 0) (pa_cons (pv 1) pa_nil))))))))
      (pss_one (ps_ret (pv 2)))))), ?_⟩
  dsimp only [cxOf, Cx.nox, Cx.wish, L2.start]
  obtain ⟨L, hL8, hL⟩ := reach_60 hn1 hn2
  kct_strs
  refine n_lst le_1 fun p1 H1 hp1 e1 h1 => ?_
  kct_strs
  refine c_first (k := 0) (ns := [1]) rfl (by decide) h1 IsAdd.single ⟨by decide, by decide, by omega⟩ fun v H2 e2 hf => ?_
  have hf2 := hf.free e1 hp1
  kct_strs
  refine s_while (fun m σ' H' => ∃ (k : Nat) (v : V), σ' = [some (.int n), some (.int (k : Int)), some v] ∧ Same H H' ∧ m = 9 - k ∧ k ≤ 8 ∧ Hid (∀ j, j < k → ¬ Reach j [1] n) ∧ FoundW k [1] n H H' v) 9 ⟨0, v, rfl, e1.trans e2, rfl, by decide, ⟨fun j hj => absurd hj (Nat.not_lt_zero _)⟩, hf2⟩ (fun m σ' H' hW => ?_)
  obtain ⟨k, v, rfl, e, rfl, hk, hno, hf⟩ := hW
  cases hf with
  | no h =>
    refine wt_of (b := true) ?_ (fun hb => ?_) (fun hb => by cases hb)
    · refine n_of fun Qt qt => ?_
      kct_strs
      rw [decide_eq_true rfl]
      exact qt
    have hno2 : ∀ j, j < k + 1 → ¬ Reach j [1] n := fun j hj => by
      by_cases ej : j = k
      · subst ej
        exact h
      · exact hno.out j (by omega)
    have hkL : k < L := by
      by_cases h2 : L ≤ k
      · exact absurd hL (hno2 L (by omega))
      · omega
    kct_strs
    refine n_lst le_1 fun p3 H3 hp3 e3 h3 => ?_
    kct_strs
    refine c_first (k := k + 1) (ns := [1]) rfl (by omega) h3 IsAdd.single ⟨by simp only [List.length_singleton]; omega, by decide, by omega⟩ fun v H4 e4 hf => ?_
    have hf2 := hf.free (e.trans e3) (e.free hp3)
    kct_strs
    exact ⟨9 - (k + 1), by omega, k + 1, v, rfl, e.trans (e3.trans e4), rfl, by omega, ⟨hno2⟩, hf2⟩
  | yes hA hl el hp h =>
    refine wt_of (b := false) ?_ (fun hb => by cases hb) (fun hb => ?_)
    · refine n_of fun Qt qt => ?_
      kct_strs
      rw [decide_eq_false (by intro z; cases z)]
      exact qt
    kct_strs
    rw [List.length_singleton] at hl
    exact q k _ _ H' ⟨reach_iff.mpr ⟨_, hA, hl, el⟩, hno.out⟩ hk hA (by omega) el e hp h
theorem ok_asked_number (F : Own K mg "asked_number" sAskedNumber ["number", "most"]) (B : Nb mg) : Cal P w K mg base CX0 1 "asked_number" ["number", "most"] spAskedNumber := by
  refine F.ok scAskedNumber (fun vs H Q E h => ?_) (fun f cdv A outer s H vs Q E hr h => ?_)
  · obtain ⟨n, m, rfl, _⟩ := h
    rfl
  obtain ⟨n, m, rfl, ⟨hn1, hn2⟩, q⟩ := h
  refine ⟨_, (pss_one (ps_if (PW.pt (pw_or (pt_cmpR op_lt (pv 0) pe_int (nomark _)) (pw_or1 (pt_cmpR op_gt (pv 0) (pv 1) (nomark _))))) (pss_one ps_never) pss_nil)), ?_⟩
  dsimp only [cxOf, Cx.nox, Cx.wish, L2.start]
  kct_strs
  kpt_turns <;> intro hb
  · simp only [Bool.or_eq_true, decide_eq_true_eq] at hb
    omega
  kct_strs
  exact q
end

/-! ## shortest, least -/
abbrev sShortest : Stmt := topS 31
theorem scShortest : FnScope ["number"] ["number"] (defScope sShortest) := ⟨rfl, rfl, rfl, by decide +kernel, rfl, by decide +kernel, by decide +kernel⟩
abbrev sLeast : Stmt := topS 32
theorem scLeast : FnScope ["number"] ["number"] (defScope sLeast) := ⟨rfl, rfl, rfl, by decide +kernel, rfl, by decide +kernel, by decide +kernel⟩
section
variable {P : Program} {w : World} {K : PySem.W.Frag} {mg : Str → Option Value} {base : Heap}
theorem ok_shortest (F : Own K mg "shortest" sShortest ["number"]) (B : Nb mg) (GAskedNumber : Cal P w K mg base CX0 1 "asked_number" ["number", "most"] spAskedNumber) (GShortestBy : Cal P w K mg base CX0 11 "shortest_by" ["number"] spShortestBy) : Cal P w K mg base CX0 12 "shortest" ["number"] spShortestBy := by
  refine F.ok scShortest (fun vs H Q E h => ?_) (fun f cdv A outer s H vs Q E hr h => ?_)
  · obtain ⟨n, rfl, _⟩ := h
    rfl
  obtain ⟨n, rfl, hn, q⟩ := h
  refine ⟨_, (pss_cons (ps_expr (pe_cal GAskedNumber (hr.mono (by decide)) pass0 rfl (pa_cons (pv 0) (pa_cons (pe_const B.c_MOST_shortest rfl) pa_nil))))
      (pss_one (ps_ret (pe_cal GShortestBy (hr.mono (by decide)) pass0 rfl (pa_cons (pv 0) pa_nil))))), ?_⟩
  dsimp only [cxOf, Cx.nox, Cx.wish, L2.start]
  kct_strs
  refine c_asked_number hn ?_
  kct_strs
  exact c_shortest hn q
theorem ok_least (F : Own K mg "least" sLeast ["number"]) (B : Nb mg) (GAskedNumber : Cal P w K mg base CX0 1 "asked_number" ["number", "most"] spAskedNumber) (GShortestBy : Cal P w K mg base CX0 11 "shortest_by" ["number"] spShortestBy) : Cal P w K mg base CX0 12 "least" ["number"] spLeast := by
  refine F.ok scLeast (fun vs H Q E h => ?_) (fun f cdv A outer s H vs Q E hr h => ?_)
  · obtain ⟨n, rfl, _⟩ := h
    rfl
  obtain ⟨n, rfl, hn, q⟩ := h
  refine ⟨_, (pss_cons (ps_expr (pe_cal GAskedNumber (hr.mono (by decide)) pass0 rfl (pa_cons (pv 0) (pa_cons (pe_const B.c_MOST_shortest rfl) pa_nil))))
      (pss_one (ps_ret (pe_op op_sub (pe_callB f_len (by rfl) B.b_len PySem.boot_len (pa_cons (pe_cal GShortestBy (hr.mono (by decide)) pass0 rfl (pa_cons (pv 0) pa_nil)) pa_nil)) pe_int)))), ?_⟩
  dsimp only [cxOf, Cx.nox, Cx.wish, L2.start]
  kct_strs
  refine c_asked_number hn ?_
  kct_strs
  refine c_shortest hn fun L cs p H1 hL hL8 hA hl el e1 hp h1 => ?_
  kct_strs
  rw [show (cs.length : Int) - 1 = (L : Int) by omega]
  exact q L H1 hL hL8 e1
end

/-! ## counted, shortest_many -/
abbrev sCounted : Stmt := topS 29
theorem scCounted : FnScope ["chain", "number", "steps", "total"] ["chain", "number", "steps"] (defScope sCounted) := ⟨rfl, rfl, rfl, by decide +kernel, rfl, by decide +kernel, by decide +kernel⟩
abbrev sShortestMany : Stmt := topS 33
theorem scShortestMany : FnScope ["number"] ["number"] (defScope sShortestMany) := ⟨rfl, rfl, rfl, by decide +kernel, rfl, by decide +kernel, by decide +kernel⟩
section
variable {P : Program} {w : World} {K : PySem.W.Frag} {mg : Str → Option Value} {base : Heap}
theorem ok_counted (F : Own K mg "counted" sCounted ["chain", "number", "steps"]) (B : Nb mg) (GNexts : Cal P w K mg base CX0 1 "nexts" ["chain", "number", "steps"] spNexts) : ∀ d : Nat, d ≤ 9 → Cal P w K mg base CX0 (d + 1) "counted" ["chain", "number", "steps"] (spCounted d)
  | 0, _ => (F.zero fun vs H Q E h => by
    obtain ⟨a, ns, n, k, hk, _⟩ := h
    omega).mono (Nat.zero_le _)
  | d + 1, hd => by
    have GCounted := ok_counted F B GNexts d (by omega)
    refine F.ok scCounted (fun vs H Q E h => ?_) (fun f cdv A outer s H vs Q E hr h => ?_)
    · obtain ⟨a, ns, n, k, hk, rfl, _⟩ := h
      rfl
    obtain ⟨a, ns, n, k, hk, rfl, ha, hA, ⟨hl, hmx, hn⟩, q⟩ := h
    refine ⟨_, (pss_cons (ps_if (pt_cmpR op_eq (pv 2) pe_int (nomark _)) (pss_one (ps_ret (pe_callTy f_int (by rfl) B.b_int (by decide +kernel) (pa_cons (pe_cmpR op_eq (pe_ix ix_list (pv 0) (pe_un un_neg pe_int) (fun _ _ => rfl)) (pv 1) (nomark _)) pa_nil)))) pss_nil)
      (pss_one (ps_ret (pe_callB (cr_sum rfl) (by rfl) B.b_sum (by decide +kernel) (pa_cons (pe_lc (own := [("total", 3)]) (g := gName 3) rfl scCounted.nd (pi_list (pe_cal GNexts (hr.mono (by omega)) pass0 rfl (pa_cons (pv 0) (pa_cons (pv 1) (pa_cons (pv 2) pa_nil))))) (blkOk_by (N := ["chain", "number", "steps", "total"]) (sc := defScope sCounted) (by decide +kernel)) (fun _ _ _ _ _ => pg_name (i := 3) scCounted.nd rfl (Or.inl rfl)) (fun _ _ _ _ _ => pts_nil) (fun _ _ _ _ _ => (pe_cal GCounted hr pass0 rfl (pa_cons (pe_op op_cat (pv 0) (pe_lst (pa_cons (pv 3) pa_nil))) (pa_cons (pv 1) (pa_cons (pe_op op_sub (pv 2) pe_int) pa_nil)))))) pa_nil))))), ?_⟩
    dsimp only [cxOf, Cx.nox, Cx.wish, L2.start]
    have hl1 := hA.lo
    kct_strs
    kpt_turns <;> intro hb
    · have hb' := of_decide_eq_true hb
      obtain rfl : k = 0 := by omega
      kct_strs
      rw [last_eq' hA]
      have hq := q H (Same.refl _)
      rw [show cnt 0 ns n = if decide (lst' ns = n) = true then 1 else 0 by
        unfold cnt
        by_cases e : lst' ns = n
        · rw [if_pos e, if_pos (decide_eq_true e)]
        · rw [if_neg e, if_neg (by simpa using e)]] at hq
      exact hq
    · have hb' := of_decide_eq_false hb
      obtain ⟨j, rfl⟩ : ∃ j, k = j + 1 := ⟨k - 1, by omega⟩
      kct_strs
      refine c_nexts (k := j) rfl ha hA ⟨by omega, by omega, by omega⟩ fun p H1 e1 hp h1 => ?_
      kct_strs
      have hlen := desc_len (P := condP ns n j) (n.toNat + 1)
      refine e_lcMapS (cs := nextP ns n j) (fun t => cnt j (ns ++ [t]) n) (SqL.of h1) (by show (desc (condP ns n j) (n.toNat + 1)).length ≤ _; omega) (fun _ => rfl) (fun i t H2 K1 hi ht e2 k1 => ?_) (fun D H2 hD e2 hacc => ?_)
      · subst ht
        obtain ⟨hg, _⟩ := (mem_nextP hA).mp (getD_mem (d := 0) hi)
        have hgt : (nextP ns n j).getD i 0 ≤ 1000 := Int.le_trans hg.hi hn
        have hlen : (ns ++ [(nextP ns n j).getD i 0]).length = ns.length + 1 := by rw [List.length_append, List.length_singleton]
        have hls := last_snoc ns ((nextP ns n j).getD i 0)
        have hAs := hg.snoc hA
        have ha2 := e2 _ _ (e1 _ _ ha)
        kct_strs
        refine n_lst le_1 fun p2 H3 hp2 e3 h3 => ?_
        kct_strs
        refine n_cat (ns := ns) (ms := [(nextP ns n j).getD i 0]) (e3 _ _ ha2) h3 (by simp only [List.length_singleton]; omega) fun p3 H4 hp3 e4 h4 => ?_
        kct_strs
        refine c_counted (k := j) (by omega) (by omega) h4 hAs ⟨by omega, by omega, hn⟩ fun H5 e5 => ?_
        exact k1 H5 (e3.trans (e4.trans e5))
      · kct_strs
        refine r_sum hacc ?_
        rw [← cnt_P hA]
        exact q H2 (e1.trans e2)
theorem ok_many (F : Own K mg "shortest_many" sShortestMany ["number"]) (B : Nb mg) (GAskedNumber : Cal P w K mg base CX0 1 "asked_number" ["number", "most"] spAskedNumber) (GShortestBy : Cal P w K mg base CX0 11 "shortest_by" ["number"] spShortestBy) (GCounted : Cal P w K mg base CX0 10 "counted" ["chain", "number", "steps"] (spCounted 9)) : Cal P w K mg base CX0 12 "shortest_many" ["number"] spMany := by
  refine F.ok scShortestMany (fun vs H Q E h => ?_) (fun f cdv A outer s H vs Q E hr h => ?_)
  · obtain ⟨n, rfl, _⟩ := h
    rfl
  obtain ⟨n, rfl, hn, q⟩ := h
  refine ⟨_, (pss_cons (ps_expr (pe_cal GAskedNumber (hr.mono (by decide)) pass0 rfl (pa_cons (pv 0) (pa_cons (pe_const B.c_MOST_COUNTED rfl) pa_nil))))
      (pss_one (ps_ret (pe_cal GCounted (hr.mono (by decide)) pass0 rfl (pa_cons (pe_lst (pa_cons pe_int pa_nil)) (pa_cons (pv 0) (pa_cons (pe_op op_sub (pe_callB f_len (by rfl) B.b_len PySem.boot_len (pa_cons (pe_cal GShortestBy (hr.mono (by decide)) pass0 rfl (pa_cons (pv 0) pa_nil)) pa_nil)) pe_int) pa_nil))))))), ?_⟩
  dsimp only [cxOf, Cx.nox, Cx.wish, L2.start]
  kct_strs
  refine c_asked_number hn ?_
  kct_strs
  refine n_lst le_1 fun p1 H1 hp1 e1 h1 => ?_
  kct_strs
  refine c_shortest ⟨hn.1, by omega⟩ fun L cs p H2 hL hL8 hA hl el e2 hp h2 => ?_
  kct_strs
  refine c_counted (k := L) (ns := [1]) (by omega) (by omega) (e2 _ _ h1) IsAdd.single ⟨by simp only [List.length_singleton]; omega, by decide, by omega⟩ fun H3 e3 => ?_
  exact q L H3 hL (e1.trans (e2.trans e3))
end

/-! ## _law_word_of: a caught error's word -/
abbrev sLawWordOf : Stmt := topS 39
theorem scLawWordOf : FnScope ["e", "kinds"] ["e"] (defScope sLawWordOf) := ⟨rfl, rfl, rfl, by decide +kernel, rfl, by decide +kernel, by decide +kernel⟩
section
variable {P : Program} {w : World} {K : PySem.W.Frag} {mg : Str → Option Value} {base : Heap}
theorem three_le {x y z : V} : [x, y, z].length ≤ 100000 := (by decide : 3 ≤ 100000)
theorem five_le {x y z u v : V} : [x, y, z].length + [u, v].length ≤ 100000 := (by decide : 5 ≤ 100000)
theorem five_get : ∀ i : Nat, i < 5 → ([decide (i = 0), decide (i = 1), decide (i = 2)] ++ [decide (i = 3), decide (i = 4)])[i]? = some true := by decide
theorem five_no : ∀ i : Nat, i < 5 → ∀ m, m < i → ([decide (i = 0), decide (i = 1), decide (i = 2)] ++ [decide (i = 3), decide (i = 4)])[m]? ≠ some true := by decide
theorem five_word : ∀ i : Nat, i < 5 → atI [V.str (Str.ofString "chain"), V.str (Str.ofString "modulus"), V.str (Str.ofString "number"), V.str (Str.ofString "long"), V.str (Str.ofString "note")] (i : Int) = some (.str (wordAt i))
  | 0, _ => rfl
  | 1, _ => rfl
  | 2, _ => rfl
  | 3, _ => rfl
  | 4, _ => rfl
theorem five_count : ∀ i : Nat, i < 5 → ([decide (i = 0), decide (i = 1), decide (i = 2)] ++ [decide (i = 3), decide (i = 4)]).count true = 1 := by decide
theorem ok_word_of {D : Nat → Addr} {S : Addr} {L : List Nat} (F : Own K mg "_law_word_of" sLawWordOf ["e"]) (B : Nb mg) (Kd : Kinds K mg D S L) : CalE P w K mg base 1 "_law_word_of" ["e"] (spWordOf D L) := by
  refine F.okE scLawWordOf (fun a cls d vs H Q E h => ?_) (fun f cdv A outer s H vs Q E p cls d hz hf hr h => ?_)
  · obtain ⟨i, _, _, _, rfl, _⟩ := h
    rfl
  obtain ⟨i, hi, rfl, rfl, rfl, q⟩ := h
  have hk := Kd.kit i hi
  have hX := (Kd.x i hi).2
  have h5 := (Kd.x i hi).1
  refine ⟨_, (pss_cons (ps_set (i := 1) scLawWordOf.nd rfl (.inl rfl) (pe_lst (pa_cons (pe_callB (call_isX (q := p) hX.c List.mem_cons_self hz hf) (by rfl) B.b_isinstance (by decide +kernel) (pa_cons (pv 0) (pa_cons (pe_cls Kd.n0 rfl) pa_nil))) (pa_cons (pe_callB (call_isX (q := p) hX.c List.mem_cons_self hz hf) (by rfl) B.b_isinstance (by decide +kernel) (pa_cons (pv 0) (pa_cons (pe_cls Kd.n1 rfl) pa_nil))) (pa_cons (pe_callB (call_isX (q := p) hX.c List.mem_cons_self hz hf) (by rfl) B.b_isinstance (by decide +kernel) (pa_cons (pv 0) (pa_cons (pe_cls Kd.n2 rfl) pa_nil))) pa_nil)))))
      (pss_cons (ps_set (i := 1) scLawWordOf.nd rfl (.inl rfl) (pe_op op_cat (pv 1) (pe_lst (pa_cons (pe_callB (call_isX (q := p) hX.c List.mem_cons_self hz hf) (by rfl) B.b_isinstance (by decide +kernel) (pa_cons (pv 0) (pa_cons (pe_cls Kd.n3 rfl) pa_nil))) (pa_cons (pe_callB (call_isX (q := p) hX.c List.mem_cons_self hz hf) (by rfl) B.b_isinstance (by decide +kernel) (pa_cons (pv 0) (pa_cons (pe_cls Kd.n4 rfl) pa_nil))) pa_nil)))))
      (pss_cons (ps_if (PW.pt (pw_or (pt_cmpR op_ne (pe_bm PySem.F.plainAttrs_list PySem.F.slot_list_count PySem.F.type_list_count mt_lcountB (pv 1) (pa_cons pe_bl pa_nil)) pe_int (nomark _)) (pw_or1 (pt_not (pt_val (pe_callB (call_isX (q := p) hX.c List.mem_cons_self hz hf) (by rfl) B.b_isinstance (by decide +kernel) (pa_cons (pv 0) (pa_cons (pe_bltn (v := .ty "ValueError") rfl B.b_ValueError (by decide +kernel) rfl) pa_nil)))))))) (pss_one (ps_ret pe_str)) pss_nil)
      (pss_one (ps_ret (pe_ix ix_list (pe_lst (pa_cons pe_str (pa_cons pe_str (pa_cons pe_str (pa_cons pe_str (pa_cons pe_str pa_nil)))))) (pe_bm PySem.F.plainAttrs_list PySem.F.slot_list_index PySem.F.type_list_index mt_index (pv 1) (pa_cons pe_bl pa_nil)) (fun _ _ => rfl))))))), ?_⟩
  dsimp only [L2H.cxH, cxOf, Cx.nox, Cx.wish, L2.start]
  kct_strs
  refine r_isE (hk 0 (by decide)) ?_
  kct_strs
  refine r_isE (hk 1 (by decide)) ?_
  kct_strs
  refine r_isE (hk 2 (by decide)) ?_
  kct_strs
  refine n_lst three_le fun p1 H1 hp1 e1 h1 => ?_
  kct_strs
  refine r_isE (hk 3 (by decide)) ?_
  kct_strs
  refine r_isE (hk 4 (by decide)) ?_
  kct_strs
  refine n_lst le_2 fun p2 H2 hp2 e2 h2 => ?_
  kct_strs
  refine r_cat (e2 _ _ h1) h2 (le_line five_le) fun p3 hp3 => ?_
  have h3 : upd H2 p3 (.lst ([V.bl (decide (i = 0)), .bl (decide (i = 1)), .bl (decide (i = 2))] ++ [.bl (decide (i = 3)), .bl (decide (i = 4))])) p3 = _ := upd_same
  have e3 := e1.trans (e2.trans (same_new (o := .lst ([V.bl (decide (i = 0)), .bl (decide (i = 1)), .bl (decide (i = 2))] ++ [.bl (decide (i = 3)), .bl (decide (i = 4))])) hp3))
  generalize upd H2 p3 (.lst ([V.bl (decide (i = 0)), .bl (decide (i = 1)), .bl (decide (i = 2))] ++ [.bl (decide (i = 3)), .bl (decide (i = 4))])) = H3 at *
  kct_strs
  refine s_ifs ?_
  kct_strs
  refine m_countB (bs := [decide (i = 0), decide (i = 1), decide (i = 2)] ++ [decide (i = 3), decide (i = 4)]) (SqL.of h3) ?_
  rw [five_count i h5]
  kct_strs
  refine r_isEv hX.v ?_
  kct_strs
  refine n_lst (by decide) fun p4 H4 hp4 e4 h4 => ?_
  have h34 := e4 _ _ h3
  kct_strs
  refine r_indexB (bs := [decide (i = 0), decide (i = 1), decide (i = 2)] ++ [decide (i = 3), decide (i = 4)]) (j := i) (SqL.of h34) (five_get i h5) (five_no i h5) ?_
  exact e_ixV (SqL.of h4) (five_word i h5) (q H4 (e3.trans e4))
end

/-! ## asked_chain of any list; what each def refuses -/
section
variable {P : Program} {w : World} {K : PySem.W.Frag} {mg : Str → Option Value} {base : Heap} {D : Nat → Addr} {S : Addr} {L : List Nat}
theorem ok_askedX (F : Own K mg "asked_chain" sAskedChain ["chain"]) (B : Nb mg) (XNoChain : ClsX K mg "NoChain" (D 0) S) (GIsChain : Cal P w K mg base CX0 2 "is_chain" ["chain"] spIsChain) : Cal P w K mg base (L2.CX P w) 3 "asked_chain" ["chain"] (spAskedX (D 0)) := by
  refine F.okX scAskedChain (fun vs H Q E h => ?_) (fun f cdv A outer s H vs Q E hr h => ?_)
  · obtain ⟨a, ns, rfl, _⟩ := h
    rfl
  obtain ⟨a, ns, rfl, ha, hl, q, qE⟩ := h
  refine ⟨_, (pss_one (ps_if (pt_not (pt_val (pe_cal GIsChain (hr.mono (by decide)) pass0 rfl (pa_cons (pv 0) pa_nil)))) (pss_one (ps_raise rfl (takes_of rfl rfl rfl rfl) (pmk_own PySem.F.excBase_ValueError XNoChain.x XNoChain.g XNoChain.k XNoChain.raises rfl))) pss_nil)), ?_⟩
  dsimp only [cxOf, Cx.nox, Cx.wish, L2.start]
  refine s_ifs ?_
  kct_strs
  refine c_is_chain (by kd_adr) hl fun b H1 e1 hb => ?_
  cases b with
  | true =>
    kct_strs
    exact q (hb.mp rfl) H1 e1
  | false =>
    kct_strs
    exact qE (fun z => nomatch hb.mpr z) H1 e1
theorem no_links (F : Own K mg "links" sLinks ["chain"]) (B : Nb mg) (GAskedX : Cal P w K mg base (L2.CX P w) 3 "asked_chain" ["chain"] (spAskedX (D 0))) (GLinksBy : Cal P w K mg base CX0 2 "links_by" ["chain"] spLinksBy) : Cal P w K mg base (L2.CX P w) 4 "links" ["chain"] (spNo1 (D 0)) := by
  refine F.okX scLinks (fun vs H Q E h => ?_) (fun f cdv A outer s H vs Q E hr h => ?_)
  · obtain ⟨a, ns, rfl, _⟩ := h
    rfl
  obtain ⟨a, ns, rfl, ha, hl, hn, qE⟩ := h
  refine ⟨_, (pss_cons (ps_expr (pe_cal GAskedX (hr.mono (by decide)) (passes_call (takes_of rfl rfl rfl rfl) fun _ _ _ _ h => h) rfl (pa_cons (pv 0) pa_nil)))
      (pss_one (ps_ret (pe_cal GLinksBy (hr.mono (by decide)) pass0 rfl (pa_cons (pv 0) pa_nil))))), ?_⟩
  dsimp only [cxOf, Cx.nox, Cx.wish, L2.start]
  kct_strs
  exact c_askedX ha hl (fun z => absurd z hn) fun _ => qE
theorem no_thinned (F : Own K mg "thinned" sThinned ["chain"]) (B : Nb mg) (GAskedX : Cal P w K mg base (L2.CX P w) 3 "asked_chain" ["chain"] (spAskedX (D 0))) (GLinksBy : Cal P w K mg base CX0 2 "links_by" ["chain"] spLinksBy) : Cal P w K mg base (L2.CX P w) 4 "thinned" ["chain"] (spNo1 (D 0)) := by
  refine F.okX scThinned (fun vs H Q E h => ?_) (fun f cdv A outer s H vs Q E hr h => ?_)
  · obtain ⟨a, ns, rfl, _⟩ := h
    rfl
  obtain ⟨a, ns, rfl, ha, hl, hn, qE⟩ := h
  refine ⟨_, (pss_cons (ps_expr (pe_cal GAskedX (hr.mono (by decide)) (passes_call (takes_of rfl rfl rfl rfl) fun _ _ _ _ h => h) rfl (pa_cons (pv 0) pa_nil)))
      (pss_cons (ps_set (i := 1) scThinned.nd rfl (.inl rfl) (pe_cal GLinksBy (hr.mono (by decide)) pass0 rfl (pa_cons (pv 0) pa_nil)))
      (pss_cons (ps_set (i := 2) scThinned.nd rfl (.inr rfl) (pe_disp (pps_cons (pe_op op_sub (pe_callB f_len (by rfl) B.b_len PySem.boot_len (pa_cons (pv 0) pa_nil)) pe_int) pe_bl (pps_cons pe_int pe_bl pps_nil)) (by rfl) (by rfl) (fun z => by cases z) (by decide)))
      (pss_cons (ps_for (passes_of rfl) rfl (pi_revR (by rfl) B.b_reversed (prg_2 (by rfl) B.b_range pe_int (pe_callB f_len (by rfl) B.b_len PySem.boot_len (pa_cons (pv 0) pa_nil)))) (pg_name (i := 3) scThinned.nd rfl (.inl rfl))
      (pss_one (ps_if (pt_cmp (pc_din (hu_of hr) (pv 3) (pv 2))) (pss_cons (ps_dput (hu_of hr) (pv 2) (pe_ix ix_tup (pe_ix ix_list (pv 1) (pe_op op_sub (pv 3) pe_int) (fun _ _ => rfl)) pe_int (fun _ _ => rfl)) pe_bl rfl)
      (pss_one (ps_dput (hu_of hr) (pv 2) (pe_ix ix_tup (pe_ix ix_list (pv 1) (pe_op op_sub (pv 3) pe_int) (fun _ _ => rfl)) pe_int (fun _ _ => rfl)) pe_bl rfl))) pss_nil)))
      (pss_one (ps_ret (pe_lc (own := [("place", 3)]) (g := gName 3) rfl scThinned.nd (pi_range1 (by rfl) B.b_range (pa_cons (pe_callB f_len (by rfl) B.b_len PySem.boot_len (pa_cons (pv 0) pa_nil)) pa_nil)) (blkOk_by (N := ["chain", "known", "needed", "place"]) (sc := defScope sThinned) (by decide +kernel)) (fun _ _ _ _ _ => pg_name (i := 3) scThinned.nd rfl (Or.inl rfl)) (fun _ _ _ _ _ => (pts_one (pt_cmp (pc_din (hu_of hr) (pv 3) (pv 2))))) (fun _ _ _ _ _ => (pe_ix (ix_at (K := K)) (pv 0) (pv 3) (fun _ _ => rfl)))))))))), ?_⟩
  dsimp only [cxOf, Cx.nox, Cx.wish, L2.start]
  kct_strs
  exact c_askedX ha hl (fun z => absurd z hn) fun _ => qE
theorem no_shown (F : Own K mg "shown" sShown ["chain"]) (B : Nb mg) (GAskedX : Cal P w K mg base (L2.CX P w) 3 "asked_chain" ["chain"] (spAskedX (D 0))) : Cal P w K mg base (L2.CX P w) 4 "shown" ["chain"] (spNo1 (D 0)) := by
  refine F.okX scShown (fun vs H Q E h => ?_) (fun f cdv A outer s H vs Q E hr h => ?_)
  · obtain ⟨a, ns, rfl, _⟩ := h
    rfl
  obtain ⟨a, ns, rfl, ha, hl, hn, qE⟩ := h
  refine ⟨_, (pss_cons (ps_expr (pe_cal GAskedX (hr.mono (by decide)) (passes_call (takes_of rfl rfl rfl rfl) fun _ _ _ _ h => h) rfl (pa_cons (pv 0) pa_nil)))
      (pss_one (ps_ret (pe_m1 PySem.F.slot_str_join PySem.F.type_str_join mt_joinN pe_str (pe_lc (own := [("number", 1)]) (g := gName 1) rfl scShown.nd (pi_list (pv 0)) (blkOk_by (N := ["chain", "number"]) (sc := defScope sShown) (by decide +kernel)) (fun _ _ _ _ _ => pg_name (i := 1) scShown.nd rfl (Or.inl rfl)) (fun _ _ _ _ _ => pts_nil) (fun _ _ _ _ _ => (pe_callTy f_str (by rfl) B.b_str (by decide +kernel) (pa_cons (pv 1) pa_nil)))))))), ?_⟩
  dsimp only [cxOf, Cx.nox, Cx.wish, L2.start]
  kct_strs
  exact c_askedX ha hl (fun z => absurd z hn) fun _ => qE
theorem no_joined (F : Own K mg "joined" sJoined ["one", "other"]) (B : Nb mg) (GAskedX : Cal P w K mg base (L2.CX P w) 3 "asked_chain" ["chain"] (spAskedX (D 0))) : Cal P w K mg base (L2.CX P w) 4 "joined" ["one", "other"] (spNo2 (D 0)) := by
  refine F.okX scJoined (fun vs H Q E h => ?_) (fun f cdv A outer s H vs Q E hr h => ?_)
  · obtain ⟨a, b, ns, ms, rfl, _⟩ := h
    rfl
  obtain ⟨a, b, ns, ms, rfl, ha, hb, ⟨hl1, hl2⟩, hn, qE⟩ := h
  refine ⟨_, (pss_cons (ps_expr (pe_cal GAskedX (hr.mono (by decide)) (passes_call (takes_of rfl rfl rfl rfl) fun _ _ _ _ h => h) rfl (pa_cons (pv 0) pa_nil)))
      (pss_cons (ps_expr (pe_cal GAskedX (hr.mono (by decide)) (passes_call (takes_of rfl rfl rfl rfl) fun _ _ _ _ h => h) rfl (pa_cons (pv 1) pa_nil)))
      (pss_cons (ps_if (pt_cmpR op_gt (pe_op op_sub (pe_op op_add (pe_callB f_len (by rfl) B.b_len PySem.boot_len (pa_cons (pv 0) pa_nil)) (pe_callB f_len (by rfl) B.b_len PySem.boot_len (pa_cons (pv 1) pa_nil))) pe_int) (pe_const B.c_MOST_chains rfl) (nomark _)) (pss_one ps_never) pss_nil)
      (pss_one (ps_ret (pe_op op_cat (pe_callTy f_list (by rfl) B.b_list (by decide +kernel) (pa_cons (pv 0) pa_nil)) (pe_lc (own := [("number", 2)]) (g := gName 2) rfl scJoined.nd (pi_list (pe_slice sl_list (pv 1) (po_some pe_int) po_none)) (blkOk_by (N := ["one", "other", "number"]) (sc := defScope sJoined) (by decide +kernel)) (fun _ _ _ _ _ => pg_name (i := 2) scJoined.nd rfl (Or.inl rfl)) (fun _ _ _ _ _ => pts_nil) (fun _ _ _ _ _ => (pe_op op_mulW (pv 2) (pe_ix (ix_at (K := K)) (pv 0) (pe_un un_neg pe_int) (fun _ _ => rfl))))))))))), ?_⟩
  dsimp only [cxOf, Cx.nox, Cx.wish, L2.start]
  kct_strs
  refine c_askedX ha hl1 (fun z H1 e1 => ?_) fun _ => qE
  kct_strs
  exact c_askedX (e1 _ _ hb) hl2 (fun z2 => absurd ⟨z, z2⟩ hn) fun _ H2 e2 => qE H2 (e1.trans e2)
theorem no_powers (F : Own K mg "powers" sPowers ["chain", "base", "modulus"]) (B : Nb mg) (XNoModulus : ClsX K mg "NoModulus" (D 1) S) (GAskedX : Cal P w K mg base (L2.CX P w) 3 "asked_chain" ["chain"] (spAskedX (D 0))) (GLinksBy : Cal P w K mg base CX0 2 "links_by" ["chain"] spLinksBy) : Cal P w K mg base (L2.CX P w) 4 "powers" ["chain", "base", "modulus"] (spNoP (D 0) (D 1)) := by
  refine F.okX scPowers (fun vs H Q E h => ?_) (fun f cdv A outer s H vs Q E hr h => ?_)
  · obtain ⟨a, ns, b, m, rfl, _⟩ := h
    rfl
  obtain ⟨a, ns, b, m, rfl, ha, hl, hm, qM, qE⟩ := h
  refine ⟨_, (pss_cons (ps_expr (pe_cal GAskedX (hr.mono (by decide)) (passes_call (takes_of rfl rfl rfl rfl) fun _ _ _ _ h => h) rfl (pa_cons (pv 0) pa_nil)))
      (pss_cons (ps_if (PW.pt (pw_or (pt_cmpR op_lt (pv 2) pe_int (nomark _)) (pw_or1 (pt_cmpR op_gt (pv 2) (pe_const B.c_GREATEST_powers rfl) (nomark _))))) (pss_one (ps_raise rfl (takes_of rfl rfl rfl rfl) (pmk_own PySem.F.excBase_ValueError XNoModulus.x XNoModulus.g XNoModulus.k XNoModulus.raises rfl))) pss_nil)
      (pss_cons (ps_set (i := 3) scPowers.nd rfl (.inl rfl) (pe_lst (pa_cons (pe_op op_mod (pv 1) (pv 2)) pa_nil)))
      (pss_cons (ps_for (passes_of rfl) rfl (pi_list (pe_cal GLinksBy (hr.mono (by decide)) pass0 rfl (pa_cons (pv 0) pa_nil))) (pg_tup rfl (pgs_cons (pg_name (i := 4) scPowers.nd rfl (.inl rfl)) (pgs_cons (pg_name (i := 5) scPowers.nd rfl (.inl rfl)) pgs_nil)))
      (pss_one (ps_expr (pe_bm PySem.F.plainAttrs_list PySem.F.slot_list_append PySem.F.type_list_append mt_append (pv 3) (pa_cons (pe_op op_mod (pe_op op_mulW (pe_ix ix_list (pv 3) (pv 4) (fun _ _ => rfl)) (pe_ix ix_list (pv 3) (pv 5) (fun _ _ => rfl))) (pv 2)) pa_nil)))))
      (pss_one (ps_ret (pv 3))))))), ?_⟩
  dsimp only [cxOf, Cx.nox, Cx.wish, L2.start]
  kct_strs
  refine c_askedX ha hl (fun z H1 e1 => ?_) qE
  have hm' := hm z
  kct_strs
  kpt_turns <;> intro hb
  · exact qM z H1 e1
  · simp only [Bool.or_eq_false_iff, decide_eq_false_iff_not] at hb
    omega
theorem no_doubling (F : Own K mg "doubling" sDoubling ["number"]) (B : Nb mg) (XNoNumber : ClsX K mg "NoNumber" (D 2) S) : Cal P w K mg base (L2.CX P w) 1 "doubling" ["number"] (spNoN (D 2) (10 ^ 30)) := by
  refine F.okX scDoubling (fun vs H Q E h => ?_) (fun f cdv A outer s H vs Q E hr h => ?_)
  · obtain ⟨n, rfl, _⟩ := h
    rfl
  obtain ⟨n, rfl, hn, qE⟩ := h
  refine ⟨_, (pss_cons (ps_if (PW.pt (pw_or (pt_cmpR op_lt (pv 0) pe_int (nomark _)) (pw_or1 (pt_cmpR op_gt (pv 0) (pe_const B.c_GREATEST_chains rfl) (nomark _))))) (pss_one (ps_raise rfl (takes_of rfl rfl rfl rfl) (pmk_own PySem.F.excBase_ValueError XNoNumber.x XNoNumber.g XNoNumber.k XNoNumber.raises rfl))) pss_nil)
      (pss_cons (ps_set (i := 1) scDoubling.nd rfl (.inl rfl) (pe_lst pa_nil))
      (pss_cons (ps_while (passes_of rfl) (pt_cmpR op_gt (pv 0) pe_int (nomark _))
      (pss_cons (ps_expr (pe_bm PySem.F.plainAttrs_list PySem.F.slot_list_append PySem.F.type_list_append mt_append (pv 1) (pa_cons (pe_op op_mod (pv 0) pe_int) pa_nil)))
      (pss_one (ps_set (i := 0) scDoubling.nd rfl (.inl rfl) (pe_op op_fdiv (pv 0) pe_int)))))
      (pss_cons (ps_set (i := 2) scDoubling.nd rfl (.inl rfl) (pe_lst (pa_cons pe_int pa_nil)))
      (pss_cons (ps_for (passes_of rfl) rfl (pi_reversed (by rfl) B.b_reversed (pa_cons (pv 1) pa_nil)) (pg_name (i := 3) scDoubling.nd rfl (.inl rfl))
      (pss_cons (ps_expr (pe_bm PySem.F.plainAttrs_list PySem.F.slot_list_append PySem.F.type_list_append mt_append (pv 2) (pa_cons (pe_op op_mul (pe_ix ix_list (pv 2) (pe_un un_neg pe_int) (fun _ _ => rfl)) pe_int) pa_nil)))
      (pss_one (ps_if (pt_cmpR op_eq (pv 3) pe_int (nomark _)) (pss_one (ps_expr (pe_bm PySem.F.plainAttrs_list PySem.F.slot_list_append PySem.F.type_list_append mt_append (pv 2) (pa_cons (pe_op op_add (pe_ix ix_list (pv 2) (pe_un un_neg pe_int) (fun _ _ => rfl)) pe_int) pa_nil)))) pss_nil))))
      (pss_one (ps_ret (pv 2)))))))), ?_⟩
  dsimp only [cxOf, Cx.nox, Cx.wish, L2.start]
  kct_strs
  kpt_turns <;> intro hb
  · exact qE H (Same.refl _)
  · simp only [Bool.or_eq_false_iff, decide_eq_false_iff_not] at hb
    omega
theorem no_asked_number (F : Own K mg "asked_number" sAskedNumber ["number", "most"]) (B : Nb mg) (XNoNumber : ClsX K mg "NoNumber" (D 2) S) : Cal P w K mg base (L2.CX P w) 1 "asked_number" ["number", "most"] (spNoA (D 2)) := by
  refine F.okX scAskedNumber (fun vs H Q E h => ?_) (fun f cdv A outer s H vs Q E hr h => ?_)
  · obtain ⟨n, m, rfl, _⟩ := h
    rfl
  obtain ⟨n, m, rfl, hn, qE⟩ := h
  refine ⟨_, (pss_one (ps_if (PW.pt (pw_or (pt_cmpR op_lt (pv 0) pe_int (nomark _)) (pw_or1 (pt_cmpR op_gt (pv 0) (pv 1) (nomark _))))) (pss_one (ps_raise rfl (takes_of rfl rfl rfl rfl) (pmk_own PySem.F.excBase_ValueError XNoNumber.x XNoNumber.g XNoNumber.k XNoNumber.raises rfl))) pss_nil)), ?_⟩
  dsimp only [cxOf, Cx.nox, Cx.wish, L2.start]
  kct_strs
  kpt_turns <;> intro hb
  · exact qE H (Same.refl _)
  · simp only [Bool.or_eq_false_iff, decide_eq_false_iff_not] at hb
    omega
theorem no_shortest (F : Own K mg "shortest" sShortest ["number"]) (B : Nb mg) (GAskedNumberX : Cal P w K mg base (L2.CX P w) 1 "asked_number" ["number", "most"] (spNoA (D 2))) (GShortestBy : Cal P w K mg base CX0 11 "shortest_by" ["number"] spShortestBy) : Cal P w K mg base (L2.CX P w) 12 "shortest" ["number"] (spNoN (D 2) 60) := by
  refine F.okX scShortest (fun vs H Q E h => ?_) (fun f cdv A outer s H vs Q E hr h => ?_)
  · obtain ⟨n, rfl, _⟩ := h
    rfl
  obtain ⟨n, rfl, hn, qE⟩ := h
  refine ⟨_, (pss_cons (ps_expr (pe_cal GAskedNumberX (hr.mono (by decide)) (passes_call (takes_of rfl rfl rfl rfl) fun _ _ _ _ h => h) rfl (pa_cons (pv 0) (pa_cons (pe_const B.c_MOST_shortest rfl) pa_nil))))
      (pss_one (ps_ret (pe_cal GShortestBy (hr.mono (by decide)) pass0 rfl (pa_cons (pv 0) pa_nil))))), ?_⟩
  dsimp only [cxOf, Cx.nox, Cx.wish, L2.start]
  kct_strs
  exact c_noA hn qE
theorem no_least (F : Own K mg "least" sLeast ["number"]) (B : Nb mg) (GAskedNumberX : Cal P w K mg base (L2.CX P w) 1 "asked_number" ["number", "most"] (spNoA (D 2))) (GShortestBy : Cal P w K mg base CX0 11 "shortest_by" ["number"] spShortestBy) : Cal P w K mg base (L2.CX P w) 12 "least" ["number"] (spNoN (D 2) 60) := by
  refine F.okX scLeast (fun vs H Q E h => ?_) (fun f cdv A outer s H vs Q E hr h => ?_)
  · obtain ⟨n, rfl, _⟩ := h
    rfl
  obtain ⟨n, rfl, hn, qE⟩ := h
  refine ⟨_, (pss_cons (ps_expr (pe_cal GAskedNumberX (hr.mono (by decide)) (passes_call (takes_of rfl rfl rfl rfl) fun _ _ _ _ h => h) rfl (pa_cons (pv 0) (pa_cons (pe_const B.c_MOST_shortest rfl) pa_nil))))
      (pss_one (ps_ret (pe_op op_sub (pe_callB f_len (by rfl) B.b_len PySem.boot_len (pa_cons (pe_cal GShortestBy (hr.mono (by decide)) pass0 rfl (pa_cons (pv 0) pa_nil)) pa_nil)) pe_int)))), ?_⟩
  dsimp only [cxOf, Cx.nox, Cx.wish, L2.start]
  kct_strs
  exact c_noA hn qE
theorem no_many (F : Own K mg "shortest_many" sShortestMany ["number"]) (B : Nb mg) (GAskedNumberX : Cal P w K mg base (L2.CX P w) 1 "asked_number" ["number", "most"] (spNoA (D 2))) (GShortestBy : Cal P w K mg base CX0 11 "shortest_by" ["number"] spShortestBy) (GCounted : Cal P w K mg base CX0 10 "counted" ["chain", "number", "steps"] (spCounted 9)) : Cal P w K mg base (L2.CX P w) 12 "shortest_many" ["number"] (spNoN (D 2) 40) := by
  refine F.okX scShortestMany (fun vs H Q E h => ?_) (fun f cdv A outer s H vs Q E hr h => ?_)
  · obtain ⟨n, rfl, _⟩ := h
    rfl
  obtain ⟨n, rfl, hn, qE⟩ := h
  refine ⟨_, (pss_cons (ps_expr (pe_cal GAskedNumberX (hr.mono (by decide)) (passes_call (takes_of rfl rfl rfl rfl) fun _ _ _ _ h => h) rfl (pa_cons (pv 0) (pa_cons (pe_const B.c_MOST_COUNTED rfl) pa_nil))))
      (pss_one (ps_ret (pe_cal GCounted (hr.mono (by decide)) pass0 rfl (pa_cons (pe_lst (pa_cons pe_int pa_nil)) (pa_cons (pv 0) (pa_cons (pe_op op_sub (pe_callB f_len (by rfl) B.b_len PySem.boot_len (pa_cons (pe_cal GShortestBy (hr.mono (by decide)) pass0 rfl (pa_cons (pv 0) pa_nil)) pa_nil)) pe_int) pa_nil))))))), ?_⟩
  dsimp only [cxOf, Cx.nox, Cx.wish, L2.start]
  kct_strs
  exact c_noA hn qE
/-! ### either way -/
theorem either_ch1 {x : Str} {ps : List Str} {k : Nat} {sp : Sp} (G1 : Cal P w K mg base CX0 k x ps sp) (G2 : Cal P w K mg base (L2.CX P w) k x ps (spNo1 (D 0))) (h : ∀ (a : Addr) (ns : List Int) (H : Hp) (Q : VK) (E : XK), H a = some (.lst (ns.map V.int)) → IsCh ns → gi ns (-1) < 10 ^ 50 → (∀ v H', Same H H' → Q v H') → sp [.ref a] H Q E) : Cal P w K mg base (L2.CX P w) k x ps (spCh1 (D 0)) :=
  (G1.or G2).imp fun vs H Q E z => by
    obtain ⟨a, ns, rfl, ha, hl, hg, q, qE⟩ := z
    by_cases hC : IsCh ns
    · exact Or.inl (h a ns H Q E ha hC (hg hC) (q hC))
    · exact Or.inr ⟨a, ns, rfl, ha, hl, hC, qE hC⟩
theorem either_ch2 {x : Str} {ps : List Str} {k : Nat} (G1 : Cal P w K mg base CX0 k x ps spJoined) (G2 : Cal P w K mg base (L2.CX P w) k x ps (spNo2 (D 0))) : Cal P w K mg base (L2.CX P w) k x ps (spCh2 (D 0)) :=
  (G1.or G2).imp fun vs H Q E z => by
    obtain ⟨a, b, ns, ms, rfl, ha, hb, hl, hg, q, qE⟩ := z
    by_cases hC : IsCh ns ∧ IsCh ms
    · have g := hg hC.1 hC.2
      exact Or.inl (c_joined ha hb hC.1 hC.2 (by omega) (by omega) (by omega) fun p H' e _ _ => q hC.1 hC.2 _ H' e)
    · exact Or.inr ⟨a, b, ns, ms, rfl, ha, hb, hl, hC, qE hC⟩
theorem either_chP {x : Str} {ps : List Str} {k : Nat} (G1 : Cal P w K mg base CX0 k x ps spPowers) (G2 : Cal P w K mg base (L2.CX P w) k x ps (spNoP (D 0) (D 1))) : Cal P w K mg base (L2.CX P w) k x ps (spChP (D 0) (D 1)) :=
  (G1.or G2).imp fun vs H Q E z => by
    obtain ⟨a, ns, b, m, rfl, ha, hl, q, qM, qE⟩ := z
    by_cases hC : IsCh ns ∧ 1 ≤ m ∧ m ≤ 10 ^ 30
    · exact Or.inl (c_powers ha hC.1 hC.2 fun p H' e _ _ => q hC.1 hC.2 _ H' e)
    · have hb : IsCh ns → m < 1 ∨ 10 ^ 30 < m := fun hc => by
        by_cases h1 : m < 1
        · exact Or.inl h1
        · by_cases h2 : 10 ^ 30 < m
          · exact Or.inr h2
          · exact absurd ⟨hc, by omega, by omega⟩ hC
      exact Or.inr ⟨a, ns, b, m, rfl, ha, hl, hb, fun hc => qM hc (hb hc), qE⟩
theorem either_num {x : Str} {ps : List Str} {k : Nat} {sp : Sp} {most : Int} (G1 : Cal P w K mg base CX0 k x ps sp) (G2 : Cal P w K mg base (L2.CX P w) k x ps (spNoN (D 2) most)) (h : ∀ (n : Int) (H : Hp) (Q : VK) (E : XK), 1 ≤ n ∧ n ≤ most → (∀ v H', Same H H' → Q v H') → sp [.int n] H Q E) : Cal P w K mg base (L2.CX P w) k x ps (spNum (D 2) most) :=
  (G1.or G2).imp fun vs H Q E z => by
    obtain ⟨n, rfl, q, qE⟩ := z
    by_cases hC : 1 ≤ n ∧ n ≤ most
    · exact Or.inl (h n H Q E hC (q hC))
    · have hb : n < 1 ∨ most < n := by omega
      exact Or.inr ⟨n, rfl, hb, qE hb⟩
end

/-! ## _law_of_chains, _law_of_numbers, _law_tried -/
abbrev sLawOfChains : Stmt := topS 40
theorem scLawOfChains : FnScope ["which", "chain", "modulus"] ["which", "chain", "modulus"] (defScope sLawOfChains) := ⟨rfl, rfl, rfl, by decide +kernel, rfl, by decide +kernel, by decide +kernel⟩
abbrev sLawOfNumbers : Stmt := topS 41
theorem scLawOfNumbers : FnScope ["which", "number"] ["which", "number"] (defScope sLawOfNumbers) := ⟨rfl, rfl, rfl, by decide +kernel, rfl, by decide +kernel, by decide +kernel⟩
abbrev sLawTried : Stmt := topS 42
theorem scLawTried : FnScope ["which", "chain", "modulus", "number", "e"] ["which", "chain", "modulus", "number"] (defScope sLawTried) := ⟨rfl, rfl, rfl, by decide +kernel, rfl, by decide +kernel, by decide +kernel⟩
abbrev sLawSpoilt : Stmt := topS 43
theorem scLawSpoilt : FnScope ["script", "chain", "way", "k"] ["script", "chain", "way"] (defScope sLawSpoilt) := ⟨rfl, rfl, rfl, by decide +kernel, rfl, by decide +kernel, by decide +kernel⟩
section
variable {P : Program} {w : World} {K : PySem.W.Frag} {mg : Str → Option Value} {base : Heap} {D : Nat → Addr} {S : Addr} {L : List Nat}
theorem ch_12 : IsCh [1, 2] := (ch_iff _).mpr ⟨IsAdd.single.snoc (i := 0) (j := 0) (by decide) (by decide) rfl (by decide), by decide⟩
theorem ok_of_chains (F : Own K mg "_law_of_chains" sLawOfChains ["which", "chain", "modulus"]) (B : Nb mg) (GLinks : Cal P w K mg base (L2.CX P w) 4 "links" ["chain"] (spCh1 (D 0))) (GThinned : Cal P w K mg base (L2.CX P w) 4 "thinned" ["chain"] (spCh1 (D 0))) (GJoined : Cal P w K mg base (L2.CX P w) 4 "joined" ["one", "other"] (spCh2 (D 0))) (GShown : Cal P w K mg base (L2.CX P w) 4 "shown" ["chain"] (spCh1 (D 0))) (GPowers : Cal P w K mg base (L2.CX P w) 4 "powers" ["chain", "base", "modulus"] (spChP (D 0) (D 1))) :
    Cal P w K mg base (L2.CX P w) 5 "_law_of_chains" ["which", "chain", "modulus"] (spOfChains D) := by
  refine F.okX scLawOfChains (fun vs H Q E h => ?_) (fun f cdv A outer s H vs Q E hr h => ?_)
  · obtain ⟨x, a, ns, m, rfl, _⟩ := h
    rfl
  obtain ⟨x, a, ns, m, rfl, ha, hl, hg, q, q0, q1⟩ := h
  refine ⟨_, (pss_mid (ps_if (pt_cmpR op_eq (pv 0) pe_int (nomark _)) (pss_one (ps_expr (pe_cal GLinks (hr.mono (by decide)) (passes_call (takes_of rfl rfl rfl rfl) fun _ _ _ _ h => h) rfl (pa_cons (pv 1) pa_nil)))) pss_nil)
      (pss_mid (ps_if (pt_cmpR op_eq (pv 0) pe_int (nomark _)) (pss_one (ps_expr (pe_cal GThinned (hr.mono (by decide)) (passes_call (takes_of rfl rfl rfl rfl) fun _ _ _ _ h => h) rfl (pa_cons (pv 1) pa_nil)))) pss_nil)
      (pss_mid (ps_if (pt_cmpR op_eq (pv 0) pe_int (nomark _)) (pss_one (ps_expr (pe_cal GJoined (hr.mono (by decide)) (passes_call (takes_of rfl rfl rfl rfl) fun _ _ _ _ h => h) rfl (pa_cons (pv 1) (pa_cons (pe_lst (pa_cons pe_int (pa_cons pe_int pa_nil))) pa_nil))))) pss_nil)
      (pss_mid (ps_if (pt_cmpR op_eq (pv 0) pe_int (nomark _)) (pss_one (ps_expr (pe_cal GJoined (hr.mono (by decide)) (passes_call (takes_of rfl rfl rfl rfl) fun _ _ _ _ h => h) rfl (pa_cons (pe_lst (pa_cons pe_int (pa_cons pe_int pa_nil))) (pa_cons (pv 1) pa_nil))))) pss_nil)
      (pss_mid (ps_if (pt_cmpR op_eq (pv 0) pe_int (nomark _)) (pss_one (ps_expr (pe_cal GShown (hr.mono (by decide)) (passes_call (takes_of rfl rfl rfl rfl) fun _ _ _ _ h => h) rfl (pa_cons (pv 1) pa_nil)))) pss_nil)
      (pss_one (ps_if (pt_cmpR op_eq (pv 0) pe_int (nomark _)) (pss_one (ps_expr (pe_cal GPowers (hr.mono (by decide)) (passes_call (takes_of rfl rfl rfl rfl) fun _ _ _ _ h => h) rfl (pa_cons (pv 1) (pa_cons pe_int (pa_cons (pv 2) pa_nil)))))) pss_nil))))))), ?_⟩
  dsimp only [cxOf, Cx.nox, Cx.wish, L2.start]
  have hgc : IsCh ns → gi ns (-1) < 10 ^ 50 := fun z => (hg z).2
  refine s_cut (fun σ2 H2 => σ2 = [some (.int x), some (.ref a), some (.int m)] ∧ Same H H2 ∧ (0 ≤ x → x ≤ 0 → IsCh ns)) ?_ ?_
  · kpt_turns <;> intro hb
    · have hx := of_decide_eq_true hb
      kct_strs
      refine c_ch1 (ha) hl hgc (fun hc v H2 e2 => ?_) fun hc H2 e2 => q0 (fun z => hc (z (by omega) (by omega))) H2 (e2)
      kct_strs
      exact ⟨rfl, e2, fun _ _ => hc⟩
    · have hx := of_decide_eq_false hb
      kct_strs
      exact ⟨rfl, Same.refl _, fun a1 a2 => absurd a1 (by omega)⟩
  rintro _ H1 ⟨rfl, e1, hk⟩
  refine s_cut (fun σ2 H2 => σ2 = [some (.int x), some (.ref a), some (.int m)] ∧ Same H H2 ∧ (0 ≤ x → x ≤ 1 → IsCh ns)) ?_ ?_
  · kpt_turns <;> intro hb
    · have hx := of_decide_eq_true hb
      kct_strs
      refine c_ch1 (e1 _ _ ha) hl hgc (fun hc v H2 e2 => ?_) fun hc H2 e2 => q0 (fun z => hc (z (by omega) (by omega))) H2 (e1.trans e2)
      kct_strs
      exact ⟨rfl, e1.trans e2, fun _ _ => hc⟩
    · have hx := of_decide_eq_false hb
      kct_strs
      exact ⟨rfl, e1, fun a1 a2 => hk a1 (by omega)⟩
  clear e1 hk H1
  rintro _ H1 ⟨rfl, e1, hk⟩
  refine s_cut (fun σ2 H2 => σ2 = [some (.int x), some (.ref a), some (.int m)] ∧ Same H H2 ∧ (0 ≤ x → x ≤ 2 → IsCh ns)) ?_ ?_
  · kpt_turns <;> intro hb
    · have hx := of_decide_eq_true hb
      kct_strs
      refine n_lst le_2 fun p2 H2 hp2 e2 h2 => ?_
      kct_strs
      refine c_ch2 (ms := [1, 2]) (e2 _ _ (e1 _ _ ha)) h2 ⟨hl, by decide⟩ (fun hc _ => ⟨?_, hgc hc, by decide⟩) (fun hc _ v H3 e3 => ?_) fun hc H3 e3 => q0 (fun z => hc ⟨z (by omega) (by omega), ch_12⟩) H3 (e1.trans (e2.trans e3))
      · have := (hg hc).1
        show ns.length + 2 ≤ 200
        omega
      kct_strs
      exact ⟨rfl, e1.trans (e2.trans e3), fun _ _ => hc⟩
    · have hx := of_decide_eq_false hb
      kct_strs
      exact ⟨rfl, e1, fun a1 a2 => hk a1 (by omega)⟩
  clear e1 hk H1
  rintro _ H1 ⟨rfl, e1, hk⟩
  refine s_cut (fun σ2 H2 => σ2 = [some (.int x), some (.ref a), some (.int m)] ∧ Same H H2 ∧ (0 ≤ x → x ≤ 3 → IsCh ns)) ?_ ?_
  · kpt_turns <;> intro hb
    · have hx := of_decide_eq_true hb
      kct_strs
      refine n_lst le_2 fun p2 H2 hp2 e2 h2 => ?_
      kct_strs
      refine c_ch2 (ns := [1, 2]) h2 (e2 _ _ (e1 _ _ ha)) ⟨by decide, hl⟩ (fun _ hc => ⟨?_, by decide, hgc hc⟩) (fun _ hc v H3 e3 => ?_) fun hc H3 e3 => q0 (fun z => hc ⟨ch_12, z (by omega) (by omega)⟩) H3 (e1.trans (e2.trans e3))
      · have := (hg hc).1
        show 2 + ns.length ≤ 200
        omega
      kct_strs
      exact ⟨rfl, e1.trans (e2.trans e3), fun _ _ => hc⟩
    · have hx := of_decide_eq_false hb
      kct_strs
      exact ⟨rfl, e1, fun a1 a2 => hk a1 (by omega)⟩
  clear e1 hk H1
  rintro _ H1 ⟨rfl, e1, hk⟩
  refine s_cut (fun σ2 H2 => σ2 = [some (.int x), some (.ref a), some (.int m)] ∧ Same H H2 ∧ (0 ≤ x → x ≤ 4 → IsCh ns)) ?_ ?_
  · kpt_turns <;> intro hb
    · have hx := of_decide_eq_true hb
      kct_strs
      refine c_ch1 (e1 _ _ ha) hl hgc (fun hc v H2 e2 => ?_) fun hc H2 e2 => q0 (fun z => hc (z (by omega) (by omega))) H2 (e1.trans e2)
      kct_strs
      exact ⟨rfl, e1.trans e2, fun _ _ => hc⟩
    · have hx := of_decide_eq_false hb
      kct_strs
      exact ⟨rfl, e1, fun a1 a2 => hk a1 (by omega)⟩
  clear e1 hk H1
  rintro _ H1 ⟨rfl, e1, hk⟩
  kpt_turns <;> intro hb
  · have hx := of_decide_eq_true hb
    kct_strs
    refine c_chP (e1 _ _ ha) hl (fun hc hm v H2 e2 => ?_) (fun hc hm H2 e2 => q1 (fun _ _ => hc) (fun z => ?_) H2 (e1.trans e2)) fun hc H2 e2 => q0 (fun z => hc (z (by omega) (by omega))) H2 (e1.trans e2)
    · kct_strs
      exact q (fun _ _ => hc) (fun _ => hm) H2 (e1.trans e2)
    · have := z hx
      omega
  · have hx := of_decide_eq_false hb
    kct_strs
    exact q (fun a1 a2 => hk a1 (by omega)) (fun z => absurd z hx) H1 e1
theorem ok_of_numbers (F : Own K mg "_law_of_numbers" sLawOfNumbers ["which", "number"]) (B : Nb mg) (GDoubling : Cal P w K mg base (L2.CX P w) 1 "doubling" ["number"] (spNum (D 2) (10 ^ 30))) (GShortest : Cal P w K mg base (L2.CX P w) 12 "shortest" ["number"] (spNum (D 2) 60)) (GLeast : Cal P w K mg base (L2.CX P w) 12 "least" ["number"] (spNum (D 2) 60)) (GShortestMany : Cal P w K mg base (L2.CX P w) 12 "shortest_many" ["number"] (spNum (D 2) 40)) :
    Cal P w K mg base (L2.CX P w) 13 "_law_of_numbers" ["which", "number"] (spOfNumbers D) := by
  refine F.okX scLawOfNumbers (fun vs H Q E h => ?_) (fun f cdv A outer s H vs Q E hr h => ?_)
  · obtain ⟨x, n, rfl, _⟩ := h
    rfl
  obtain ⟨x, n, rfl, q, qE⟩ := h
  refine ⟨_, (pss_mid (ps_if (pt_cmpR op_eq (pv 0) pe_int (nomark _)) (pss_one (ps_expr (pe_cal GDoubling (hr.mono (by decide)) (passes_call (takes_of rfl rfl rfl rfl) fun _ _ _ _ h => h) rfl (pa_cons (pv 1) pa_nil)))) pss_nil)
      (pss_mid (ps_if (pt_cmpR op_eq (pv 0) pe_int (nomark _)) (pss_one (ps_expr (pe_cal GShortest (hr.mono (by decide)) (passes_call (takes_of rfl rfl rfl rfl) fun _ _ _ _ h => h) rfl (pa_cons (pv 1) pa_nil)))) pss_nil)
      (pss_mid (ps_if (pt_cmpR op_eq (pv 0) pe_int (nomark _)) (pss_one (ps_expr (pe_cal GLeast (hr.mono (by decide)) (passes_call (takes_of rfl rfl rfl rfl) fun _ _ _ _ h => h) rfl (pa_cons (pv 1) pa_nil)))) pss_nil)
      (pss_one (ps_if (pt_cmpR op_eq (pv 0) pe_int (nomark _)) (pss_one (ps_expr (pe_cal GShortestMany (hr.mono (by decide)) (passes_call (takes_of rfl rfl rfl rfl) fun _ _ _ _ h => h) rfl (pa_cons (pv 1) pa_nil)))) pss_nil))))), ?_⟩
  dsimp only [cxOf, Cx.nox, Cx.wish, L2.start]
  refine s_cut (fun σ2 H2 => σ2 = [some (.int x), some (.int n)] ∧ Same H H2 ∧ (x = 6 → 1 ≤ n ∧ n ≤ 10 ^ 30)) ?_ ?_
  · kpt_turns <;> intro hb
    · have hx := of_decide_eq_true hb
      kct_strs
      refine c_num (fun hn v H2 e2 => ?_) fun hn H2 e2 => qE (fun z => ?_) H2 (e2)
      · kct_strs
        exact ⟨rfl, e2, fun _ => hn⟩
      · have := z.1 hx
        omega
    · have hx := of_decide_eq_false hb
      kct_strs
      exact ⟨rfl, Same.refl _, fun z => absurd z hx⟩
  rintro _ H1 ⟨rfl, e1, k6⟩
  refine s_cut (fun σ2 H2 => σ2 = [some (.int x), some (.int n)] ∧ Same H H2 ∧ (x = 6 → 1 ≤ n ∧ n ≤ 10 ^ 30) ∧ (x = 7 → 1 ≤ n ∧ n ≤ 60)) ?_ ?_
  · kpt_turns <;> intro hb
    · have hx := of_decide_eq_true hb
      kct_strs
      refine c_num (fun hn v H2 e2 => ?_) fun hn H2 e2 => qE (fun z => ?_) H2 (e1.trans e2)
      · kct_strs
        exact ⟨rfl, e1.trans e2, k6, fun _ => hn⟩
      · have := z.2.1 hx
        omega
    · have hx := of_decide_eq_false hb
      kct_strs
      exact ⟨rfl, e1, k6, fun z => absurd z hx⟩
  clear e1 k6 H1
  rintro _ H1 ⟨rfl, e1, k6, k7⟩
  refine s_cut (fun σ2 H2 => σ2 = [some (.int x), some (.int n)] ∧ Same H H2 ∧ (x = 6 → 1 ≤ n ∧ n ≤ 10 ^ 30) ∧ (x = 7 → 1 ≤ n ∧ n ≤ 60) ∧ (x = 8 → 1 ≤ n ∧ n ≤ 60)) ?_ ?_
  · kpt_turns <;> intro hb
    · have hx := of_decide_eq_true hb
      kct_strs
      refine c_num (fun hn v H2 e2 => ?_) fun hn H2 e2 => qE (fun z => ?_) H2 (e1.trans e2)
      · kct_strs
        exact ⟨rfl, e1.trans e2, k6, k7, fun _ => hn⟩
      · have := z.2.2.1 hx
        omega
    · have hx := of_decide_eq_false hb
      kct_strs
      exact ⟨rfl, e1, k6, k7, fun z => absurd z hx⟩
  clear e1 k6 k7 H1
  rintro _ H1 ⟨rfl, e1, k6, k7, k8⟩
  kpt_turns <;> intro hb
  · have hx := of_decide_eq_true hb
    kct_strs
    refine c_num (fun hn v H2 e2 => ?_) fun hn H2 e2 => qE (fun z => ?_) H2 (e1.trans e2)
    · kct_strs
      exact q ⟨k6, k7, k8, fun _ => hn⟩ H2 (e1.trans e2)
    · have := z.2.2.2 hx
      omega
  · have hx := of_decide_eq_false hb
    kct_strs
    exact q ⟨k6, k7, k8, fun z => absurd z hx⟩ H1 e1
theorem ok_tried (F : Own K mg "_law_tried" sLawTried ["which", "chain", "modulus", "number"]) (B : Nb mg) (Kd : Kinds K mg D S [0, 1, 2]) (GLawOfChains : Cal P w K mg base (L2.CX P w) 5 "_law_of_chains" ["which", "chain", "modulus"] (spOfChains D)) (GLawOfNumbers : Cal P w K mg base (L2.CX P w) 13 "_law_of_numbers" ["which", "number"] (spOfNumbers D)) (GLawWordOf : CalE P w K mg base 1 "_law_word_of" ["e"] (spWordOf D [0, 1, 2])) : Cal P w K mg base CX0 14 "_law_tried" ["which", "chain", "modulus", "number"] spTried := by
  have m0 : 0 ∈ [0, 1, 2] := List.mem_cons_self
  have m1 : 1 ∈ [0, 1, 2] := List.mem_cons_of_mem _ List.mem_cons_self
  have m2 : 2 ∈ [0, 1, 2] := List.mem_cons_of_mem _ (List.mem_cons_of_mem _ List.mem_cons_self)
  have X0 : ClsX K mg "NoChain" (D 0) S := (Kd.x 0 m0).2
  have X1 : ClsX K mg "NoModulus" (D 1) S := (Kd.x 1 m1).2
  have X2 : ClsX K mg "NoNumber" (D 2) S := (Kd.x 2 m2).2
  refine F.ok scLawTried (fun vs H Q E h => ?_) (fun f cdv A outer s H vs Q E hr h => ?_)
  · obtain ⟨x, a, ns, m, n, rfl, _⟩ := h
    rfl
  obtain ⟨x, a, ns, m, n, rfl, ha, hl, hg, q, q0, q1, q2⟩ := h
  refine ⟨_, (pss_cons (ps_try_as (i := 4) rfl rfl scLawTried.nd rfl rfl ⟨rfl, by decide, Or.inl Kd.s⟩ takes0
      (fun W pn xe tk _ => (pss_cons (ps_expr (pe_calS GLawOfChains (hr.mono (by decide : 5 ≤ 13)) (fun σ => passAt tk σ) rfl (pa_cons (pv 0) (pa_cons (pv 1) (pa_cons (pv 2) pa_nil)))))
      (pss_one (ps_expr (pe_calS GLawOfNumbers hr (fun σ => passAt tk σ) rfl (pa_cons (pv 0) (pa_cons (pv 3) pa_nil)))))))
      (fun a oe cls d pn hz hf => (pss_one (ps_ret (pe_calE (a := a) (oe := oe) GLawWordOf (L2H.RoomH.mk (hr.mono (by decide : 1 ≤ 13)).dp (hr.mono (by decide : 1 ≤ 13)).un) List.mem_cons_self hz hf rfl (pa_cons (pv 4) pa_nil))))))
      (pss_one (ps_ret pe_str))), ?_⟩
  dsimp only [cxOf, Cx.nox, Cx.wish, L2.start]
  kct_strs
  refine c_of_chains ha hl hg (fun hc hm H1 e1 => ?_) (fun hc H1 e1 => ?_) (fun hc hm H1 e1 => ?_)
  · kct_strs
    refine c_of_numbers (fun hn H2 e2 => ?_) (fun hn H2 e2 => ?_)
    · kct_strs
      exact q hc hm hn H2 (e1.trans e2)
    · refine ⟨true, X2.e, fun _ y hy => ?_, fun z => nomatch z⟩
      kct_strs
      exact c_word_of m2 fun H3 e3 => q2 hc hm hn H3 (e1.trans (e2.trans e3))
  · refine ⟨true, X0.e, fun _ y hy => ?_, fun z => nomatch z⟩
    kct_strs
    exact c_word_of m0 fun H3 e3 => q0 hc H3 (e1.trans e3)
  · refine ⟨true, X1.e, fun _ y hy => ?_, fun z => nomatch z⟩
    kct_strs
    exact c_word_of m1 fun H3 e3 => q1 hc hm H3 (e1.trans e3)
theorem ok_spoilt14 (F : Own K mg "_law_spoilt" sLawSpoilt ["script", "chain", "way"]) (B : Nb mg) (GLawCellAt : Cal P w K mg base CX0 1 "_law_cell_at" ["script", "k"] (spCellAt K)) : Cal P w K mg base CX0 2 "_law_spoilt" ["script", "chain", "way"] (spSpoilt14 K) := by
  refine F.ok scLawSpoilt (fun vs H Q E h => ?_) (fun f cdv A outer s H vs Q E hr h => ?_)
  · obtain ⟨a, c, ns, cs, way, rfl, _⟩ := h
    rfl
  obtain ⟨a, c, ns, cs, way, rfl, hS0, hc, hA, hl, hg, q⟩ := h
  refine ⟨_, (pss_cons (ps_if (pt_cmpR op_eq (pv 2) pe_int (nomark _)) (pss_one (ps_ret (pe_lst pa_nil))) pss_nil)
      (pss_cons (ps_if (pt_cmpR op_eq (pv 2) pe_int (nomark _)) (pss_one (ps_ret (pe_op op_cat (pe_lst (pa_cons (pe_op op_add pe_int (pe_op op_mod (pe_cal GLawCellAt (hr.mono (by decide)) pass0 rfl (pa_cons (pv 0) (pa_cons pe_int pa_nil))) pe_int)) pa_nil)) (pe_slice sl_list (pv 1) (po_some pe_int) po_none)))) pss_nil)
      (pss_cons (ps_if (pt_cmpR op_eq (pv 2) pe_int (nomark _)) (pss_one (ps_ret (pe_op op_cat (pv 1) (pe_lst (pa_cons (pe_ix ix_list (pv 1) (pe_un un_neg pe_int) (fun _ _ => rfl)) pa_nil))))) pss_nil)
      (pss_cons (ps_if (pt_cmpR op_eq (pv 2) pe_int (nomark _)) (pss_one (ps_ret (pe_op op_cat (pv 1) (pe_lst (pa_cons (pe_op op_add (pe_op op_add (pe_op op_mul pe_int (pe_ix ix_list (pv 1) (pe_un un_neg pe_int) (fun _ _ => rfl))) pe_int) (pe_op op_mod (pe_cal GLawCellAt (hr.mono (by decide)) pass0 rfl (pa_cons (pv 0) (pa_cons pe_int pa_nil))) pe_int)) pa_nil))))) pss_nil)
      (pss_one (ps_ret (pe_lc (own := [("k", 3)]) (g := gName 3) rfl scLawSpoilt.nd (pi_range1 (by rfl) B.b_range (pa_cons (pe_op op_add pe_int (pe_op op_mod (pe_cal GLawCellAt (hr.mono (by decide)) pass0 rfl (pa_cons (pv 0) (pa_cons pe_int pa_nil))) pe_int)) pa_nil)) (blkOk_by (N := ["script", "chain", "way", "k"]) (sc := defScope sLawSpoilt) (by decide +kernel)) (fun _ _ _ _ _ => pg_name (i := 3) scLawSpoilt.nd rfl (Or.inl rfl)) (fun _ _ _ _ _ => pts_nil) (fun _ _ _ _ _ => (pe_op op_add pe_int (pv 3)))))))))), ?_⟩
  dsimp only [cxOf, Cx.nox, Cx.wish, L2.start]
  have hlo := hA.lo
  have hgp := gi_last_pos hA
  kct_strs
  kpt_turns <;> intro hb
  · kct_strs
    exact n_lst (by decide) fun p1 H1 hp1 e1 h1 => q [] p1 H1 (by decide) no_nil e1 hp1 h1
  kct_strs
  kpt_turns <;> intro hb
  · kct_strs
    refine n_lst le_1 fun p1 H1 hp1 e1 h1 => ?_
    kct_strs
    refine n_drop (SqL.of (e1 _ _ hc)) (by omega) fun p2 H2 hp2 e2 h2 => ?_
    have hd : (cs.drop (1 : Int).toNat).length ≤ 40 := by rw [List.length_drop]; omega
    refine n_cat (ns := [2 + cellAt ns 4 % 9]) (e2 _ _ h1) h2 (by show 1 + (cs.drop (1 : Int).toNat).length ≤ 100000; omega) fun p3 H3 hp3 e3 h3 => ?_
    exact q _ p3 H3 (by show (cs.drop (1 : Int).toNat).length + 1 ≤ 310; omega) (no_head (by omega)) (e1.trans (e2.trans e3)) ((e1.trans e2).free hp3) h3
  kct_strs
  kpt_turns <;> intro hb
  · kct_strs
    refine n_lst le_1 fun p1 H1 hp1 e1 h1 => ?_
    refine n_cat (ms := [_]) (e1 _ _ hc) h1 (by show cs.length + 1 ≤ 100000; omega) fun p3 H3 hp3 e3 h3 => ?_
    exact q _ p3 H3 (by rw [List.length_append, List.length_singleton]; omega) (no_snoc hA (Or.inl (Int.le_refl _))) (e1.trans e3) (e1.free hp3) h3
  kct_strs
  kpt_turns <;> intro hb
  · kct_strs
    refine n_lst le_1 fun p1 H1 hp1 e1 h1 => ?_
    refine n_cat (ms := [_]) (e1 _ _ hc) h1 (by show cs.length + 1 ≤ 100000; omega) fun p3 H3 hp3 e3 h3 => ?_
    exact q _ p3 H3 (by rw [List.length_append, List.length_singleton]; omega) (no_snoc hA (Or.inr (by omega))) (e1.trans e3) (e1.free hp3) h3
  kct_strs
  obtain ⟨k, hk, hk1⟩ : ∃ k : Nat, 251 + cellAt ns 4 % 40 = (k : Int) ∧ 250 < k ∧ k ≤ 300 := ⟨(251 + cellAt ns 4 % 40).toNat, by omega, by omega, by omega⟩
  refine e_lcRangeI (n := (k : Int)) (k := k) (fun i => 1 + (i : Int)) (by omega) (fun Qt qt => by kct_strs; rw [hk]; exact qt) (by omega) (fun _ => rfl) (fun i H5 K1 hi e k1 => ?_) (fun D4 H4 hD4 e4 h4 => ?_)
  · kct_strs
    exact k1
  have hln : ((List.range k).map fun i : Nat => (1 : Int) + (i : Int)).length = k := by rw [List.length_map, List.length_range]
  exact q _ D4 H4 (by rw [hln]; omega) (no_long (by rw [hln]; omega)) e4 hD4 h4
end
/-! ## law -/
abbrev sLaw : Stmt := topS 44
theorem scLaw : FnScope ["script", "chain", "far", "modulus", "due", "last", "which", "number", "most", "wanted"] ["script"] (defScope sLaw) := ⟨rfl, rfl, rfl, by decide +kernel, rfl, by decide +kernel, by decide +kernel⟩
section
variable {P : Program} {w : World} {K : PySem.W.Frag} {mg : Str → Option Value} {base : Heap}
theorem all_law {D : Nat → Addr} {S : Addr} {f : Addr} {fd : FuncData} (F : Fun K "law" "law" sLaw f fd) (B : Nb mg) (Kd : Kinds K mg D S [0, 1, 2]) (OLinkOf : Own K mg "link_of" sLinkOf ["chain", "place"]) (OIsChain : Own K mg "is_chain" sIsChain ["chain"]) (OAskedChain : Own K mg "asked_chain" sAskedChain ["chain"]) (OLinksBy : Own K mg "links_by" sLinksBy ["chain"]) (OLinks : Own K mg "links" sLinks ["chain"]) (OThinned : Own K mg "thinned" sThinned ["chain"]) (OJoined : Own K mg "joined" sJoined ["one", "other"]) (ODoubling : Own K mg "doubling" sDoubling ["number"]) (OShown : Own K mg "shown" sShown ["chain"]) (OPowers : Own K mg "powers" sPowers ["chain", "base", "modulus"]) (OAskedNumber : Own K mg "asked_number" sAskedNumber ["number", "most"]) (ONexts : Own K mg "nexts" sNexts ["chain", "number", "steps"]) (OFirstFound : Own K mg "first_found" sFirstFound ["chain", "number", "steps"]) (OCounted : Own K mg "counted" sCounted ["chain", "number", "steps"]) (OShortestBy : Own K mg "shortest_by" sShortestBy ["number"]) (OShortest : Own K mg "shortest" sShortest ["number"]) (OLeast : Own K mg "least" sLeast ["number"]) (OShortestMany : Own K mg "shortest_many" sShortestMany ["number"]) (OLawCellAt : Own K mg "_law_cell_at" sLawCellAt ["script", "k"]) (OLawDraw : Own K mg "_law_draw" sLawDraw ["cell", "k", "bound"]) (OLawChainBy : Own K mg "_law_chain_by" sLawChainBy ["script", "first", "most"]) (OLawWordOf : Own K mg "_law_word_of" sLawWordOf ["e"]) (OLawOfChains : Own K mg "_law_of_chains" sLawOfChains ["which", "chain", "modulus"]) (OLawOfNumbers : Own K mg "_law_of_numbers" sLawOfNumbers ["which", "number"]) (OLawTried : Own K mg "_law_tried" sLawTried ["which", "chain", "modulus", "number"]) (OLawSpoilt : Own K mg "_law_spoilt" sLawSpoilt ["script", "chain", "way"]) :
    FnOk P w K mg base CX0 15 f fd ["script"] (spLaw K) := by
  have X0 : ClsX K mg "NoChain" (D 0) S := (Kd.x 0 List.mem_cons_self).2
  have X1 : ClsX K mg "NoModulus" (D 1) S := (Kd.x 1 (List.mem_cons_of_mem _ List.mem_cons_self)).2
  have X2 : ClsX K mg "NoNumber" (D 2) S := (Kd.x 2 (List.mem_cons_of_mem _ (List.mem_cons_of_mem _ List.mem_cons_self))).2
  have GLinkOf : Cal P w K mg base CX0 1 "link_of" _ spLinkOf := ok_link_of OLinkOf B
  have GIsChain : Cal P w K mg base CX0 2 "is_chain" _ spIsChain := ok_is_chain OIsChain B GLinkOf
  have GAskedChain : Cal P w K mg base CX0 3 "asked_chain" _ spAsked := ok_asked OAskedChain B GIsChain
  have GAskedX : Cal P w K mg base (L2.CX P w) 3 "asked_chain" _ (spAskedX (D 0)) := ok_askedX OAskedChain B X0 GIsChain
  have GLinksBy : Cal P w K mg base CX0 2 "links_by" _ spLinksBy := ok_links_by OLinksBy B GLinkOf
  have GLinks : Cal P w K mg base (L2.CX P w) 4 "links" _ (spCh1 (D 0)) := either_ch1 (ok_links OLinks B GAskedChain GLinksBy) (no_links OLinks B GAskedX GLinksBy) fun a ns H Q E ha hc hg q => c_links_by ha hc fun p acc H' e _ _ _ _ => q _ H' e
  have GThinned : Cal P w K mg base (L2.CX P w) 4 "thinned" _ (spCh1 (D 0)) := either_ch1 (ok_thinned OThinned B GAskedChain GLinksBy) (no_thinned OThinned B GAskedX GLinksBy) fun a ns H Q E ha hc hg q => c_thinned ha hc fun p H' e _ _ => q _ H' e
  have GShown : Cal P w K mg base (L2.CX P w) 4 "shown" _ (spCh1 (D 0)) := either_ch1 (ok_shown OShown B GAskedChain) (no_shown OShown B GAskedX) fun a ns H Q E ha hc hg q => c_shown ha hc (Int.lt_trans hg (by decide)) fun H' e => q _ H' e
  have GJoined : Cal P w K mg base (L2.CX P w) 4 "joined" _ (spCh2 (D 0)) := either_ch2 (ok_joined OJoined B GAskedChain) (no_joined OJoined B GAskedX)
  have GPowers : Cal P w K mg base (L2.CX P w) 4 "powers" _ (spChP (D 0) (D 1)) := either_chP (ok_powers OPowers B GAskedChain GLinksBy) (no_powers OPowers B X1 GAskedX GLinksBy)
  have GDoubling : Cal P w K mg base (L2.CX P w) 1 "doubling" _ (spNum (D 2) (10 ^ 30)) := either_num (ok_doubling ODoubling B) (no_doubling ODoubling B X2) fun n H Q E hn q => c_doubling (n := n.toNat) (by omega) ⟨by omega, by omega⟩ fun p H' e _ _ => q _ H' e
  have GAskedNumber : Cal P w K mg base CX0 1 "asked_number" _ spAskedNumber := ok_asked_number OAskedNumber B
  have GAskedNumberX : Cal P w K mg base (L2.CX P w) 1 "asked_number" _ (spNoA (D 2)) := no_asked_number OAskedNumber B X2
  have GNexts : Cal P w K mg base CX0 1 "nexts" _ spNexts := ok_nexts ONexts B
  have GFirstFound : Cal P w K mg base CX0 10 "first_found" _ (spFirst 9) := ok_first OFirstFound B GNexts 9 (Nat.le_refl _)
  have GCounted : Cal P w K mg base CX0 10 "counted" _ (spCounted 9) := ok_counted OCounted B GNexts 9 (Nat.le_refl _)
  have GShortestBy : Cal P w K mg base CX0 11 "shortest_by" _ spShortestBy := ok_shortest_by OShortestBy B GFirstFound
  have GShortest : Cal P w K mg base (L2.CX P w) 12 "shortest" _ (spNum (D 2) 60) := either_num (ok_shortest OShortest B GAskedNumber GShortestBy) (no_shortest OShortest B GAskedNumberX GShortestBy) fun n H Q E hn q => c_shortest hn fun _ _ p H' _ _ _ _ _ e _ _ => q _ H' e
  have GLeast : Cal P w K mg base (L2.CX P w) 12 "least" _ (spNum (D 2) 60) := either_num (ok_least OLeast B GAskedNumber GShortestBy) (no_least OLeast B GAskedNumberX GShortestBy) fun n H Q E hn q => c_least hn fun _ H' _ _ e => q _ H' e
  have GShortestMany : Cal P w K mg base (L2.CX P w) 12 "shortest_many" _ (spNum (D 2) 40) := either_num (ok_many OShortestMany B GAskedNumber GShortestBy GCounted) (no_many OShortestMany B GAskedNumberX GShortestBy GCounted) fun n H Q E hn q => c_many hn fun _ H' _ e => q _ H' e
  have GLawCellAt : Cal P w K mg base CX0 1 "_law_cell_at" _ (spCellAt K) := ok_cell_at OLawCellAt B
  have GLawDraw : Cal P w K mg base CX0 1 "_law_draw" _ spDraw := ok_draw OLawDraw B
  have GLawChainBy : Cal P w K mg base CX0 2 "_law_chain_by" _ (spChainBy K) := ok_chain_by OLawChainBy B GLawCellAt GLawDraw
  have GLawWordOf : CalE P w K mg base 1 "_law_word_of" _ (spWordOf D [0, 1, 2]) := ok_word_of OLawWordOf B Kd
  have GLawOfChains : Cal P w K mg base (L2.CX P w) 5 "_law_of_chains" _ (spOfChains D) := ok_of_chains OLawOfChains B GLinks GThinned GJoined GShown GPowers
  have GLawOfNumbers : Cal P w K mg base (L2.CX P w) 13 "_law_of_numbers" _ (spOfNumbers D) := ok_of_numbers OLawOfNumbers B GDoubling GShortest GLeast GShortestMany
  have GLawTried : Cal P w K mg base CX0 14 "_law_tried" _ spTried := ok_tried OLawTried B Kd GLawOfChains GLawOfNumbers GLawWordOf
  have GLawSpoilt : Cal P w K mg base CX0 2 "_law_spoilt" _ (spSpoilt14 K) := ok_spoilt14 OLawSpoilt B GLawCellAt
  refine F.ok scLaw (fun vs H Q E h => ?_) (fun cdv A outer s H vs Q E hr h => ?_)
  · obtain ⟨a, ns, rfl, _⟩ := h
    rfl
  obtain ⟨a, ns, rfl, hS0, hlen, q⟩ := h
  refine ⟨_, (pss_cons (ps_set (i := 1) scLaw.nd rfl (.inl rfl) (pe_cal GLawChainBy (hr.mono (by decide)) pass0 rfl (pa_cons (pv 0) (pa_cons pe_int (pa_cons pe_int pa_nil)))))
      (pss_cons (ps_set (i := 2) scLaw.nd rfl (.inl rfl) (pe_op op_mod (pe_cal GLawCellAt (hr.mono (by decide)) pass0 rfl (pa_cons (pv 0) (pa_cons pe_int pa_nil))) (pe_op op_pow pe_int pe_int)))
      (pss_cons (ps_set (i := 3) scLaw.nd rfl (.inl rfl) (pe_op op_add pe_int (pe_op op_mod (pe_cal GLawCellAt (hr.mono (by decide)) pass0 rfl (pa_cons (pv 0) (pa_cons pe_int pa_nil))) (pe_op op_pow pe_int pe_int))))
      (pss_cons (ps_set (i := 4) scLaw.nd rfl (.inl rfl) pe_str)
      (pss_cons (ps_set (i := 5) scLaw.nd rfl (.inl rfl) pe_str)
      (pss_mid (ps_if (pt_cmpR op_eq (pe_op op_mod (pe_cal GLawCellAt (hr.mono (by decide)) pass0 rfl (pa_cons (pv 0) (pa_cons pe_int pa_nil))) pe_int) pe_int (nomark _)) (pss_cons (ps_set (i := 3) scLaw.nd rfl (.inl rfl) (pe_ix ix_list (pe_lst (pa_cons pe_int (pa_cons (pe_op op_add (pe_op op_pow pe_int pe_int) pe_int) (pa_cons (pe_op op_sub pe_int (pv 2)) (pa_cons (pe_op op_add (pe_op op_add (pe_op op_pow pe_int pe_int) pe_int) (pv 2)) pa_nil))))) (pe_op op_mod (pe_op op_fdiv (pe_cal GLawCellAt (hr.mono (by decide)) pass0 rfl (pa_cons (pv 0) (pa_cons pe_int pa_nil))) pe_int) pe_int) (fun _ _ => rfl)))
      (pss_one (ps_set (i := 5) scLaw.nd rfl (.inl rfl) pe_str))) pss_nil)
      (pss_mid (ps_if (pt_cmpR op_eq (pe_op op_mod (pe_cal GLawCellAt (hr.mono (by decide)) pass0 rfl (pa_cons (pv 0) (pa_cons pe_int pa_nil))) pe_int) pe_int (nomark _)) (pss_cons (ps_set (i := 1) scLaw.nd rfl (.inl rfl) (pe_cal GLawSpoilt (hr.mono (by decide)) pass0 rfl (pa_cons (pv 0) (pa_cons (pv 1) (pa_cons (pe_op op_mod (pe_op op_fdiv (pe_cal GLawCellAt (hr.mono (by decide)) pass0 rfl (pa_cons (pv 0) (pa_cons pe_int pa_nil))) pe_int) pe_int) pa_nil)))))
      (pss_cons (ps_set (i := 4) scLaw.nd rfl (.inl rfl) pe_str)
      (pss_one (ps_set (i := 5) scLaw.nd rfl (.inl rfl) pe_str)))) pss_nil)
      (pss_cons (ps_for PassesOwn.never rfl (pi_range1 (by rfl) B.b_range (pa_cons pe_int pa_nil)) (pg_name (i := 6) scLaw.nd rfl (.inl rfl))
      (pss_one (ps_if (pt_cmpR op_ne (pe_cal GLawTried (hr.mono (by decide)) pass0 rfl (pa_cons (pv 6) (pa_cons (pe_callTy f_list (by rfl) B.b_list (by decide +kernel) (pa_cons (pv 1) pa_nil)) (pa_cons (pv 3) (pa_cons pe_int pa_nil))))) (pe_ix ix_list (pe_lst (pa_cons (pv 4) (pa_cons (pv 5) pa_nil))) (pe_op op_fdiv (pv 6) pe_int) (fun _ _ => rfl)) (nomark _)) (pss_one (ps_ret pe_bl)) pss_nil)))
      (pss_cons (ps_set (i := 7) scLaw.nd rfl (.inl rfl) (pe_op op_mod (pe_cal GLawCellAt (hr.mono (by decide)) pass0 rfl (pa_cons (pv 0) (pa_cons pe_int pa_nil))) pe_int))
      (pss_mid (ps_if (pt_cmpR op_eq (pe_op op_mod (pe_cal GLawCellAt (hr.mono (by decide)) pass0 rfl (pa_cons (pv 0) (pa_cons pe_int pa_nil))) pe_int) pe_int (nomark _)) (pss_one (ps_set (i := 7) scLaw.nd rfl (.inl rfl) (pe_ix ix_list (pe_lst (pa_cons pe_int (pa_cons (pe_op op_sub pe_int (pv 2)) (pa_cons (pe_op op_pow pe_int pe_int) (pa_cons (pe_op op_add (pe_op op_pow pe_int pe_int) pe_int) (pa_cons (pe_op op_add (pe_op op_add (pe_op op_pow pe_int pe_int) pe_int) (pv 2)) (pa_cons (pe_op op_add pe_int (pv 2)) pa_nil))))))) (pe_op op_mod (pe_op op_fdiv (pe_cal GLawCellAt (hr.mono (by decide)) pass0 rfl (pa_cons (pv 0) (pa_cons pe_int pa_nil))) pe_int) pe_int) (fun _ _ => rfl)))) pss_nil)
      (pss_cons (ps_for PassesOwn.never rfl (pi_range2 (by rfl) B.b_range (pa_cons pe_int (pa_cons pe_int pa_nil))) (pg_name (i := 6) scLaw.nd rfl (.inl rfl))
      (pss_cons (ps_set (i := 8) scLaw.nd rfl (.inl rfl) (pe_ix ix_list (pe_lst (pa_cons (pe_op op_pow pe_int pe_int) (pa_cons pe_int (pa_cons pe_int (pa_cons pe_int pa_nil))))) (pe_op op_sub (pv 6) pe_int) (fun _ _ => rfl)))
      (pss_cons (ps_set (i := 9) scLaw.nd rfl (.inl rfl) (pe_ix ix_list (pe_lst (pa_cons pe_str (pa_cons pe_str pa_nil))) (pe_callTy f_int (by rfl) B.b_int (by decide +kernel) (pa_cons (pe_chain op_le op_le pe_int (pv 7) (pv 8)) pa_nil)) (fun _ _ => rfl)))
      (pss_one (ps_if (pt_cmpR op_ne (pe_cal GLawTried (hr.mono (by decide)) pass0 rfl (pa_cons (pv 6) (pa_cons (pe_lst (pa_cons pe_int pa_nil)) (pa_cons pe_int (pa_cons (pv 7) pa_nil))))) (pv 9) (nomark _)) (pss_one (ps_ret pe_bl)) pss_nil)))))
      (pss_one (ps_ret pe_bl))))))))))))), ?_⟩
  dsimp only [cxOf, Cx.nox, Cx.wish, L2.start]
  kct_strs
  refine c_chain_by (by kd_adr) (by omega) fun cs p H1 hA hl hlt e1 hp h1 => ?_
  have hS1 := e1.seq hS0
  kct_strs
  have hlo := hA.lo
  have hg : gi cs (-1) < 1000000000000 := by
    rw [last_eq hA]
    exact hlt _ (by omega)
  have hC : IsCh cs := (ch_iff _).mpr ⟨hA, by omega⟩
  have f0 := Int.emod_nonneg (cellAt ns 5) (show (1000000000000000000000000000000 : Int) ≠ 0 by decide)
  have f1 := Int.emod_lt_of_pos (cellAt ns 5) (show (0 : Int) < 1000000000000000000000000000000 by decide)
  generalize cellAt ns 5 % 1000000000000000000000000000000 = far at *
  have m0 := Int.emod_nonneg (cellAt ns 6) (show (1000000000000000000000000000000 : Int) ≠ 0 by decide)
  have m1 := Int.emod_lt_of_pos (cellAt ns 6) (show (0 : Int) < 1000000000000000000000000000000 by decide)
  generalize cellAt ns 6 % 1000000000000000000000000000000 = mod' at *
  refine s_cut (fun σ2 H2 => ∃ (m : Int) (last : Str), σ2 = [some (.ref a), some (.ref p), some (.int far), some (.int m), some (.str (Str.ofString "done")), some (.str last), none, none, none, none] ∧ Same H1 H2 ∧ (1 ≤ m ∧ m ≤ 10 ^ 30 → last = Str.ofString "done") ∧ (¬ (1 ≤ m ∧ m ≤ 10 ^ 30) → last = Str.ofString "modulus")) ?_ ?_
  · kpt_turns <;> intro hb
    · kct_strs
      refine n_lst (by show 4 ≤ 100000; decide) fun p2 H2 hp2 e2 h2 => ?_
      have hS2 := e2.seq hS1
      kct_strs
      obtain ⟨j, hj, hj4⟩ : ∃ j : Nat, cellAt ns 7 / 3 % 4 = (j : Int) ∧ j < 4 := ⟨(cellAt ns 7 / 3 % 4).toNat, by omega, by omega⟩
      rw [hj]
      have k : j = 0 ∨ j = 1 ∨ j = 2 ∨ j = 3 := by omega
      rcases k with rfl | rfl | rfl | rfl
      · refine e_ixV (SqL.of h2) rfl ?_
        kct_strs
        exact ⟨_, _, rfl, e2, fun z => by omega, fun _ => rfl⟩
      · refine e_ixV (SqL.of h2) rfl ?_
        kct_strs
        exact ⟨_, _, rfl, e2, fun z => by omega, fun _ => rfl⟩
      · refine e_ixV (SqL.of h2) rfl ?_
        kct_strs
        exact ⟨_, _, rfl, e2, fun z => by omega, fun _ => rfl⟩
      · refine e_ixV (SqL.of h2) rfl ?_
        kct_strs
        exact ⟨_, _, rfl, e2, fun z => by omega, fun _ => rfl⟩
    · kct_strs
      exact ⟨_, _, rfl, Same.refl _, fun _ => rfl, fun z => absurd ⟨by omega, by omega⟩ z⟩
  rintro σ2 H2 ⟨m, last, rfl, e2, hd1, hd2⟩
  have hS2 := e2.seq hS1
  have h2 := e2 _ _ h1
  refine s_cut (fun σ3 H3 => ∃ (p : Addr) (cs : List Int) (due last : Str), σ3 = [some (.ref a), some (.ref p), some (.int far), some (.int m), some (.str due), some (.str last), none, none, none, none] ∧ SqL K H3 a (ns.map V.int) ∧ H3 p = some (.lst (cs.map V.int)) ∧ cs.length ≤ 1000 ∧ (IsCh cs → cs.length ≤ 100 ∧ gi cs (-1) < 10 ^ 50) ∧ DueIs cs m due last) ?_ ?_
  · kpt_turns <;> intro hb
    · kct_strs
      refine c_spoilt14 hS2 h2 hA (by omega) (by omega) fun ds p3 H3 hdl hnc e3 hp3 h3 => ?_
      kct_strs
      exact ⟨p3, ds, _, _, rfl, e3.seq hS2, h3, by omega, fun z => absurd z hnc, ⟨fun z => absurd z hnc, fun _ => rfl, fun z => absurd z hnc, fun z => absurd z hnc, fun _ => rfl⟩⟩
    · kct_strs
      exact ⟨p, cs, _, _, rfl, hS2, h2, by omega, fun _ => ⟨by omega, by omega⟩, ⟨fun _ => rfl, fun z => absurd hC z, fun _ => hd1, fun _ => hd2, fun z => absurd hC z⟩⟩
  clear hd1 hd2 h2 hS2 e2 H2 last hC hg hlo h1 hS1 e1 hp H1 hlt hl hA p cs m0 m1 mod'
  rintro σ3 H3 ⟨p, cs, due, last, rfl, hS3, h3, hl, hg, hD⟩
  kct_strs
  refine s_for1 (x := 6) (k := 6) (fun i σ' H' => ∃ y : Option V, σ' = [some (.ref a), some (.ref p), some (.int far), some (.int m), some (.str due), some (.str last), y, none, none, none] ∧ Same H3 H') rfl (by decide) (fun Qt qt => by kct_strs; exact qt) (by decide) ⟨_, rfl, Same.refl _⟩ ?_ ?_
  · rintro i σ' H4 hi ⟨y, rfl, e4⟩
    kct_strs
    refine s_ifs ?_
    kct_strs
    refine n_list (SqL.of (e4 _ _ h3)) fun p5 H5 hp5 e5 h5 => ?_
    kct_strs
    refine c_triedT h5 hl hg fun t H6 e6 ht => ?_
    kct_strs
    refine n_lst le_2 fun p7 H7 hp7 e7 h7 => ?_
    kct_strs
    refine e_ixV (SqL.of h7) (due_at hi) ?_
    obtain rfl := tried_due hi hD ht
    kct_strs
    exact ⟨_, rfl, e4.trans (e5.trans (e6.trans e7))⟩
  rintro σ4 H4 ⟨y, rfl, e4⟩
  have hS4 := e4.seq hS3
  kct_strs
  refine s_cut (fun σ5 H5 => ∃ n : Int, σ5 = [some (.ref a), some (.ref p), some (.int far), some (.int m), some (.str due), some (.str last), y, some (.int n), none, none]) ?_ ?_
  · kpt_turns <;> intro hb
    · kct_strs
      refine n_lst (by show 6 ≤ 100000; decide) fun p5 H5 hp5 e5 h5 => ?_
      have hS5 := e5.seq hS4
      kct_strs
      obtain ⟨j, hj, hj6⟩ : ∃ j : Nat, cellAt ns 10 / 3 % 6 = (j : Int) ∧ j < 6 := ⟨(cellAt ns 10 / 3 % 6).toNat, by omega, by omega⟩
      refine e_ixI (ns := [0, 0 - far, 1000000000000000000000000000000, 1000000000000000000000000000000 + 1, 1000000000000000000000000000000 + 1 + far, 61 + far]) (SqL.of h5) (by show -(6 : Int) ≤ _; omega) (by show _ < (6 : Int); omega) ?_
      kct_strs
      exact ⟨_, rfl⟩
    · kct_strs
      exact ⟨_, rfl⟩
  rintro σ5 H5 ⟨n, rfl⟩
  kct_strs
  refine s_for2 (a := 6) (b := 10) (k := 4) (fun i σ' H' => ∃ y z u : Option V, σ' = [some (.ref a), some (.ref p), some (.int far), some (.int m), some (.str due), some (.str last), y, some (.int n), z, u]) rfl (fun Qt qt => by kct_strs; exact qt) (by decide) ⟨_, _, _, rfl⟩ ?_ ?_
  · rintro i σ' H6 hi ⟨y2, z2, u2, rfl⟩
    obtain ⟨most, hm, hok⟩ := most_at i hi
    kct_strs
    refine n_lst (by show 4 ≤ 100000; decide) fun p7 H7 hp7 e7 h7 => ?_
    kct_strs
    refine e_ixV (SqL.of h7) hm ?_
    kct_strs
    refine n_lst le_2 fun p8 H8 hp8 e8 h8 => ?_
    kct_strs
    refine e_chain ?_
    kct_strs
    refine ite2 (fun hc => ?_) (fun hc => ?_)
    all_goals kct_strs
    all_goals refine e_ixV (SqL.of h8) (want_at _) ?_
    all_goals kct_strs
    all_goals refine s_ifs ?_
    all_goals kct_strs
    all_goals refine n_lst le_1 fun p9 H9 hp9 e9 h9 => ?_
    all_goals kct_strs
    all_goals refine c_triedT (ns := [1]) h9 (by decide) (fun _ => ⟨by decide, by decide⟩) fun t H10 e10 ht => ?_
    · have hc' := of_decide_eq_true hc
      obtain rfl := tried_want (b := decide (n ≤ most)) ((decide_eq_true_iff ..).trans ⟨fun z => (hok n).mpr ⟨hc', z⟩, fun z => ((hok n).mp z).2⟩) ht
      kct_strs
      exact ⟨_, _, _, rfl⟩
    · obtain rfl := tried_want (b := false) ⟨(fun z => nomatch z), fun z => absurd (decide_eq_true ((hok n).mp z).1) hc⟩ ht
      kct_strs
      exact ⟨_, _, _, rfl⟩
  rintro σ6 H6 ⟨y2, z2, u2, rfl⟩
  kct_strs
  exact q _
end

/-! ## The end: what the top has written -/
theorem all_mk {l : PySem.W.OpenLaw} {w : World} {K : PySem.W.Frag} {h : Heap} {mg : Str → Option Value} {fa : Addr} (X : K.In h) (G : h.Ns mainGlobals mg) (hfa : mg "law" = some (.ref fa))
    {f0 : Addr} {od0 an0 : Option Addr} {sl0 : Array (Option Value)} {oc0 kV0 dc0 pm0 cd0 ct0 : Value}
    {f1 : Addr} {od1 an1 : Option Addr} {sl1 : Array (Option Value)} {oc1 kV1 dc1 pm1 cd1 ct1 : Value}
    {f2 : Addr} {od2 an2 : Option Addr} {sl2 : Array (Option Value)} {oc2 kV2 dc2 pm2 cd2 ct2 : Value}
    {f3 : Addr} {od3 an3 : Option Addr} {sl3 : Array (Option Value)} {oc3 kV3 dc3 pm3 cd3 ct3 : Value}
    {f4 : Addr} {od4 an4 : Option Addr} {sl4 : Array (Option Value)} {oc4 kV4 dc4 pm4 cd4 ct4 : Value}
    {f5 : Addr} {od5 an5 : Option Addr} {sl5 : Array (Option Value)} {oc5 kV5 dc5 pm5 cd5 ct5 : Value}
    {f6 : Addr} {od6 an6 : Option Addr} {sl6 : Array (Option Value)} {oc6 kV6 dc6 pm6 cd6 ct6 : Value}
    {f7 : Addr} {od7 an7 : Option Addr} {sl7 : Array (Option Value)} {oc7 kV7 dc7 pm7 cd7 ct7 : Value}
    {f8 : Addr} {od8 an8 : Option Addr} {sl8 : Array (Option Value)} {oc8 kV8 dc8 pm8 cd8 ct8 : Value}
    {f9 : Addr} {od9 an9 : Option Addr} {sl9 : Array (Option Value)} {oc9 kV9 dc9 pm9 cd9 ct9 : Value}
    {f10 : Addr} {od10 an10 : Option Addr} {sl10 : Array (Option Value)} {oc10 kV10 dc10 pm10 cd10 ct10 : Value}
    {f11 : Addr} {od11 an11 : Option Addr} {sl11 : Array (Option Value)} {oc11 kV11 dc11 pm11 cd11 ct11 : Value}
    {f12 : Addr} {od12 an12 : Option Addr} {sl12 : Array (Option Value)} {oc12 kV12 dc12 pm12 cd12 ct12 : Value}
    {f13 : Addr} {od13 an13 : Option Addr} {sl13 : Array (Option Value)} {oc13 kV13 dc13 pm13 cd13 ct13 : Value}
    {f14 : Addr} {od14 an14 : Option Addr} {sl14 : Array (Option Value)} {oc14 kV14 dc14 pm14 cd14 ct14 : Value}
    {f15 : Addr} {od15 an15 : Option Addr} {sl15 : Array (Option Value)} {oc15 kV15 dc15 pm15 cd15 ct15 : Value}
    {f16 : Addr} {od16 an16 : Option Addr} {sl16 : Array (Option Value)} {oc16 kV16 dc16 pm16 cd16 ct16 : Value}
    {f17 : Addr} {od17 an17 : Option Addr} {sl17 : Array (Option Value)} {oc17 kV17 dc17 pm17 cd17 ct17 : Value}
    {f18 : Addr} {od18 an18 : Option Addr} {sl18 : Array (Option Value)} {oc18 kV18 dc18 pm18 cd18 ct18 : Value}
    {f19 : Addr} {od19 an19 : Option Addr} {sl19 : Array (Option Value)} {oc19 kV19 dc19 pm19 cd19 ct19 : Value}
    {f20 : Addr} {od20 an20 : Option Addr} {sl20 : Array (Option Value)} {oc20 kV20 dc20 pm20 cd20 ct20 : Value}
    {f21 : Addr} {od21 an21 : Option Addr} {sl21 : Array (Option Value)} {oc21 kV21 dc21 pm21 cd21 ct21 : Value}
    {f22 : Addr} {od22 an22 : Option Addr} {sl22 : Array (Option Value)} {oc22 kV22 dc22 pm22 cd22 ct22 : Value}
    {f23 : Addr} {od23 an23 : Option Addr} {sl23 : Array (Option Value)} {oc23 kV23 dc23 pm23 cd23 ct23 : Value}
    {f24 : Addr} {od24 an24 : Option Addr} {sl24 : Array (Option Value)} {oc24 kV24 dc24 pm24 cd24 ct24 : Value}
    {f25 : Addr} {od25 an25 : Option Addr} {sl25 : Array (Option Value)} {oc25 kV25 dc25 pm25 cd25 ct25 : Value}
    {f26 : Addr} {od26 an26 : Option Addr} {sl26 : Array (Option Value)} {oc26 kV26 dc26 pm26 cd26 ct26 : Value}
    {t_MOST_chains : Tok}
    {t_GREATEST_chains : Tok}
    {t_GREATEST_powers : Tok}
    {t_MOST_shortest : Tok}
    {t_MOST_COUNTED : Tok}
    {eD0 eD1 eD2 eD3 eD4 eS : Addr}
    (a0 : PySem.W.nsIn K mainGlobals "link_of" = some (some (.ref f0))) (l0 : K.lookup f0 = some ⟨oc0, od0, .func (PySem.W.fnOf "link_of" "link_of" (defArgs sLinkOf) (defBody sLinkOf) (defScope sLinkOf) .none kV0 dc0 pm0 an0 cd0 ct0), sl0⟩) (c0 : PySem.W.codeIn K cd0 "link_of" = true) (k0 : PySem.W.keepIn K (.ref f0) = true)
    (a1 : PySem.W.nsIn K mainGlobals "is_chain" = some (some (.ref f1))) (l1 : K.lookup f1 = some ⟨oc1, od1, .func (PySem.W.fnOf "is_chain" "is_chain" (defArgs sIsChain) (defBody sIsChain) (defScope sIsChain) .none kV1 dc1 pm1 an1 cd1 ct1), sl1⟩) (c1 : PySem.W.codeIn K cd1 "is_chain" = true) (k1 : PySem.W.keepIn K (.ref f1) = true)
    (a2 : PySem.W.nsIn K mainGlobals "asked_chain" = some (some (.ref f2))) (l2 : K.lookup f2 = some ⟨oc2, od2, .func (PySem.W.fnOf "asked_chain" "asked_chain" (defArgs sAskedChain) (defBody sAskedChain) (defScope sAskedChain) .none kV2 dc2 pm2 an2 cd2 ct2), sl2⟩) (c2 : PySem.W.codeIn K cd2 "asked_chain" = true) (k2 : PySem.W.keepIn K (.ref f2) = true)
    (a3 : PySem.W.nsIn K mainGlobals "links_by" = some (some (.ref f3))) (l3 : K.lookup f3 = some ⟨oc3, od3, .func (PySem.W.fnOf "links_by" "links_by" (defArgs sLinksBy) (defBody sLinksBy) (defScope sLinksBy) .none kV3 dc3 pm3 an3 cd3 ct3), sl3⟩) (c3 : PySem.W.codeIn K cd3 "links_by" = true) (k3 : PySem.W.keepIn K (.ref f3) = true)
    (a4 : PySem.W.nsIn K mainGlobals "links" = some (some (.ref f4))) (l4 : K.lookup f4 = some ⟨oc4, od4, .func (PySem.W.fnOf "links" "links" (defArgs sLinks) (defBody sLinks) (defScope sLinks) .none kV4 dc4 pm4 an4 cd4 ct4), sl4⟩) (c4 : PySem.W.codeIn K cd4 "links" = true) (k4 : PySem.W.keepIn K (.ref f4) = true)
    (a5 : PySem.W.nsIn K mainGlobals "thinned" = some (some (.ref f5))) (l5 : K.lookup f5 = some ⟨oc5, od5, .func (PySem.W.fnOf "thinned" "thinned" (defArgs sThinned) (defBody sThinned) (defScope sThinned) .none kV5 dc5 pm5 an5 cd5 ct5), sl5⟩) (c5 : PySem.W.codeIn K cd5 "thinned" = true) (k5 : PySem.W.keepIn K (.ref f5) = true)
    (a6 : PySem.W.nsIn K mainGlobals "joined" = some (some (.ref f6))) (l6 : K.lookup f6 = some ⟨oc6, od6, .func (PySem.W.fnOf "joined" "joined" (defArgs sJoined) (defBody sJoined) (defScope sJoined) .none kV6 dc6 pm6 an6 cd6 ct6), sl6⟩) (c6 : PySem.W.codeIn K cd6 "joined" = true) (k6 : PySem.W.keepIn K (.ref f6) = true)
    (a7 : PySem.W.nsIn K mainGlobals "doubling" = some (some (.ref f7))) (l7 : K.lookup f7 = some ⟨oc7, od7, .func (PySem.W.fnOf "doubling" "doubling" (defArgs sDoubling) (defBody sDoubling) (defScope sDoubling) .none kV7 dc7 pm7 an7 cd7 ct7), sl7⟩) (c7 : PySem.W.codeIn K cd7 "doubling" = true) (k7 : PySem.W.keepIn K (.ref f7) = true)
    (a8 : PySem.W.nsIn K mainGlobals "shown" = some (some (.ref f8))) (l8 : K.lookup f8 = some ⟨oc8, od8, .func (PySem.W.fnOf "shown" "shown" (defArgs sShown) (defBody sShown) (defScope sShown) .none kV8 dc8 pm8 an8 cd8 ct8), sl8⟩) (c8 : PySem.W.codeIn K cd8 "shown" = true) (k8 : PySem.W.keepIn K (.ref f8) = true)
    (a9 : PySem.W.nsIn K mainGlobals "powers" = some (some (.ref f9))) (l9 : K.lookup f9 = some ⟨oc9, od9, .func (PySem.W.fnOf "powers" "powers" (defArgs sPowers) (defBody sPowers) (defScope sPowers) .none kV9 dc9 pm9 an9 cd9 ct9), sl9⟩) (c9 : PySem.W.codeIn K cd9 "powers" = true) (k9 : PySem.W.keepIn K (.ref f9) = true)
    (a10 : PySem.W.nsIn K mainGlobals "asked_number" = some (some (.ref f10))) (l10 : K.lookup f10 = some ⟨oc10, od10, .func (PySem.W.fnOf "asked_number" "asked_number" (defArgs sAskedNumber) (defBody sAskedNumber) (defScope sAskedNumber) .none kV10 dc10 pm10 an10 cd10 ct10), sl10⟩) (c10 : PySem.W.codeIn K cd10 "asked_number" = true) (k10 : PySem.W.keepIn K (.ref f10) = true)
    (a11 : PySem.W.nsIn K mainGlobals "nexts" = some (some (.ref f11))) (l11 : K.lookup f11 = some ⟨oc11, od11, .func (PySem.W.fnOf "nexts" "nexts" (defArgs sNexts) (defBody sNexts) (defScope sNexts) .none kV11 dc11 pm11 an11 cd11 ct11), sl11⟩) (c11 : PySem.W.codeIn K cd11 "nexts" = true) (k11 : PySem.W.keepIn K (.ref f11) = true)
    (a12 : PySem.W.nsIn K mainGlobals "first_found" = some (some (.ref f12))) (l12 : K.lookup f12 = some ⟨oc12, od12, .func (PySem.W.fnOf "first_found" "first_found" (defArgs sFirstFound) (defBody sFirstFound) (defScope sFirstFound) .none kV12 dc12 pm12 an12 cd12 ct12), sl12⟩) (c12 : PySem.W.codeIn K cd12 "first_found" = true) (k12 : PySem.W.keepIn K (.ref f12) = true)
    (a13 : PySem.W.nsIn K mainGlobals "counted" = some (some (.ref f13))) (l13 : K.lookup f13 = some ⟨oc13, od13, .func (PySem.W.fnOf "counted" "counted" (defArgs sCounted) (defBody sCounted) (defScope sCounted) .none kV13 dc13 pm13 an13 cd13 ct13), sl13⟩) (c13 : PySem.W.codeIn K cd13 "counted" = true) (k13 : PySem.W.keepIn K (.ref f13) = true)
    (a14 : PySem.W.nsIn K mainGlobals "shortest_by" = some (some (.ref f14))) (l14 : K.lookup f14 = some ⟨oc14, od14, .func (PySem.W.fnOf "shortest_by" "shortest_by" (defArgs sShortestBy) (defBody sShortestBy) (defScope sShortestBy) .none kV14 dc14 pm14 an14 cd14 ct14), sl14⟩) (c14 : PySem.W.codeIn K cd14 "shortest_by" = true) (k14 : PySem.W.keepIn K (.ref f14) = true)
    (a15 : PySem.W.nsIn K mainGlobals "shortest" = some (some (.ref f15))) (l15 : K.lookup f15 = some ⟨oc15, od15, .func (PySem.W.fnOf "shortest" "shortest" (defArgs sShortest) (defBody sShortest) (defScope sShortest) .none kV15 dc15 pm15 an15 cd15 ct15), sl15⟩) (c15 : PySem.W.codeIn K cd15 "shortest" = true) (k15 : PySem.W.keepIn K (.ref f15) = true)
    (a16 : PySem.W.nsIn K mainGlobals "least" = some (some (.ref f16))) (l16 : K.lookup f16 = some ⟨oc16, od16, .func (PySem.W.fnOf "least" "least" (defArgs sLeast) (defBody sLeast) (defScope sLeast) .none kV16 dc16 pm16 an16 cd16 ct16), sl16⟩) (c16 : PySem.W.codeIn K cd16 "least" = true) (k16 : PySem.W.keepIn K (.ref f16) = true)
    (a17 : PySem.W.nsIn K mainGlobals "shortest_many" = some (some (.ref f17))) (l17 : K.lookup f17 = some ⟨oc17, od17, .func (PySem.W.fnOf "shortest_many" "shortest_many" (defArgs sShortestMany) (defBody sShortestMany) (defScope sShortestMany) .none kV17 dc17 pm17 an17 cd17 ct17), sl17⟩) (c17 : PySem.W.codeIn K cd17 "shortest_many" = true) (k17 : PySem.W.keepIn K (.ref f17) = true)
    (a18 : PySem.W.nsIn K mainGlobals "_law_cell_at" = some (some (.ref f18))) (l18 : K.lookup f18 = some ⟨oc18, od18, .func (PySem.W.fnOf "_law_cell_at" "_law_cell_at" (defArgs sLawCellAt) (defBody sLawCellAt) (defScope sLawCellAt) .none kV18 dc18 pm18 an18 cd18 ct18), sl18⟩) (c18 : PySem.W.codeIn K cd18 "_law_cell_at" = true) (k18 : PySem.W.keepIn K (.ref f18) = true)
    (a19 : PySem.W.nsIn K mainGlobals "_law_draw" = some (some (.ref f19))) (l19 : K.lookup f19 = some ⟨oc19, od19, .func (PySem.W.fnOf "_law_draw" "_law_draw" (defArgs sLawDraw) (defBody sLawDraw) (defScope sLawDraw) .none kV19 dc19 pm19 an19 cd19 ct19), sl19⟩) (c19 : PySem.W.codeIn K cd19 "_law_draw" = true) (k19 : PySem.W.keepIn K (.ref f19) = true)
    (a20 : PySem.W.nsIn K mainGlobals "_law_chain_by" = some (some (.ref f20))) (l20 : K.lookup f20 = some ⟨oc20, od20, .func (PySem.W.fnOf "_law_chain_by" "_law_chain_by" (defArgs sLawChainBy) (defBody sLawChainBy) (defScope sLawChainBy) .none kV20 dc20 pm20 an20 cd20 ct20), sl20⟩) (c20 : PySem.W.codeIn K cd20 "_law_chain_by" = true) (k20 : PySem.W.keepIn K (.ref f20) = true)
    (a21 : PySem.W.nsIn K mainGlobals "_law_word_of" = some (some (.ref f21))) (l21 : K.lookup f21 = some ⟨oc21, od21, .func (PySem.W.fnOf "_law_word_of" "_law_word_of" (defArgs sLawWordOf) (defBody sLawWordOf) (defScope sLawWordOf) .none kV21 dc21 pm21 an21 cd21 ct21), sl21⟩) (c21 : PySem.W.codeIn K cd21 "_law_word_of" = true) (k21 : PySem.W.keepIn K (.ref f21) = true)
    (a22 : PySem.W.nsIn K mainGlobals "_law_of_chains" = some (some (.ref f22))) (l22 : K.lookup f22 = some ⟨oc22, od22, .func (PySem.W.fnOf "_law_of_chains" "_law_of_chains" (defArgs sLawOfChains) (defBody sLawOfChains) (defScope sLawOfChains) .none kV22 dc22 pm22 an22 cd22 ct22), sl22⟩) (c22 : PySem.W.codeIn K cd22 "_law_of_chains" = true) (k22 : PySem.W.keepIn K (.ref f22) = true)
    (a23 : PySem.W.nsIn K mainGlobals "_law_of_numbers" = some (some (.ref f23))) (l23 : K.lookup f23 = some ⟨oc23, od23, .func (PySem.W.fnOf "_law_of_numbers" "_law_of_numbers" (defArgs sLawOfNumbers) (defBody sLawOfNumbers) (defScope sLawOfNumbers) .none kV23 dc23 pm23 an23 cd23 ct23), sl23⟩) (c23 : PySem.W.codeIn K cd23 "_law_of_numbers" = true) (k23 : PySem.W.keepIn K (.ref f23) = true)
    (a24 : PySem.W.nsIn K mainGlobals "_law_tried" = some (some (.ref f24))) (l24 : K.lookup f24 = some ⟨oc24, od24, .func (PySem.W.fnOf "_law_tried" "_law_tried" (defArgs sLawTried) (defBody sLawTried) (defScope sLawTried) .none kV24 dc24 pm24 an24 cd24 ct24), sl24⟩) (c24 : PySem.W.codeIn K cd24 "_law_tried" = true) (k24 : PySem.W.keepIn K (.ref f24) = true)
    (a25 : PySem.W.nsIn K mainGlobals "_law_spoilt" = some (some (.ref f25))) (l25 : K.lookup f25 = some ⟨oc25, od25, .func (PySem.W.fnOf "_law_spoilt" "_law_spoilt" (defArgs sLawSpoilt) (defBody sLawSpoilt) (defScope sLawSpoilt) .none kV25 dc25 pm25 an25 cd25 ct25), sl25⟩) (c25 : PySem.W.codeIn K cd25 "_law_spoilt" = true) (k25 : PySem.W.keepIn K (.ref f25) = true)
    (a26 : PySem.W.nsIn K mainGlobals "law" = some (some (.ref f26))) (l26 : K.lookup f26 = some ⟨oc26, od26, .func (PySem.W.fnOf "law" "law" (defArgs sLaw) (defBody sLaw) (defScope sLaw) .none kV26 dc26 pm26 an26 cd26 ct26), sl26⟩) (c26 : PySem.W.codeIn K cd26 "law" = true) (k26 : PySem.W.keepIn K (.ref f26) = true)
    (z_len : PySem.W.nsIn K mainGlobals "len" = some none)
    (z_range : PySem.W.nsIn K mainGlobals "range" = some none)
    (z_reversed : PySem.W.nsIn K mainGlobals "reversed" = some none)
    (z_list : PySem.W.nsIn K mainGlobals "list" = some none)
    (z_int : PySem.W.nsIn K mainGlobals "int" = some none)
    (z_str : PySem.W.nsIn K mainGlobals "str" = some none)
    (z_sum : PySem.W.nsIn K mainGlobals "sum" = some none)
    (z_sorted : PySem.W.nsIn K mainGlobals "sorted" = some none)
    (z_isinstance : PySem.W.nsIn K mainGlobals "isinstance" = some none)
    (z_bool : PySem.W.nsIn K mainGlobals "bool" = some none)
    (z_tuple : PySem.W.nsIn K mainGlobals "tuple" = some none)
    (z_min : PySem.W.nsIn K mainGlobals "min" = some none)
    (z_max : PySem.W.nsIn K mainGlobals "max" = some none)
    (z_all : PySem.W.nsIn K mainGlobals "all" = some none)
    (z_ValueError : PySem.W.nsIn K mainGlobals "ValueError" = some none)
    (g_MOST_chains : PySem.W.nsIn K mainGlobals "MOST_chains" = some (some (.int 250 t_MOST_chains)))
    (g_GREATEST_chains : PySem.W.nsIn K mainGlobals "GREATEST_chains" = some (some (.int 1000000000000000000000000000000 t_GREATEST_chains)))
    (g_GREATEST_powers : PySem.W.nsIn K mainGlobals "GREATEST_powers" = some (some (.int 1000000000000000000000000000000 t_GREATEST_powers)))
    (g_MOST_shortest : PySem.W.nsIn K mainGlobals "MOST_shortest" = some (some (.int 60 t_MOST_shortest)))
    (g_MOST_COUNTED : PySem.W.nsIn K mainGlobals "MOST_COUNTED" = some (some (.int 40 t_MOST_COUNTED)))
    (xg0 : PySem.W.nsIn K mainGlobals "NoChain" = some (some (.ref eD0)))
    (xg1 : PySem.W.nsIn K mainGlobals "NoModulus" = some (some (.ref eD1)))
    (xg2 : PySem.W.nsIn K mainGlobals "NoNumber" = some (some (.ref eD2)))
    (xg3 : PySem.W.nsIn K mainGlobals "TooLong" = some (some (.ref eD3)))
    (xg4 : PySem.W.nsIn K mainGlobals "NoNote" = some (some (.ref eD4)))
    (xgS : PySem.W.nsIn K mainGlobals "SumError" = some (some (.ref eS)))
    (xbS : PySem.W.subIn K (.ref eS) (.type "BaseException") = some true)
    (xdS : PySem.W.hasDictIn K eS = true)
    (xtS : PySem.W.typeIn K (.ref eS) = some (.type "type"))
    (xn : PySem.W.specialIn K (.builtin "object.__class__") "__get__" = some (some (.builtin "getset_descriptor.__get__")))
    (xt : PySem.W.takesIn K (.builtin "object.__class__") = some true)
    (xx0 : PySem.W.excIn K eD0 [.type "ValueError", .type "Exception", .type "BaseException", .type "object"] "ValueError.__new__" = true)
    (xk0 : PySem.W.keepIn K (.ref eD0) = true)
    (xb0 : PySem.W.subIn K (.ref eD0) (.type "BaseException") = some true)
    (xt0 : PySem.W.typeIn K (.ref eD0) = some (.type "type"))
    (xe0 : PySem.W.subIn K (.ref eD0) (.ref eS) = some true)
    (xhg0 : PySem.W.findIn K (.ref eD0) "__getattribute__" = some (some (.builtin "BaseException.__getattribute__")))
    (xhk0 : PySem.W.findIn K (.ref eD0) "__getattr__" = some none)
    (xhd0 : PySem.W.hasDictIn K eD0 = true)
    (xha0 : PySem.W.findIn K (.ref eD0) "__class__" = some (some (.builtin "object.__class__")))
    (xhm0 : PySem.W.mroIn K eD0 (.type "object") = some true)
    (xv0 : PySem.W.kitOne K (.ref eD0) (.type "ValueError") = some true)
    (xq00 : PySem.W.kitOne K (.ref eD0) (.ref eD0) = some true)
    (xq01 : PySem.W.kitOne K (.ref eD0) (.ref eD1) = some false)
    (xq02 : PySem.W.kitOne K (.ref eD0) (.ref eD2) = some false)
    (xq03 : PySem.W.kitOne K (.ref eD0) (.ref eD3) = some false)
    (xq04 : PySem.W.kitOne K (.ref eD0) (.ref eD4) = some false)
    (xx1 : PySem.W.excIn K eD1 [.type "ValueError", .type "Exception", .type "BaseException", .type "object"] "ValueError.__new__" = true)
    (xk1 : PySem.W.keepIn K (.ref eD1) = true)
    (xb1 : PySem.W.subIn K (.ref eD1) (.type "BaseException") = some true)
    (xt1 : PySem.W.typeIn K (.ref eD1) = some (.type "type"))
    (xe1 : PySem.W.subIn K (.ref eD1) (.ref eS) = some true)
    (xhg1 : PySem.W.findIn K (.ref eD1) "__getattribute__" = some (some (.builtin "BaseException.__getattribute__")))
    (xhk1 : PySem.W.findIn K (.ref eD1) "__getattr__" = some none)
    (xhd1 : PySem.W.hasDictIn K eD1 = true)
    (xha1 : PySem.W.findIn K (.ref eD1) "__class__" = some (some (.builtin "object.__class__")))
    (xhm1 : PySem.W.mroIn K eD1 (.type "object") = some true)
    (xv1 : PySem.W.kitOne K (.ref eD1) (.type "ValueError") = some true)
    (xq10 : PySem.W.kitOne K (.ref eD1) (.ref eD0) = some false)
    (xq11 : PySem.W.kitOne K (.ref eD1) (.ref eD1) = some true)
    (xq12 : PySem.W.kitOne K (.ref eD1) (.ref eD2) = some false)
    (xq13 : PySem.W.kitOne K (.ref eD1) (.ref eD3) = some false)
    (xq14 : PySem.W.kitOne K (.ref eD1) (.ref eD4) = some false)
    (xx2 : PySem.W.excIn K eD2 [.type "ValueError", .type "Exception", .type "BaseException", .type "object"] "ValueError.__new__" = true)
    (xk2 : PySem.W.keepIn K (.ref eD2) = true)
    (xb2 : PySem.W.subIn K (.ref eD2) (.type "BaseException") = some true)
    (xt2 : PySem.W.typeIn K (.ref eD2) = some (.type "type"))
    (xe2 : PySem.W.subIn K (.ref eD2) (.ref eS) = some true)
    (xhg2 : PySem.W.findIn K (.ref eD2) "__getattribute__" = some (some (.builtin "BaseException.__getattribute__")))
    (xhk2 : PySem.W.findIn K (.ref eD2) "__getattr__" = some none)
    (xhd2 : PySem.W.hasDictIn K eD2 = true)
    (xha2 : PySem.W.findIn K (.ref eD2) "__class__" = some (some (.builtin "object.__class__")))
    (xhm2 : PySem.W.mroIn K eD2 (.type "object") = some true)
    (xv2 : PySem.W.kitOne K (.ref eD2) (.type "ValueError") = some true)
    (xq20 : PySem.W.kitOne K (.ref eD2) (.ref eD0) = some false)
    (xq21 : PySem.W.kitOne K (.ref eD2) (.ref eD1) = some false)
    (xq22 : PySem.W.kitOne K (.ref eD2) (.ref eD2) = some true)
    (xq23 : PySem.W.kitOne K (.ref eD2) (.ref eD3) = some false)
    (xq24 : PySem.W.kitOne K (.ref eD2) (.ref eD4) = some false)
    : ∃ fd : FuncData, (∀ (s : Shared) (v : Value), BindsTo s fd ⟨[v], []⟩ [("script", v)]) ∧ ∀ base : Heap, K.In base → base.Ns mainGlobals mg → FnOk l.prog w K mg base CX0 15 fa fd ["script"] (spLaw K) := by
  have e := hfa.symm.trans (PySem.W.mg_of X G a26)
  cases e
  have B : Nb mg := { b_len := PySem.W.mg_none_of X G z_len, b_range := PySem.W.mg_none_of X G z_range, b_reversed := PySem.W.mg_none_of X G z_reversed, b_list := PySem.W.mg_none_of X G z_list, b_int := PySem.W.mg_none_of X G z_int, b_str := PySem.W.mg_none_of X G z_str, b_sum := PySem.W.mg_none_of X G z_sum, b_sorted := PySem.W.mg_none_of X G z_sorted, b_isinstance := PySem.W.mg_none_of X G z_isinstance, b_bool := PySem.W.mg_none_of X G z_bool, b_tuple := PySem.W.mg_none_of X G z_tuple, b_min := PySem.W.mg_none_of X G z_min, b_max := PySem.W.mg_none_of X G z_max, b_all := PySem.W.mg_none_of X G z_all, b_ValueError := PySem.W.mg_none_of X G z_ValueError, c_MOST_chains := ⟨_, PySem.W.mg_of X G g_MOST_chains⟩, c_GREATEST_chains := ⟨_, PySem.W.mg_of X G g_GREATEST_chains⟩, c_GREATEST_powers := ⟨_, PySem.W.mg_of X G g_GREATEST_powers⟩, c_MOST_shortest := ⟨_, PySem.W.mg_of X G g_MOST_shortest⟩, c_MOST_COUNTED := ⟨_, PySem.W.mg_of X G g_MOST_COUNTED⟩ }
  have F0 := fun_mk (st := sLinkOf) l0 c0 k0
  have OLinkOf : Own K mg "link_of" sLinkOf ["chain", "place"] := Own.mk' F0 (PySem.W.mg_of X G a0) (F0.binds (ps := ["chain", "place"]) fun _ _ _ _ _ _ us hl => match us, hl with | [_, _], _ => rfl)
  have F1 := fun_mk (st := sIsChain) l1 c1 k1
  have OIsChain : Own K mg "is_chain" sIsChain ["chain"] := Own.mk' F1 (PySem.W.mg_of X G a1) (F1.binds (ps := ["chain"]) fun _ _ _ _ _ _ us hl => match us, hl with | [_], _ => rfl)
  have F2 := fun_mk (st := sAskedChain) l2 c2 k2
  have OAskedChain : Own K mg "asked_chain" sAskedChain ["chain"] := Own.mk' F2 (PySem.W.mg_of X G a2) (F2.binds (ps := ["chain"]) fun _ _ _ _ _ _ us hl => match us, hl with | [_], _ => rfl)
  have F3 := fun_mk (st := sLinksBy) l3 c3 k3
  have OLinksBy : Own K mg "links_by" sLinksBy ["chain"] := Own.mk' F3 (PySem.W.mg_of X G a3) (F3.binds (ps := ["chain"]) fun _ _ _ _ _ _ us hl => match us, hl with | [_], _ => rfl)
  have F4 := fun_mk (st := sLinks) l4 c4 k4
  have OLinks : Own K mg "links" sLinks ["chain"] := Own.mk' F4 (PySem.W.mg_of X G a4) (F4.binds (ps := ["chain"]) fun _ _ _ _ _ _ us hl => match us, hl with | [_], _ => rfl)
  have F5 := fun_mk (st := sThinned) l5 c5 k5
  have OThinned : Own K mg "thinned" sThinned ["chain"] := Own.mk' F5 (PySem.W.mg_of X G a5) (F5.binds (ps := ["chain"]) fun _ _ _ _ _ _ us hl => match us, hl with | [_], _ => rfl)
  have F6 := fun_mk (st := sJoined) l6 c6 k6
  have OJoined : Own K mg "joined" sJoined ["one", "other"] := Own.mk' F6 (PySem.W.mg_of X G a6) (F6.binds (ps := ["one", "other"]) fun _ _ _ _ _ _ us hl => match us, hl with | [_, _], _ => rfl)
  have F7 := fun_mk (st := sDoubling) l7 c7 k7
  have ODoubling : Own K mg "doubling" sDoubling ["number"] := Own.mk' F7 (PySem.W.mg_of X G a7) (F7.binds (ps := ["number"]) fun _ _ _ _ _ _ us hl => match us, hl with | [_], _ => rfl)
  have F8 := fun_mk (st := sShown) l8 c8 k8
  have OShown : Own K mg "shown" sShown ["chain"] := Own.mk' F8 (PySem.W.mg_of X G a8) (F8.binds (ps := ["chain"]) fun _ _ _ _ _ _ us hl => match us, hl with | [_], _ => rfl)
  have F9 := fun_mk (st := sPowers) l9 c9 k9
  have OPowers : Own K mg "powers" sPowers ["chain", "base", "modulus"] := Own.mk' F9 (PySem.W.mg_of X G a9) (F9.binds (ps := ["chain", "base", "modulus"]) fun _ _ _ _ _ _ us hl => match us, hl with | [_, _, _], _ => rfl)
  have F10 := fun_mk (st := sAskedNumber) l10 c10 k10
  have OAskedNumber : Own K mg "asked_number" sAskedNumber ["number", "most"] := Own.mk' F10 (PySem.W.mg_of X G a10) (F10.binds (ps := ["number", "most"]) fun _ _ _ _ _ _ us hl => match us, hl with | [_, _], _ => rfl)
  have F11 := fun_mk (st := sNexts) l11 c11 k11
  have ONexts : Own K mg "nexts" sNexts ["chain", "number", "steps"] := Own.mk' F11 (PySem.W.mg_of X G a11) (F11.binds (ps := ["chain", "number", "steps"]) fun _ _ _ _ _ _ us hl => match us, hl with | [_, _, _], _ => rfl)
  have F12 := fun_mk (st := sFirstFound) l12 c12 k12
  have OFirstFound : Own K mg "first_found" sFirstFound ["chain", "number", "steps"] := Own.mk' F12 (PySem.W.mg_of X G a12) (F12.binds (ps := ["chain", "number", "steps"]) fun _ _ _ _ _ _ us hl => match us, hl with | [_, _, _], _ => rfl)
  have F13 := fun_mk (st := sCounted) l13 c13 k13
  have OCounted : Own K mg "counted" sCounted ["chain", "number", "steps"] := Own.mk' F13 (PySem.W.mg_of X G a13) (F13.binds (ps := ["chain", "number", "steps"]) fun _ _ _ _ _ _ us hl => match us, hl with | [_, _, _], _ => rfl)
  have F14 := fun_mk (st := sShortestBy) l14 c14 k14
  have OShortestBy : Own K mg "shortest_by" sShortestBy ["number"] := Own.mk' F14 (PySem.W.mg_of X G a14) (F14.binds (ps := ["number"]) fun _ _ _ _ _ _ us hl => match us, hl with | [_], _ => rfl)
  have F15 := fun_mk (st := sShortest) l15 c15 k15
  have OShortest : Own K mg "shortest" sShortest ["number"] := Own.mk' F15 (PySem.W.mg_of X G a15) (F15.binds (ps := ["number"]) fun _ _ _ _ _ _ us hl => match us, hl with | [_], _ => rfl)
  have F16 := fun_mk (st := sLeast) l16 c16 k16
  have OLeast : Own K mg "least" sLeast ["number"] := Own.mk' F16 (PySem.W.mg_of X G a16) (F16.binds (ps := ["number"]) fun _ _ _ _ _ _ us hl => match us, hl with | [_], _ => rfl)
  have F17 := fun_mk (st := sShortestMany) l17 c17 k17
  have OShortestMany : Own K mg "shortest_many" sShortestMany ["number"] := Own.mk' F17 (PySem.W.mg_of X G a17) (F17.binds (ps := ["number"]) fun _ _ _ _ _ _ us hl => match us, hl with | [_], _ => rfl)
  have F18 := fun_mk (st := sLawCellAt) l18 c18 k18
  have OLawCellAt : Own K mg "_law_cell_at" sLawCellAt ["script", "k"] := Own.mk' F18 (PySem.W.mg_of X G a18) (F18.binds (ps := ["script", "k"]) fun _ _ _ _ _ _ us hl => match us, hl with | [_, _], _ => rfl)
  have F19 := fun_mk (st := sLawDraw) l19 c19 k19
  have OLawDraw : Own K mg "_law_draw" sLawDraw ["cell", "k", "bound"] := Own.mk' F19 (PySem.W.mg_of X G a19) (F19.binds (ps := ["cell", "k", "bound"]) fun _ _ _ _ _ _ us hl => match us, hl with | [_, _, _], _ => rfl)
  have F20 := fun_mk (st := sLawChainBy) l20 c20 k20
  have OLawChainBy : Own K mg "_law_chain_by" sLawChainBy ["script", "first", "most"] := Own.mk' F20 (PySem.W.mg_of X G a20) (F20.binds (ps := ["script", "first", "most"]) fun _ _ _ _ _ _ us hl => match us, hl with | [_, _, _], _ => rfl)
  have F21 := fun_mk (st := sLawWordOf) l21 c21 k21
  have OLawWordOf : Own K mg "_law_word_of" sLawWordOf ["e"] := Own.mk' F21 (PySem.W.mg_of X G a21) (F21.binds (ps := ["e"]) fun _ _ _ _ _ _ us hl => match us, hl with | [_], _ => rfl)
  have F22 := fun_mk (st := sLawOfChains) l22 c22 k22
  have OLawOfChains : Own K mg "_law_of_chains" sLawOfChains ["which", "chain", "modulus"] := Own.mk' F22 (PySem.W.mg_of X G a22) (F22.binds (ps := ["which", "chain", "modulus"]) fun _ _ _ _ _ _ us hl => match us, hl with | [_, _, _], _ => rfl)
  have F23 := fun_mk (st := sLawOfNumbers) l23 c23 k23
  have OLawOfNumbers : Own K mg "_law_of_numbers" sLawOfNumbers ["which", "number"] := Own.mk' F23 (PySem.W.mg_of X G a23) (F23.binds (ps := ["which", "number"]) fun _ _ _ _ _ _ us hl => match us, hl with | [_, _], _ => rfl)
  have F24 := fun_mk (st := sLawTried) l24 c24 k24
  have OLawTried : Own K mg "_law_tried" sLawTried ["which", "chain", "modulus", "number"] := Own.mk' F24 (PySem.W.mg_of X G a24) (F24.binds (ps := ["which", "chain", "modulus", "number"]) fun _ _ _ _ _ _ us hl => match us, hl with | [_, _, _, _], _ => rfl)
  have F25 := fun_mk (st := sLawSpoilt) l25 c25 k25
  have OLawSpoilt : Own K mg "_law_spoilt" sLawSpoilt ["script", "chain", "way"] := Own.mk' F25 (PySem.W.mg_of X G a25) (F25.binds (ps := ["script", "chain", "way"]) fun _ _ _ _ _ _ us hl => match us, hl with | [_, _, _], _ => rfl)
  have F26 := fun_mk (st := sLaw) l26 c26 k26
  have Kd : Kinds K mg (fun i => [eD0, eD1, eD2, eD3, eD4].getD i 0) eS [0, 1, 2] := by
    refine ⟨PySem.W.mg_of X G xg0, PySem.W.mg_of X G xg1, PySem.W.mg_of X G xg2, PySem.W.mg_of X G xg3, PySem.W.mg_of X G xg4, PySem.W.mg_of X G xgS, fun i hi => ?_, fun i hi => ?_⟩
    · simp only [List.mem_cons, List.not_mem_nil, or_false] at hi
      rcases hi with rfl | rfl | rfl
      · exact ⟨by decide, ClsX.mk' (PySem.W.mg_of X G xg0) xx0 xk0 xb0 xt0 xbS xdS xtS xe0 xhg0 xhk0 xhd0 xha0 xn xt xhm0 xv0⟩
      · exact ⟨by decide, ClsX.mk' (PySem.W.mg_of X G xg1) xx1 xk1 xb1 xt1 xbS xdS xtS xe1 xhg1 xhk1 xhd1 xha1 xn xt xhm1 xv1⟩
      · exact ⟨by decide, ClsX.mk' (PySem.W.mg_of X G xg2) xx2 xk2 xb2 xt2 xbS xdS xtS xe2 xhg2 xhk2 xhd2 xha2 xn xt xhm2 xv2⟩
    · simp only [List.mem_cons, List.not_mem_nil, or_false] at hi
      rcases hi with rfl | rfl | rfl
      · exact kit_five (i := 0) xq00 xq01 xq02 xq03 xq04
      · exact kit_five (i := 1) xq10 xq11 xq12 xq13 xq14
      · exact kit_five (i := 2) xq20 xq21 xq22 xq23 xq24
  exact ⟨PySem.W.fnOf "law" "law" (defArgs sLaw) (defBody sLaw) (defScope sLaw) .none kV26 dc26 pm26 an26 cd26 ct26, fun s v => .of_eq rfl, fun base _ _ => all_law F26 B Kd OLinkOf OIsChain OAskedChain OLinksBy OLinks OThinned OJoined ODoubling OShown OPowers OAskedNumber ONexts OFirstFound OCounted OShortestBy OShortest OLeast OShortestMany OLawCellAt OLawDraw OLawChainBy OLawWordOf OLawOfChains OLawOfNumbers OLawTried OLawSpoilt⟩
end Fs
open PySem PySem.W PyProof.Rows
set_option maxHeartbeats 0 in
theorem PySem.Challenge.cw_fewsums_k14_refused_holds : PySem.Challenge.rw_fewsums_k14_refused.Holds := by
  w_on; o_law; k_head; (case hw => w_witness2)
  k_fill
  refine L2.walk_of (l := PySem.Challenge.rw_fewsums_k14_refused) (n := 63) (k := 15) (x := "script") (CX := fun _ => L2.CX0) (sp := fun w => Fs.spLaw _) rfl (by decide) rfl ⟨rfl, by decide, by decide⟩ (fun w h Y => PySem.W.kIn_of Y) ?F (fun _ _ a ns hl _ hS => ⟨a, ns, rfl, hS, hl, fun _ => rfl⟩) (fun _ _ _ _ _ h => h)
  case F =>
    intro w mg fa h KX G hmg
    refine' Fs.all_mk KX G hmg ?a0 ?l0 ?c0 ?k0 ?a1 ?l1 ?c1 ?k1 ?a2 ?l2 ?c2 ?k2 ?a3 ?l3 ?c3 ?k3 ?a4 ?l4 ?c4 ?k4 ?a5 ?l5 ?c5 ?k5 ?a6 ?l6 ?c6 ?k6 ?a7 ?l7 ?c7 ?k7 ?a8 ?l8 ?c8 ?k8 ?a9 ?l9 ?c9 ?k9 ?a10 ?l10 ?c10 ?k10 ?a11 ?l11 ?c11 ?k11 ?a12 ?l12 ?c12 ?k12 ?a13 ?l13 ?c13 ?k13 ?a14 ?l14 ?c14 ?k14 ?a15 ?l15 ?c15 ?k15 ?a16 ?l16 ?c16 ?k16 ?a17 ?l17 ?c17 ?k17 ?a18 ?l18 ?c18 ?k18 ?a19 ?l19 ?c19 ?k19 ?a20 ?l20 ?c20 ?k20 ?a21 ?l21 ?c21 ?k21 ?a22 ?l22 ?c22 ?k22 ?a23 ?l23 ?c23 ?k23 ?a24 ?l24 ?c24 ?k24 ?a25 ?l25 ?c25 ?k25 ?a26 ?l26 ?c26 ?k26 ?z_len ?z_range ?z_reversed ?z_list ?z_int ?z_str ?z_sum ?z_sorted ?z_isinstance ?z_bool ?z_tuple ?z_min ?z_max ?z_all ?z_ValueError ?g_MOST_chains ?g_GREATEST_chains ?g_GREATEST_powers ?g_MOST_shortest ?g_MOST_COUNTED ?xg0 ?xg1 ?xg2 ?xg3 ?xg4 ?xgS ?xbS ?xdS ?xtS ?xn ?xt ?xx0 ?xk0 ?xb0 ?xt0 ?xe0 ?xhg0 ?xhk0 ?xhd0 ?xha0 ?xhm0 ?xv0 ?xq00 ?xq01 ?xq02 ?xq03 ?xq04 ?xx1 ?xk1 ?xb1 ?xt1 ?xe1 ?xhg1 ?xhk1 ?xhd1 ?xha1 ?xhm1 ?xv1 ?xq10 ?xq11 ?xq12 ?xq13 ?xq14 ?xx2 ?xk2 ?xb2 ?xt2 ?xe2 ?xhg2 ?xhk2 ?xhd2 ?xha2 ?xhm2 ?xv2 ?xq20 ?xq21 ?xq22 ?xq23 ?xq24
    (case a0 => k_is)
    (case l0 => k_is)
    (case c0 => k_is)
    (case k0 => k_is)
    (case a1 => k_is)
    (case l1 => k_is)
    (case c1 => k_is)
    (case k1 => k_is)
    (case a2 => k_is)
    (case l2 => k_is)
    (case c2 => k_is)
    (case k2 => k_is)
    (case a3 => k_is)
    (case l3 => k_is)
    (case c3 => k_is)
    (case k3 => k_is)
    (case a4 => k_is)
    (case l4 => k_is)
    (case c4 => k_is)
    (case k4 => k_is)
    (case a5 => k_is)
    (case l5 => k_is)
    (case c5 => k_is)
    (case k5 => k_is)
    (case a6 => k_is)
    (case l6 => k_is)
    (case c6 => k_is)
    (case k6 => k_is)
    (case a7 => k_is)
    (case l7 => k_is)
    (case c7 => k_is)
    (case k7 => k_is)
    (case a8 => k_is)
    (case l8 => k_is)
    (case c8 => k_is)
    (case k8 => k_is)
    (case a9 => k_is)
    (case l9 => k_is)
    (case c9 => k_is)
    (case k9 => k_is)
    (case a10 => k_is)
    (case l10 => k_is)
    (case c10 => k_is)
    (case k10 => k_is)
    (case a11 => k_is)
    (case l11 => k_is)
    (case c11 => k_is)
    (case k11 => k_is)
    (case a12 => k_is)
    (case l12 => k_is)
    (case c12 => k_is)
    (case k12 => k_is)
    (case a13 => k_is)
    (case l13 => k_is)
    (case c13 => k_is)
    (case k13 => k_is)
    (case a14 => k_is)
    (case l14 => k_is)
    (case c14 => k_is)
    (case k14 => k_is)
    (case a15 => k_is)
    (case l15 => k_is)
    (case c15 => k_is)
    (case k15 => k_is)
    (case a16 => k_is)
    (case l16 => k_is)
    (case c16 => k_is)
    (case k16 => k_is)
    (case a17 => k_is)
    (case l17 => k_is)
    (case c17 => k_is)
    (case k17 => k_is)
    (case a18 => k_is)
    (case l18 => k_is)
    (case c18 => k_is)
    (case k18 => k_is)
    (case a19 => k_is)
    (case l19 => k_is)
    (case c19 => k_is)
    (case k19 => k_is)
    (case a20 => k_is)
    (case l20 => k_is)
    (case c20 => k_is)
    (case k20 => k_is)
    (case a21 => k_is)
    (case l21 => k_is)
    (case c21 => k_is)
    (case k21 => k_is)
    (case a22 => k_is)
    (case l22 => k_is)
    (case c22 => k_is)
    (case k22 => k_is)
    (case a23 => k_is)
    (case l23 => k_is)
    (case c23 => k_is)
    (case k23 => k_is)
    (case a24 => k_is)
    (case l24 => k_is)
    (case c24 => k_is)
    (case k24 => k_is)
    (case a25 => k_is)
    (case l25 => k_is)
    (case c25 => k_is)
    (case k25 => k_is)
    (case a26 => k_is)
    (case l26 => k_is)
    (case c26 => k_is)
    (case k26 => k_is)
    (case z_len => k_is)
    (case z_range => k_is)
    (case z_reversed => k_is)
    (case z_list => k_is)
    (case z_int => k_is)
    (case z_str => k_is)
    (case z_sum => k_is)
    (case z_sorted => k_is)
    (case z_isinstance => k_is)
    (case z_bool => k_is)
    (case z_tuple => k_is)
    (case z_min => k_is)
    (case z_max => k_is)
    (case z_all => k_is)
    (case z_ValueError => k_is)
    (case g_MOST_chains => k_is)
    (case g_GREATEST_chains => k_is)
    (case g_GREATEST_powers => k_is)
    (case g_MOST_shortest => k_is)
    (case g_MOST_COUNTED => k_is)
    (case xg0 => k_is)
    (case xg1 => k_is)
    (case xg2 => k_is)
    (case xg3 => k_is)
    (case xg4 => k_is)
    (case xgS => k_is)
    (case xbS => k_is)
    (case xdS => k_is)
    (case xtS => k_is)
    (case xn => k_is)
    (case xt => k_is)
    (case xx0 => k_exc)
    (case xk0 => k_is)
    (case xb0 => k_is)
    (case xt0 => k_is)
    (case xe0 => k_is)
    (case xhg0 => k_is)
    (case xhk0 => k_is)
    (case xhd0 => k_is)
    (case xha0 => k_is)
    (case xhm0 => k_is)
    (case xv0 => kit_is)
    (case xq00 => first | kit_is | (unfold PySem.W.kitOne; rfl) | rfl | k_is)
    (case xq01 => first | kit_is | (unfold PySem.W.kitOne; rfl) | rfl | k_is)
    (case xq02 => first | kit_is | (unfold PySem.W.kitOne; rfl) | rfl | k_is)
    (case xq03 => first | kit_is | (unfold PySem.W.kitOne; rfl) | rfl | k_is)
    (case xq04 => first | kit_is | (unfold PySem.W.kitOne; rfl) | rfl | k_is)
    (case xx1 => k_exc)
    (case xk1 => k_is)
    (case xb1 => k_is)
    (case xt1 => k_is)
    (case xe1 => k_is)
    (case xhg1 => k_is)
    (case xhk1 => k_is)
    (case xhd1 => k_is)
    (case xha1 => k_is)
    (case xhm1 => k_is)
    (case xv1 => kit_is)
    (case xq10 => first | kit_is | (unfold PySem.W.kitOne; rfl) | rfl | k_is)
    (case xq11 => first | kit_is | (unfold PySem.W.kitOne; rfl) | rfl | k_is)
    (case xq12 => first | kit_is | (unfold PySem.W.kitOne; rfl) | rfl | k_is)
    (case xq13 => first | kit_is | (unfold PySem.W.kitOne; rfl) | rfl | k_is)
    (case xq14 => first | kit_is | (unfold PySem.W.kitOne; rfl) | rfl | k_is)
    (case xx2 => k_exc)
    (case xk2 => k_is)
    (case xb2 => k_is)
    (case xt2 => k_is)
    (case xe2 => k_is)
    (case xhg2 => k_is)
    (case xhk2 => k_is)
    (case xhd2 => k_is)
    (case xha2 => k_is)
    (case xhm2 => k_is)
    (case xv2 => kit_is)
    (case xq20 => first | kit_is | (unfold PySem.W.kitOne; rfl) | rfl | k_is)
    (case xq21 => first | kit_is | (unfold PySem.W.kitOne; rfl) | rfl | k_is)
    (case xq22 => first | kit_is | (unfold PySem.W.kitOne; rfl) | rfl | k_is)
    (case xq23 => first | kit_is | (unfold PySem.W.kitOne; rfl) | rfl | k_is)
    (case xq24 => first | kit_is | (unfold PySem.W.kitOne; rfl) | rfl | k_is)

