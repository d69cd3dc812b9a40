import PyProof.Rows.All
import Wide.All
import OpenK.AllK
import Wide.FinOn
import HandS.ForMost
import HandS.Steps
import HandS.Wide
import HandS.IsInst
import HandS.RevRange
import HandS.Rev
import HandS.Style
import HandS.SetFor
import HandS.ForExc
import HandS.ExcIs
import HandS.HotCalls
import KE.GoesComp
import PySem.Challenge.RW_fewsums_k13_read_or_refused
set_option Elab.async false
set_option linter.all false
set_option maxRecDepth 100000
set_option maxHeartbeats 4000000
/-! ## Words of my own over the hand layer: readings step by step (conclusion: the reading; premises: what is left) -/
namespace Fs
open PySem PySem.Spec PyProof.Rows L2

/-- a fact that omega is not to look at -/
structure Hid (p : Prop) : Prop where
  out : p
/-! ### heaps -/
theorem same_new {H : Hp} {p : Addr} {o : HO} (h : H p = none) : Same H (upd H p o) := fun b u q => by rw [upd_ne (ne_of_none q h)]; exact q
theorem same_mut {H H' : Hp} {p : Addr} {o : HO} (e : Same H H') (h : H p = none) : Same H (upd H' p o) := fun a u ha => by
  rw [upd_ne (ne_of_none ha h)]
  exact e a u ha
theorem same_get {H H' : Hp} {a : Addr} {o : HO} (e : Same H H') (h : H a = some o) : H' a = some o := e a o h
theorem get_new {H : Hp} {a p : Addr} {o u : HO} (h : H a = some o) (hp : H p = none) : upd H p u a = some o := by
  rw [upd_ne (ne_of_none h hp)]; exact h
theorem get_ne {H : Hp} {a p : Addr} {o u : HO} (n : a ≠ p) (h : H a = some o) : upd H p u a = some o := by
  rw [upd_ne n]; exact h
theorem none_ne {H : Hp} {a p : Addr} {u : HO} (n : a ≠ p) (h : H a = none) : upd H p u a = none := by
  rw [upd_ne n]; exact h

/-! ### values of lists of ints, by place -/
/-- ns[i] as Python reads it -/
def gi (ns : List Int) (i : Int) : Int := if 0 ≤ i then ns.getD i.toNat 0 else ns.getD (i + ns.length).toNat 0
theorem gi_nat (ns : List Int) (i : Nat) : gi ns (i : Int) = ns.getD i 0 := by
  unfold gi
  rw [if_pos (by omega), Int.toNat_natCast]
theorem gi_nn {ns : List Int} {i : Int} (h : 0 ≤ i) : gi ns i = ns.getD i.toNat 0 := by
  unfold gi
  rw [if_pos h]
theorem gi_last (ns : List Int) (h : ns ≠ []) : gi ns (-1) = ns.getD (ns.length - 1) 0 := by
  have hl : 0 < ns.length := List.length_pos_iff.mpr h
  unfold gi
  rw [if_neg (by omega), show (-1 + (ns.length : Int)).toNat = ns.length - 1 by omega]
theorem getD_get {α : Type} {ns : List α} {i : Nat} (d : α) (h : i < ns.length) : ns[i]? = some (ns.getD i d) := by
  rw [List.getD_eq_getElem?_getD, List.getElem?_eq_getElem h]
  rfl
theorem atI_gi {ns : List Int} {i : Int} (h1 : -(ns.length : Int) ≤ i) (h2 : i < ns.length) : atI (ns.map V.int) i = some (.int (gi ns i)) := by
  unfold atI ixN gi
  rw [List.length_map]
  by_cases h : 0 ≤ i
  · rw [if_pos h, if_pos h2, if_pos h, Option.bind_some, List.getElem?_map, getD_get 0 (by omega)]
    rfl
  · rw [if_neg h, if_pos h1, if_neg h, Option.bind_some, List.getElem?_map, getD_get 0 (by omega)]
    rfl

section
variable {σ : L2.St} {H : Hp} {Q : VK} {K : PySem.W.Frag} {ta tb tc te : TE} {t : TA} {r r' : R2} {tt tu : TT} {QB : Bool → Hp → Prop} {QA : List V → Hp → Prop}
/-! ### expressions -/
theorem e_var {i : Nat} {v : V} (h : σ[i]? = some (some v)) (q : Q v H) : tVar i σ H Q := ⟨v, h, q⟩
theorem e_c {v : V} (q : Q v H) : tC v σ H Q := q
theorem e_op (q : ta σ H fun x H1 => tb σ H1 fun y H2 => r x y H2 Q) : tOp r ta tb σ H Q := q
theorem e_un {g : V → Hp → VK → Prop} (q : ta σ H fun x H1 => g x H1 Q) : tUn g ta σ H Q := q
theorem e_I0 {g : Int → Int → V} {i j : Int} (q : Q (g i j) H) : rI0 g (.int i) (.int j) H Q := ⟨i, j, rfl, rfl, q⟩
theorem e_I {C : Int → Int → Prop} {g : Int → Int → V} {i j : Int} (c : C i j) (q : Q (g i j) H) : rI C g (.int i) (.int j) H Q := ⟨i, j, rfl, rfl, c, q⟩
theorem e_U {g : Int → V} {i : Int} (q : Q (g i) H) : rU g (.int i) H Q := ⟨i, rfl, q⟩
theorem e_eqI {i j : Int} (q : Q (.bl (decide (i = j))) H) : rEq (.int i) (.int j) H Q := ⟨rfl, by
  rw [dec_int, Bool.beq_eq_decide_eq]
  exact q⟩
theorem e_neI {i j : Int} (q : Q (.bl (!decide (i = j))) H) : rNe (.int i) (.int j) H Q := ⟨rfl, by
  rw [dec_int, Bool.beq_eq_decide_eq]
  exact q⟩
theorem e_eqS {i j : Str} (q : Q (.bl (decide (i = j))) H) : rEq (.str i) (.str j) H Q := ⟨rfl, by
  rw [dec_str, Bool.beq_eq_decide_eq]
  exact q⟩
theorem e_neS {i j : Str} (q : Q (.bl (!decide (i = j))) H) : rNe (.str i) (.str j) H Q := ⟨rfl, by
  rw [dec_str, Bool.beq_eq_decide_eq]
  exact q⟩
theorem e_ixI {p : Addr} {ns : List Int} {i : Int} (h : SqL K H p (ns.map V.int)) (h1 : -(ns.length : Int) ≤ i) (h2 : i < ns.length) (q : Q (.int (gi ns i)) H) : rIxL K (.ref p) (.int i) H Q :=
  ⟨p, _, i, _, rfl, rfl, h, atI_gi h1 h2, q⟩
theorem e_ixV {p : Addr} {xs : List V} {i : Int} {v : V} (h : SqL K H p xs) (ha : atI xs i = some v) (q : Q v H) : rIxL K (.ref p) (.int i) H Q := ⟨p, xs, i, v, rfl, rfl, h, ha, q⟩
theorem e_ixT {p : Addr} {xs : List V} {i : Int} {v : V} (h : SqT K H p xs) (ha : atI xs i = some v) (q : Q v H) : rIxT K (.ref p) (.int i) H Q := ⟨p, xs, i, v, rfl, rfl, h, ha, q⟩
theorem e_nil (q : QA [] H) : tNil σ H QA := q
theorem e_cons (q : ta σ H fun x H1 => t σ H1 fun xs H2 => QA (x :: xs) H2) : tCons ta t σ H QA := q
/-- a new list, a new tuple -/
def NewL (Q : VK) (xs : List V) (H : Hp) : Prop := xs.length ≤ sizeLine ∧ ∀ p, H p = none → Q (.ref p) (upd H p (.lst xs))
def NewT (Q : VK) (xs : List V) (H : Hp) : Prop := xs.length ≤ sizeLine ∧ ∀ p, H p = none → Q (.ref p) (upd H p (.tup xs))
theorem e_lst (q : t σ H fun xs H1 => NewL Q xs H1) : tLst t σ H Q := q
theorem e_tup (q : t σ H fun xs H1 => NewT Q xs H1) : tTup t σ H Q := q
theorem e_cb {g : List V → Hp → VK → Prop} (q : t σ H fun vs H1 => g vs H1 Q) : tCB g t σ H Q := q
theorem e_call {sp : Sp} {E : XK} (q : t σ H fun vs H1 => sp vs H1 Q E) : tCall sp [] E t σ H Q := by
  have e : (fun (vs : List V) (H1 : Hp) => sp (vs ++ []) H1 Q E) = fun vs H1 => sp vs H1 Q E := by
    funext vs H1
    rw [List.append_nil]
  show t σ H fun vs H1 => sp (vs ++ []) H1 Q E
  rw [e]
  exact q
theorem e_bm {T : String} {g : V → List V → Hp → VK → Prop} (q : ta σ H fun x H1 => tyV K T x H1 ∧ t σ H1 fun xs H2 => g x xs H2 Q) : tBM K T g ta t σ H Q := q
theorem e_ifx (q : tt σ H fun c H1 => if c = true then ta σ H1 Q else tb σ H1 Q) : tIf tt ta tb σ H Q := q
/-- the library's rules by names -/
def rLn (K : PySem.W.Frag) : List V → Hp → VK → Prop := fun xs H Q => ∃ p ys, xs = [.ref p] ∧ (SqL K H p ys ∨ SqT K H p ys) ∧ Q (.int ys.length) H
theorem f_len {X : Cx} : CallR X (.builtin "len") (rLn X.K) := call_len_seq
def rLnS : List V → Hp → VK → Prop := fun xs H Q => ∃ z, xs = [.str z] ∧ z.length ≤ sizeLine ∧ Q (.int z.length) H
theorem f_lenS {X : Cx} : CallR X (.builtin "len") rLnS := call_len_str
def rLs (K : PySem.W.Frag) : List V → Hp → VK → Prop := fun xs H Q => ∃ p ys, xs = [.ref p] ∧ (SqL K H p ys ∨ SqT K H p ys) ∧ ∀ l, H l = none → Q (.ref l) (upd H l (.lst ys))
theorem f_list {X : Cx} : CallR X (.type "list") (rLs X.K) := call_list_of
def rInt1 : List V → Hp → VK → Prop := fun xs H Q => (∃ i, xs = [.int i] ∧ Q (.int i) H) ∨ ∃ k, xs = [.bl k] ∧ Q (.int (if k then 1 else 0)) H
theorem f_int {X : Cx} : CallR X (.type "int") rInt1 := call_int1
def rStrI : List V → Hp → VK → Prop := fun xs H Q => ∃ i : Int, xs = [.int i] ∧ i.natAbs.log2 < 1920 ∧ Q (.str (toString i)) H
theorem f_str {X : Cx} : CallR X (.type "str") rStrI := call_str_int
def rIntS : List V → Hp → VK → Prop := fun xs H Q => ∃ a n, xs = [.str a] ∧ PySem.intText? a = some n ∧ a.length ≤ 640 ∧ Q (.int n) H
theorem f_intS {X : Cx} : CallR X (.type "int") rIntS := call_int_str
def rMx : List V → Hp → VK → Prop := fun xs H Q => ∃ i j : Int, xs = [.int i, .int j] ∧ Q (.int (if j > i then j else i)) H
theorem f_max {X : Cx} (hc : X.calm = true) : CallR X (.builtin "max") rMx := call_max2 hc
def rMn : List V → Hp → VK → Prop := fun xs H Q => ∃ i j : Int, xs = [.int i, .int j] ∧ Q (.int (if j < i then j else i)) H
theorem f_min {X : Cx} (hc : X.calm = true) : CallR X (.builtin "min") rMn := call_min2 hc
theorem r_len {p : Addr} {ns : List Int} (h : SqL K H p (ns.map V.int)) (q : Q (.int (ns.length : Int)) H) : rLn K [.ref p] H Q :=
  ⟨p, _, rfl, .inl h, by
    rw [List.length_map]
    exact q⟩
theorem r_lenV {p : Addr} {xs : List V} (h : SqL K H p xs) (q : Q (.int (xs.length : Int)) H) : rLn K [.ref p] H Q := ⟨p, _, rfl, .inl h, q⟩
theorem r_lenT {p : Addr} {xs : List V} (h : SqT K H p xs) (q : Q (.int (xs.length : Int)) H) : rLn K [.ref p] H Q := ⟨p, _, rfl, .inr h, q⟩
theorem r_lenS {z : Str} (h : z.length ≤ sizeLine) (q : Q (.int (z.length : Int)) H) : rLnS [.str z] H Q := ⟨z, rfl, h, q⟩
theorem r_list {p : Addr} {xs : List V} (h : SqL K H p xs) (q : ∀ l, H l = none → Q (.ref l) (upd H l (.lst xs))) : rLs K [.ref p] H Q := ⟨p, _, rfl, .inl h, q⟩
theorem n_list {p : Addr} {xs : List V} (h : SqL K H p xs) (q : ∀ l H1, H l = none → Same H H1 → H1 l = some (.lst xs) → Q (.ref l) H1) : rLs K [.ref p] H Q := ⟨p, _, rfl, .inl h, fun l hl => q l _ hl (same_new hl) upd_same⟩
theorem r_intB {b : Bool} (q : Q (.int (if b then 1 else 0)) H) : rInt1 [.bl b] H Q := .inr ⟨b, rfl, q⟩
theorem r_str {i : Int} (h : i.natAbs.log2 < 1920) (q : Q (.str (toString i)) H) : rStrI [.int i] H Q := ⟨i, rfl, h, q⟩
theorem r_intS {a : Str} {n : Int} (h : PySem.intText? a = some n) (hl : a.length ≤ 640) (q : Q (.int n) H) : rIntS [.str a] H Q := ⟨a, n, rfl, h, hl, q⟩
theorem r_max {i j : Int} (q : Q (.int (if j > i then j else i)) H) : rMx [.int i, .int j] H Q := ⟨i, j, rfl, q⟩
theorem r_min {i j : Int} (q : Q (.int (if j < i then j else i)) H) : rMn [.int i, .int j] H Q := ⟨i, j, rfl, q⟩
theorem r_isN {x : V} (q : Q (.bl (decide (x = .non))) H) : rIsN x .non H Q := ⟨rfl, q⟩
theorem r_notN {x : V} (q : Q (.bl (!decide (x = .non))) H) : rNotN x .non H Q := ⟨rfl, q⟩
theorem r_isB {a b : Bool} (q : Q (.bl (decide (a = b))) H) : rIsB (.bl a) (.bl b) H Q := ⟨a, b, rfl, rfl, q⟩
theorem r_notB {a b : Bool} (q : Q (.bl (!decide (a = b))) H) : rNotB (.bl a) (.bl b) H Q := ⟨a, b, rfl, rfl, q⟩
/-! ### tests -/
theorem t_test (q : te σ H fun x H1 => ∃ k, x = .bl k ∧ QB k H1) : tTest te σ H QB := q
theorem t_B (q : te σ H fun x H1 => ∃ k, x = .bl k ∧ QB k H1) : tB te σ H QB := q
theorem t_bl {b : Bool} (q : QB b H) : ∃ k, V.bl b = .bl k ∧ QB k H := ⟨b, rfl, q⟩
theorem t_bl' {b : Bool} {R : Bool → Prop} (q : R b) : ∃ k, V.bl b = .bl k ∧ R k := ⟨b, rfl, q⟩
theorem e_andV (q : ta σ H fun x H1 => ∃ c, x = .bl c ∧ if c = true then tb σ H1 Q else Q (.bl false) H1) : tAndV ta tb σ H Q := q
theorem e_orV (q : ta σ H fun x H1 => ∃ c, x = .bl c ∧ if c = true then Q (.bl true) H1 else tb σ H1 Q) : tOrV ta tb σ H Q := q
theorem e_notV (q : ta σ H fun x H1 => ∃ c, x = .bl c ∧ Q (.bl (!c)) H1) : tNotV ta σ H Q := q
theorem e_chain (q : ta σ H fun x H1 => tb σ H1 fun y H2 => r x y H2 fun z H3 => ∃ k, z = .bl k ∧ (if k = true then tc σ H3 fun w' H4 => r' y w' H4 Q else Q (.bl false) H3)) : tChain r r' ta tb tc σ H Q := q
/-- a test that leaves the heap -/
theorem n_or {a b : Bool} (h1 : Ans tt σ H a) (h2 : a = false → Ans tu σ H b) : Ans (tOr tt tu) σ H (a || b) := by
  cases a with
  | true => exact ans_or1 h1
  | false => exact ans_or h1 (h2 rfl)
theorem n_and {a b : Bool} (h1 : Ans tt σ H a) (h2 : a = true → Ans tu σ H b) : Ans (tAnd tt tu) σ H (a && b) := by
  cases a with
  | true => exact ans_and h1 (h2 rfl)
  | false => exact ans_and0 h1
theorem n_not {a : Bool} (h1 : Ans tt σ H a) : Ans (tNot tt) σ H (!a) := ans_not h1
theorem n_of {b : Bool} (h : ∀ Q : Bool → Hp → Prop, Q b H → tt σ H Q) : Ans tt σ H b := h
/-- a < b < c, as a test that leaves the heap -/
theorem n_chain {x y z : V} {a b : Bool} (ha : Val ta σ H x) (hb : Val tb σ H y) (hr : ∀ Q : VK, Q (.bl a) H → r x y H Q) (hc : a = true → Val tc σ H z) (hr' : a = true → ∀ Q : VK, Q (.bl b) H → r' y z H Q) : Ans (tTest (tChain r r' ta tb tc)) σ H (a && b) := by
  intro Q q
  refine ha _ (hb _ (hr _ ⟨a, rfl, ?_⟩))
  cases a with
  | true =>
    show tc σ H _
    exact hc rfl _ (hr' rfl _ ⟨b, rfl, q⟩)
  | false =>
    show ∃ k, V.bl false = .bl k ∧ Q k H
    exact ⟨false, rfl, q⟩

/-! ### statements: what follows is a written record -/
variable {n bk ct : L2.St → Hp → Prop} {rt : VK} {u w : TS} {g : TG}
theorem s_seq {s1 : TS} (q : s1 ⟨u ⟨n, rt, bk, ct⟩, rt, bk, ct⟩ σ H) : tSeq s1 u ⟨n, rt, bk, ct⟩ σ H := q
theorem s_asg (q : te σ H fun x H1 => g x σ H1 n) : tAsg te g ⟨n, rt, bk, ct⟩ σ H := q
theorem g_name {i : Nat} {v : V} {Q : L2.St → Hp → Prop} (q : Q (σ.set i (some v)) H) : gName i v σ H Q := q
theorem g_sub {ta tb : TE} {t : TSet} {v : V} {Q : L2.St → Hp → Prop} (q : ta σ H fun o H1 => tb σ H1 fun i H2 => t o i v H2 fun H3 => Q σ H3) : gSub ta tb t v σ H Q := q
theorem s_ret (q : te σ H rt) : tRet te ⟨n, rt, bk, ct⟩ σ H := q
theorem s_drop (q : te σ H fun _ H1 => n σ H1) : tDrop te ⟨n, rt, bk, ct⟩ σ H := q
theorem s_next (q : n σ H) : tNext ⟨n, rt, bk, ct⟩ σ H := q
theorem s_ifs (q : tt σ H fun b H1 => if b = true then u ⟨n, rt, bk, ct⟩ σ H1 else w ⟨n, rt, bk, ct⟩ σ H1) : tIfS tt u w ⟨n, rt, bk, ct⟩ σ H := q
/-- an if whose test leaves the heap -/
theorem s_if {b : Bool} (h : Ans tt σ H b) (h1 : b = true → u ⟨n, rt, bk, ct⟩ σ H) (h2 : b = false → w ⟨n, rt, bk, ct⟩ σ H) : tIfS tt u w ⟨n, rt, bk, ct⟩ σ H := by
  refine h _ ?_
  cases b with
  | true => exact h1 rfl
  | false => exact h2 rfl
/-- a statement, then the rest, with a word between them -/
def tMid (t u : TS) : TS := fun D σ H => ∃ M : L2.St → Hp → Prop, t { D with nx := M } σ H ∧ ∀ σ2 H2, M σ2 H2 → u D σ2 H2
theorem s_cut {s1 : TS} (Mid : L2.St → Hp → Prop) (h1 : s1 ⟨Mid, rt, bk, ct⟩ σ H) (h2 : ∀ σ' H', Mid σ' H' → u ⟨n, rt, bk, ct⟩ σ' H') : tMid s1 u ⟨n, rt, bk, ct⟩ σ H := ⟨Mid, h1, h2⟩
theorem s_for1 {x : Int} {k : Nat} (Pv : Nat → L2.St → Hp → Prop) (hk : x.toNat = k) (hb : x < 2 ^ 62) (ht : ∀ Q : List V → Hp → Prop, Q [.int x] H → t σ H Q) (hx : -(2 ^ 62) ≤ x) (h0 : Pv 0 σ H)
    (hs : ∀ (i : Nat) σ' H', i < k → Pv i σ' H' → g (.int (i : Int)) σ' H' fun σ2 H2 => u ⟨Pv (i + 1), rt, n, Pv (i + 1)⟩ σ2 H2) (hd : ∀ σ' H', Pv k σ' H' → n σ' H') : tFor (iRng1 t) g u ⟨n, rt, bk, ct⟩ σ H := by
  subst hk
  refine ht _ ⟨x, rfl, hx, hb, ?_⟩
  refine for_range (lo := 0) Pv h0 (fun i σ' H' hi hp => ?_) hd
  have q := hs i σ' H' hi hp
  rw [show (i : Int) = 0 + (i : Int) by omega] at q
  exact q
theorem s_for2 {a b : Int} {k : Nat} (Pv : Nat → L2.St → Hp → Prop) (hk : (b - a).toNat = k) (ht : ∀ Q : List V → Hp → Prop, Q [.int a, .int b] H → t σ H Q) (hb : (-(2 ^ 62) ≤ a ∧ a < 2 ^ 62) ∧ -(2 ^ 62) ≤ b ∧ b < 2 ^ 62) (h0 : Pv 0 σ H)
    (hs : ∀ (i : Nat) σ' H', i < k → Pv i σ' H' → g (.int (a + (i : Int))) σ' H' fun σ2 H2 => u ⟨Pv (i + 1), rt, n, Pv (i + 1)⟩ σ2 H2) (hd : ∀ σ' H', Pv k σ' H' → n σ' H') : tFor (iRng2 t) g u ⟨n, rt, bk, ct⟩ σ H := by
  subst hk
  refine ht _ ⟨a, b, rfl, ⟨hb.1.1, hb.1.2, hb.2.1, hb.2.2⟩, ?_⟩
  exact for_range (lo := a) Pv h0 hs hd
end

/-! ### defs -/
/-- a def of the text as it stands behind the top -/
structure Own (K : PySem.W.Frag) (mg : Str → Option Value) (x : Str) (st : Stmt) (ps : List Str) : Prop where
  ex : ∃ f fd, Fun K x x st f fd ∧ mg x = some (.ref f) ∧ Binds K fd ps []
/-- the def's data stand at f -/
structure FdAt (K : PySem.W.Frag) (f : Addr) (fd : FuncData) : Prop where
  ex : ∃ oc od sl, K.lookup f = some ⟨oc, od, .func fd, sl⟩
theorem FdAt.uniq {K : PySem.W.Frag} {f : Addr} {d1 d2 : FuncData} (h1 : FdAt K f d1) (h2 : FdAt K f d2) : d1 = d2 := by
  obtain ⟨a, b, c, e1⟩ := h1.ex
  obtain ⟨a2, b2, c2, e2⟩ := h2.ex
  rw [e1] at e2
  cases e2
  rfl
theorem fdAt_of {K : PySem.W.Frag} {x q : Str} {st : Stmt} {f : Addr} {fd : FuncData} (F : Fun K x q st f fd) : FdAt K f fd := by
  obtain ⟨a, b, c, d, e, g, h, i, j, rfl, l, _⟩ := F.ex
  exact ⟨a, b, j, l⟩
/-- a def that keeps its promise -/
structure Cal (P : Program) (w : World) (K : PySem.W.Frag) (mg : Str → Option Value) (base : Heap) (CX : CXT) (k : Nat) (x : Str) (ps : List Str) (sp : Sp) : Prop where
  ex : ∃ f fd, FnOk P w K mg base CX k f fd ps sp ∧ mg x = some (.ref f) ∧ PySem.W.keepIn K (.ref f) = true ∧ Binds K fd ps [] ∧ FdAt K f fd
theorem Own.mk' {K : PySem.W.Frag} {mg : Str → Option Value} {x : Str} {st : Stmt} {ps : List Str} {f : Addr} {fd : FuncData} (F : Fun K x x st f fd) (g : mg x = some (.ref f)) (b : Binds K fd ps []) : Own K mg x st ps := ⟨f, fd, F, g, b⟩
theorem Cal.mono {P : Program} {w : World} {K : PySem.W.Frag} {mg : Str → Option Value} {base : Heap} {CX : CXT} {j k : Nat} {x : Str} {ps : List Str} {sp : Sp} (G : Cal P w K mg base CX j x ps sp) (h : j ≤ k) : Cal P w K mg base CX k x ps sp := by
  obtain ⟨f, fd, F, g, kp, b, at'⟩ := G.ex
  exact ⟨f, fd, F.mono h, g, kp, b, at'⟩
theorem Cal.imp {P : Program} {w : World} {K : PySem.W.Frag} {mg : Str → Option Value} {base : Heap} {CX : CXT} {k : Nat} {x : Str} {ps : List Str} {sp sp' : Sp} (G : Cal P w K mg base CX k x ps sp) (h : ∀ vs H Q E, sp' vs H Q E → sp vs H Q E) : Cal P w K mg base CX k x ps sp' := by
  obtain ⟨f, fd, F, g, kp, b, at'⟩ := G.ex
  exact ⟨f, fd, F.imp h, g, kp, b, at'⟩
section
variable {P : Program} {w : World} {K : PySem.W.Frag} {mg : Str → Option Value} {base : Heap}
theorem Own.ok {x : Str} {st : Stmt} {N ps : List Str} {k : Nat} {sp : Sp} (F : Own K mg x st ps) (S : FnScope N ps (defScope st)) (len : ∀ vs H Q E, sp vs H Q E → vs.length = ps.length)
    (hbody : ∀ (f : Addr) (cdv : Value) (A : Around) (outer : List Env) (s : Shared) (H : Hp) (vs : List V) (Q : VK) (E : XK), Room k (A.deeper (envOfC x (defScope st) s.heap.objs.size f cdv)) → sp vs H Q E →
      ∃ t, PSs (cxOf CX0 P w K mg base N x (defScope st) f cdv A outer s H E).nox (defBody st) t ∧ t ⟨fun _ H' => Q .non H', Q, fun _ _ => False, fun _ _ => False⟩ (start N vs) H) : Cal P w K mg base CX0 (k + 1) x ps sp := by
  obtain ⟨f, fd, F, g, b⟩ := F.ex
  exact ⟨f, fd, F.ok S len (hbody f), g, F.kp, b, fdAt_of F⟩
end
section
variable {X : Cx} {CX : CXT} {k : Nat} {ps : List Str} {sp : Sp} {E : XK} {x : Str} {p pos : Pos} {e : Expr} {es : List Expr} {t : TA}
theorem pe_cal (G : Cal X.prog X.w X.K X.mg X.base CX k x ps sp) (hr : Room k X.A) (hx : Passes CX X E) (hg : Gl X x) (ha : PA X (e :: es) t) (hdb : (x == ("__debug__" : Str)) = false := by decide)
    (he : starEach (e :: es) X.env = (false, eval e X.env) :: starEach es X.env := by rfl) (hpl : (backTo pos (starEach es X.env)).any (·.1) = false := by rfl) :
    PE X (.Call (.Name x p) (e :: es) [] pos) (tCall sp [] E t) := by
  obtain ⟨f, fd, F, g, kp, b, at'⟩ := G.ex
  exact pe_call F hr hg g kp b .nil hx ha hdb he hpl
theorem pe_const {x : Str} {v : Int} {pos : Pos} (h : ∃ t, X.mg x = some (.int v t)) (hg : Gl X x) (hd : (x == ("__debug__" : Str)) = false := by decide) : PE X (.Name x pos) (tC (.int v)) := by
  obtain ⟨t, e⟩ := h
  exact pe_glob hg e ⟨t, rfl⟩ hd
theorem pe_constS {x v : Str} {pos : Pos} (h : ∃ t, X.mg x = some (.str v t)) (hg : Gl X x) (hd : (x == ("__debug__" : Str)) = false := by decide) : PE X (.Name x pos) (tC (.str v)) := by
  obtain ⟨t, e⟩ := h
  exact pe_glob hg e ⟨t, rfl⟩ hd
/-- a statement, then the rest, what holds between them told -/
theorem pss_mid {st : Stmt} {rest : List Stmt} {t u : TS} (h1 : PS X st t) (h2 : PSs X rest u) : PSs X (st :: rest) (tMid t u) := by
  refine ⟨fun pins s σ H D I h => ?_⟩
  obtain ⟨M, hm, hu⟩ := h
  refine wpAny_execs_cons (thn (h1.run pins s σ H ⟨M, D.rt, D.bk, D.ct⟩ I hm) fun fl s1 q => ?_)
  cases fl with
  | next =>
    obtain ⟨σ2, H2, I2, q2⟩ := q
    exact h2.run pins s1 σ2 H2 D I2 (hu σ2 H2 q2)
  | brk => exact q
  | cont => exact q
  | ret v => exact q
end
end Fs
/-! ## list comprehensions, by what the list holds after so many turns -/
namespace Fs
open PySem PySem.Spec PyProof.Rows L2
/-- as it was, but at one place -/
def But (D : Addr) (H H' : Hp) : Prop := ∀ b o, b ≠ D → H b = some o → H' b = some o
theorem But.of {D : Addr} {H H' : Hp} (e : Same H H') : But D H H' := fun b o _ h => e b o h
theorem small5 {n : Nat} (h : n ≤ 100000) : n < sizeLine := Nat.lt_of_le_of_lt h (by decide)
section
variable {σ : L2.St} {H : Hp} {Q : VK} {K : PySem.W.Frag} {tl te : TE} {ta : TA} {tt : TT} {vs : List Nat} {j : Nat}
/-- the turns of a comprehension whose list holds what R says -/
def LcW (R : Addr → Nat → List V → Hp → Prop) (H : Hp) (D : Addr) (i : Nat) (H' : Hp) : Prop := H D = none ∧ Same H H' ∧ ∃ acc, H' D = some (.lst acc) ∧ acc.length ≤ i ∧ R D i acc H'
/-- one turn -/
def LcT (R : Addr → Nat → List V → Hp → Prop) (H : Hp) (tt : TT) (te : TE) (σ : L2.St) (i : Nat) : Prop := ∀ (D : Addr) (acc : List V) (H' : Hp) (K1 : VK) (K0 : Hp → Prop), H D = none → Same H H' → H' D = some (.lst acc) → R D i acc H' →
  (∀ y H2, Same H' H2 → R D (i + 1) (acc ++ [y]) H2 → K1 y H2) → (∀ H2, Same H' H2 → R D (i + 1) acc H2 → K0 H2) → tt σ H' fun b H3 => if b = true then te σ H3 K1 else K0 H3
theorem lc_turn {R : Addr → Nat → List V → Hp → Prop} (mono : ∀ D i acc H1 H2, H D = none → But D H1 H2 → R D i acc H1 → R D i acc H2) {D : Addr} {i : Nat} {H' : Hp} (hi : i < 100000) (hT : LcT R H tt te σ i) (hW : LcW R H D i H') :
    tt σ H' fun b H3 => if b = true then te σ H3 fun y H4 => ∃ acc, H4 D = some (.lst acc) ∧ acc.length < sizeLine ∧ LcW R H D (i + 1) (upd H4 D (.lst (acc ++ [y]))) else LcW R H D (i + 1) H3 := by
  obtain ⟨hD, hS, acc, hacc, hlen, hR⟩ := hW
  refine hT D acc H' (fun y H4 => ∃ acc, H4 D = some (.lst acc) ∧ acc.length < sizeLine ∧ LcW R H D (i + 1) (upd H4 D (.lst (acc ++ [y])))) (LcW R H D (i + 1)) hD hS hacc hR (fun y H2 e hR2 => ?_) (fun H2 e hR2 => ?_)
  · refine ⟨acc, e _ _ hacc, small5 (by omega), hD, same_mut (hS.trans e) hD, acc ++ [y], upd_same, ?_, ?_⟩
    · rw [List.length_append, List.length_singleton]
      omega
    · exact mono D (i + 1) (acc ++ [y]) H2 _ hD (fun b o hb h => by rw [upd_ne hb]; exact h) hR2
  · exact ⟨hD, hS.trans e, acc, e _ _ hacc, by omega, hR2⟩
/-- what stands at a is walked -/
def iAt (K : PySem.W.Frag) (a : Addr) : TI := fun _ H R => (∃ xs, SqL K H a xs) ∧ R (Itl K a) H
theorem e_yes {QB : Bool → Hp → Prop} (q : QB true H) : tYes σ H QB := q
theorem e_lc0 {g : TG} (q : tl σ H fun x H1 => ∃ a, x = .ref a ∧ tLc (iAt K a) g tt te vs σ H1 Q) : tLc (iList K tl) g tt te vs σ H Q := q
theorem rg_ref {a : Addr} {R : Addr → Prop} (q : R a) : ∃ b, V.ref a = .ref b ∧ R b := ⟨a, rfl, q⟩
theorem e_lcL {a : Addr} {xs : List V} (R : Addr → Nat → List V → Hp → Prop) (hx : SqL K H a xs) (hz : xs.length ≤ 100000) (h0 : ∀ D, H D = none → R D 0 [] H)
    (mono : ∀ D i acc H1 H2, H D = none → But D H1 H2 → R D i acc H1 → R D i acc H2) (hw : ∀ x, wipe ((wipe σ vs).set j (some x)) vs = wipe σ vs)
    (hs : ∀ i x, xs[i]? = some x → LcT R H tt te ((wipe σ vs).set j (some x)) i) (hd : ∀ D acc H', H D = none → Same H H' → H' D = some (.lst acc) → R D xs.length acc H' → Q (.ref D) H') : tLc (iAt K a) (gName j) tt te vs σ H Q := by
  refine ⟨⟨xs, hx⟩, fun D hD => ?_⟩
  refine lc_list (xs := xs) (LcW R H D) ⟨hD, same_new hD, [], upd_same, Nat.zero_le _, mono D 0 [] H _ hD (fun b o hb h => by rw [upd_ne hb]; exact h) (h0 D hD)⟩ (fun i H' _ hW => hW.2.1.seq hx) (fun i x H' hi hW => ⟨hw x, ?_⟩) (fun H' hW => ?_)
  · have hl := (List.getElem?_eq_some_iff.mp hi).1
    exact lc_turn mono (by omega) (hs i x hi) hW
  · obtain ⟨_, hS, acc, hacc, _, hR⟩ := hW
    exact hd D acc H' hD hS hacc hR
theorem e_lcR1 {n : Int} {k : Nat} (R : Addr → Nat → List V → Hp → Prop) (hk : n.toNat = k) (ha : ∀ Q : List V → Hp → Prop, Q [.int n] H → ta σ H Q) (hz : -100000 ≤ n ∧ n ≤ 100000) (h0 : ∀ D, H D = none → R D 0 [] H)
    (mono : ∀ D i acc H1 H2, H D = none → But D H1 H2 → R D i acc H1 → R D i acc H2) (hw : ∀ x, wipe ((wipe σ vs).set j (some x)) vs = wipe σ vs)
    (hs : ∀ i : Nat, i < k → LcT R H tt te ((wipe σ vs).set j (some (.int (i : Int)))) i) (hd : ∀ D acc H', H D = none → Same H H' → H' D = some (.lst acc) → R D k acc H' → Q (.ref D) H') : tLc (iRng1 ta) (gName j) tt te vs σ H Q := by
  subst hk
  refine ha _ ⟨n, rfl, by omega, by omega, fun D hD => ?_⟩
  refine lc_range (lo := 0) (LcW R H D) ⟨hD, same_new hD, [], upd_same, Nat.zero_le _, mono D 0 [] H _ hD (fun b o hb h => by rw [upd_ne hb]; exact h) (h0 D hD)⟩ (fun i H' hi hW => ?_) (fun H' hW => ?_)
  · rw [show (0 : Int) + (i : Int) = (i : Int) by omega]
    exact ⟨hw _, lc_turn mono (by omega) (hs i hi) hW⟩
  · obtain ⟨_, hS, acc, hacc, _, hR⟩ := hW
    exact hd D acc H' hD hS hacc hR
theorem e_lcR2 {a b : Int} {k : Nat} (R : Addr → Nat → List V → Hp → Prop) (hk : (b - a).toNat = k) (ha : ∀ Q : List V → Hp → Prop, Q [.int a, .int b] H → ta σ H Q) (hz : (-100000 ≤ a ∧ a ≤ 100000) ∧ -100000 ≤ b ∧ b ≤ 100000) (hk1 : k ≤ 100000) (h0 : ∀ D, H D = none → R D 0 [] H)
    (mono : ∀ D i acc H1 H2, H D = none → But D H1 H2 → R D i acc H1 → R D i acc H2) (hw : ∀ x, wipe ((wipe σ vs).set j (some x)) vs = wipe σ vs)
    (hs : ∀ i : Nat, i < k → LcT R H tt te ((wipe σ vs).set j (some (.int (a + (i : Int))))) i) (hd : ∀ D acc H', H D = none → Same H H' → H' D = some (.lst acc) → R D k acc H' → Q (.ref D) H') : tLc (iRng2 ta) (gName j) tt te vs σ H Q := by
  subst hk
  refine ha _ ⟨a, b, rfl, ⟨by omega, by omega, by omega, by omega⟩, fun D hD => ?_⟩
  refine lc_range (lo := a) (LcW R H D) ⟨hD, same_new hD, [], upd_same, Nat.zero_le _, mono D 0 [] H _ hD (fun b o hb h => by rw [upd_ne hb]; exact h) (h0 D hD)⟩ (fun i H' hi hW => ⟨hw _, lc_turn mono (by omega) (hs i hi) hW⟩) (fun H' hW => ?_)
  obtain ⟨_, hS, acc, hacc, _, hR⟩ := hW
  exact hd D acc H' hD hS hacc hR
/-! the list is told ahead: after i turns it holds G i -/
def LcG (G : Nat → List V) : Addr → Nat → List V → Hp → Prop := fun _ i acc _ => acc = G i
theorem lcg_mono {G : Nat → List V} : ∀ D i acc H1 H2, H D = none → But D H1 H2 → LcG G D i acc H1 → LcG G D i acc H2 := fun _ _ _ _ _ _ _ h => h
/-- a turn that keeps its item always -/
theorem lct_yes {G : Nat → List V} {i : Nat} {y : V} (hG : G (i + 1) = G i ++ [y]) (h : ∀ H' (K1 : VK), Same H H' → (∀ H2, Same H' H2 → K1 y H2) → te σ H' K1) : LcT (LcG G) H tYes te σ i := fun D acc H' K1 K0 hD hS hacc hR k1 k0 => by
  show if true = true then te σ H' K1 else K0 H'
  rw [if_pos rfl]
  exact h H' K1 hS fun H2 e => k1 y H2 e (by rw [show acc = G i from hR]; exact hG.symm)
end
end Fs
namespace Fs
open PySem PySem.Spec PyProof.Rows L2
section
variable {σ : L2.St} {H : Hp} {Q : VK} {K : PySem.W.Frag} {te : TE} {ta : TA} {vs : List Nat} {j : Nat}
/-- [f(x) for x in a list of ints] -/
theorem e_lcMapI {a : Addr} {cs : List Int} (f : Int → Int) (hx : SqL K H a (cs.map V.int)) (hz : cs.length ≤ 100000) (hw : ∀ x, wipe ((wipe σ vs).set j (some x)) vs = wipe σ vs)
    (hs : ∀ (i : Nat) (x : Int) (H' : Hp) (K1 : VK), i < cs.length → cs.getD i 0 = x → Same H H' → K1 (.int (f x)) H' → te ((wipe σ vs).set j (some (.int x))) H' K1)
    (hd : ∀ D H', H D = none → Same H H' → H' D = some (.lst ((cs.map f).map V.int)) → Q (.ref D) H') : tLc (iAt K a) (gName j) tYes te vs σ H Q := by
  refine e_lcL (xs := cs.map V.int) (LcG fun i => ((cs.map f).take i).map V.int) hx (by rw [List.length_map]; exact hz) (fun _ _ => rfl) lcg_mono hw (fun i x hx => ?_) (fun D acc H4 hD e4 hacc hR => ?_)
  · have hi : i < cs.length := by
      have := (List.getElem?_eq_some_iff.mp hx).1
      rw [List.length_map] at this
      exact this
    have hxv : x = V.int (cs.getD i 0) := by
      rw [List.getElem?_map, getD_get 0 hi] at hx
      exact (Option.some.inj hx).symm
    subst hxv
    refine lct_yes (y := .int (f (cs.getD i 0))) ?_ (fun H5 K1 e k1 => hs i _ H5 K1 hi rfl e (k1 H5 (Same.refl _)))
    rw [List.take_add_one, List.getElem?_map, getD_get 0 hi, List.map_append]
    rfl
  · replace hR : acc = ((cs.map f).take (cs.map V.int).length).map V.int := hR
    rw [List.length_map, List.take_of_length_le (by rw [List.length_map]; exact Nat.le_refl _)] at hR
    rw [hR] at hacc
    exact hd D H4 hD e4 hacc
/-- [f(k) for k in range(n)] -/
theorem e_lcRangeI {n : Int} {k : Nat} (f : Nat → Int) (hk : n.toNat = k) (ha : ∀ Q : List V → Hp → Prop, Q [.int n] H → ta σ H Q) (hz : -100000 ≤ n ∧ n ≤ 100000) (hw : ∀ x, wipe ((wipe σ vs).set j (some x)) vs = wipe σ vs)
    (hs : ∀ (i : Nat) (H' : Hp) (K1 : VK), i < k → Same H H' → K1 (.int (f i)) H' → te ((wipe σ vs).set j (some (.int (i : Int)))) H' K1)
    (hd : ∀ D H', H D = none → Same H H' → H' D = some (.lst (((List.range k).map f).map V.int)) → Q (.ref D) H') : tLc (iRng1 ta) (gName j) tYes te vs σ H Q := by
  refine e_lcR1 (LcG fun i => ((List.range i).map f).map V.int) hk ha hz (fun _ _ => rfl) lcg_mono hw (fun i hi => ?_) (fun D acc H4 hD e4 hacc hR => ?_)
  · refine lct_yes (y := .int (f i)) ?_ (fun H5 K1 e k1 => hs i H5 K1 hi e (k1 H5 (Same.refl _)))
    rw [List.range_succ, List.map_append, List.map_append]
    rfl
  · replace hR : acc = ((List.range k).map f).map V.int := hR
    rw [hR] at hacc
    exact hd D H4 hD e4 hacc
end
end Fs
/-! ## loops, by a word of the turn; a while by a word and a number that falls -/
namespace Fs
open PySem PySem.Spec PyProof.Rows L2
section
variable {σ : L2.St} {H : Hp} {K : PySem.W.Frag} {tl ta tb : TE} {t : TA} {tt : TT} {n bk ct : L2.St → Hp → Prop} {rt : VK} {u : TS} {g : TG}
theorem s_for0 {D : Ends} (q : tl σ H fun x H1 => ∃ a, x = .ref a ∧ tFor (iAt K a) g u D σ H1) : tFor (iList K tl) g u D σ H := q
theorem s_forL {a : Addr} {xs : List V} (Pv : Nat → L2.St → Hp → Prop) (hx : SqL K H a xs) (h0 : Pv 0 σ H) (hl : ∀ i σ' H', Pv i σ' H' → SqL K H' a xs)
    (hs : ∀ (i : Nat) x σ' H', xs[i]? = some x → Pv i σ' H' → g x σ' H' fun σ2 H2 => u ⟨Pv (i + 1), rt, n, Pv (i + 1)⟩ σ2 H2) (hd : ∀ σ' H', Pv xs.length σ' H' → n σ' H') : tFor (iAt K a) g u ⟨n, rt, bk, ct⟩ σ H :=
  ⟨⟨xs, hx⟩, for_list Pv h0 (fun i σ' H' _ h => hl i σ' H' h) hs hd⟩
theorem s_forRev {a : Addr} {xs : List V} (Pv : Nat → L2.St → Hp → Prop) (ha : ∀ Q : List V → Hp → Prop, Q [.ref a] H → t σ H Q) (hx : SqL K H a xs) (h0 : Pv 0 σ H) (hl : ∀ i σ' H', Pv i σ' H' → SqL K H' a xs)
    (hs : ∀ (i : Nat) x σ' H', i < xs.length → xs[xs.length - 1 - i]? = some x → Pv i σ' H' → g x σ' H' fun σ2 H2 => u ⟨Pv (i + 1), rt, n, Pv (i + 1)⟩ σ2 H2) (hd : ∀ σ' H', Pv xs.length σ' H' → n σ' H') : tFor (iRev K t) g u ⟨n, rt, bk, ct⟩ σ H :=
  ha _ ⟨a, xs, rfl, hx, RT.for_Itv Pv h0 hl hs hd⟩
theorem s_forRR {tr : L2.St → Hp → (Int → Int → Hp → Prop) → Prop} {a b : Int} {k : Nat} (Pv : Nat → L2.St → Hp → Prop) (hk : (b - a).toNat = k) (ha : ∀ Q : Int → Int → Hp → Prop, Q a b H → tr σ H Q) (hb : (-100000 ≤ a ∧ a ≤ 100000) ∧ -100000 ≤ b ∧ b ≤ 100000) (h0 : Pv 0 σ H)
    (hs : ∀ (i : Nat) σ' H', i < k → Pv i σ' H' → g (.int (a + ((k - 1 - i : Nat) : Int))) σ' H' fun σ2 H2 => u ⟨Pv (i + 1), rt, n, Pv (i + 1)⟩ σ2 H2) (hd : ∀ σ' H', Pv k σ' H' → n σ' H') : tFor (iRevR tr) g u ⟨n, rt, bk, ct⟩ σ H := by
  subst hk
  refine ha _ ⟨by omega, by omega, by omega, by omega, ?_⟩
  refine for_rangeC Pv h0 (fun i σ' H' hi hp => ?_) hd
  have q := hs i σ' H' hi hp
  rw [show a + (((b - a).toNat - 1 - i : Nat) : Int) = a + (((b - a).toNat : Nat) : Int) - 1 + (i : Nat) * (-1) by omega] at q
  exact q
theorem prg1_of {x : Int} {Q : Int → Int → Hp → Prop} (h : ta σ H fun v H1 => ∃ m, v = .int m ∧ Q 0 m H1) : tRg1 ta σ H Q := h
theorem prg2_of {Q : Int → Int → Hp → Prop} (h : ta σ H fun x H1 => tb σ H1 fun y H2 => ∃ i j, x = .int i ∧ y = .int j ∧ Q i j H2) : tRg2 ta tb σ H Q := h
theorem rg_int {i : Int} {R : Int → Prop} (q : R i) : ∃ m, V.int i = .int m ∧ R m := ⟨i, rfl, q⟩
theorem rg_ints {i j : Int} {R : Int → Int → Prop} (q : R i j) : ∃ a b, V.int i = .int a ∧ V.int j = .int b ∧ R a b := ⟨i, j, rfl, rfl, q⟩
theorem s_forS {z : Str} (Pv : Nat → L2.St → Hp → Prop) (ha : ∀ Q : VK, Q (.str z) H → tl σ H Q) (h0 : Pv 0 σ H)
    (hs : ∀ (i : Nat) c σ' H', z.cps[i]? = some c → Pv i σ' H' → g (.str ⟨#[c]⟩) σ' H' fun σ2 H2 => u ⟨Pv (i + 1), rt, n, Pv (i + 1)⟩ σ2 H2) (hd : ∀ σ' H', Pv z.cps.size σ' H' → n σ' H') : tFor (iStr tl) g u ⟨n, rt, bk, ct⟩ σ H := by
  refine ha _ ⟨z, rfl, fun i m σ' H' => m = z.cps.size - i ∧ i ≤ z.cps.size ∧ Pv i σ' H', ⟨z.cps.size, rfl, Nat.zero_le _, h0⟩, ?_⟩
  rintro i m σ' H' ⟨rfl, hi, hp⟩
  by_cases hlt : i < z.cps.size
  · refine .inr ⟨hlt, Pv (i + 1), fun σ2 H2 hp2 => ⟨z.cps.size - (i + 1), by omega, rfl, hlt, hp2⟩, fun x H2 hy => ?_⟩
    obtain ⟨rfl, c, hc, rfl⟩ := hy
    exact hs i c σ' _ hc hp
  · have e : i = z.cps.size := by omega
    subst e
    exact .inl ⟨Nat.le_refl _, hd σ' H' hp⟩
/-- a while's turn -/
structure WT (W : Nat → L2.St → Hp → Prop) (tt : TT) (u : TS) (n : L2.St → Hp → Prop) (rt : VK) (m : Nat) (σ : L2.St) (H : Hp) : Prop where
  turn : tt σ H fun b H1 => if b = true then ∃ N : L2.St → Hp → Prop, (∀ σ2 H2, N σ2 H2 → ∃ m', m' < m ∧ W m' σ2 H2) ∧ u ⟨N, rt, n, N⟩ σ H1 else n σ H1
theorem wt_of {W : Nat → L2.St → Hp → Prop} {m : Nat} {b : Bool} (h : Ans tt σ H b) (h1 : b = true → u ⟨fun σ2 H2 => ∃ m', m' < m ∧ W m' σ2 H2, rt, n, fun σ2 H2 => ∃ m', m' < m ∧ W m' σ2 H2⟩ σ H) (h2 : b = false → n σ H) : WT W tt u n rt m σ H := by
  refine ⟨h _ ?_⟩
  cases b with
  | true => exact ⟨_, fun _ _ z => z, h1 rfl⟩
  | false => exact h2 rfl
theorem s_while (W : Nat → L2.St → Hp → Prop) (m0 : Nat) (h0 : W m0 σ H) (hs : ∀ m σ' H', W m σ' H' → WT W tt u n rt m σ' H') : tWhile tt u ⟨n, rt, bk, ct⟩ σ H :=
  ⟨W, ⟨m0, h0⟩, fun m σ' H' hw => (hs m σ' H' hw).turn⟩
/-- l.append(e), l.clear() -/
theorem m_append {l : Addr} {xs : List V} {y : V} {Q : VK} (h : H l = some (.lst xs)) (hz : xs.length < 100000) (q : Q .non (upd H l (.lst (xs ++ [y])))) : rAppend (.ref l) [y] H Q := ⟨l, xs, y, rfl, rfl, h, Nat.lt_of_lt_of_le hz (by decide), q⟩
theorem m_appendI {l : Addr} {ns : List Int} {y : Int} {Q : VK} (h : H l = some (.lst (ns.map V.int))) (hz : ns.length < 100000) (q : Q .non (upd H l (.lst ((ns ++ [y]).map V.int)))) : rAppend (.ref l) [.int y] H Q :=
  m_append h (by rw [List.length_map]; exact hz) (by rw [List.map_append] at q; exact q)
theorem m_clear {l : Addr} {xs : List V} {Q : VK} (h : H l = some (.lst xs)) (q : Q .non (upd H l (.lst []))) : rClear (.ref l) [] H Q := ⟨l, xs, rfl, rfl, h, q⟩
theorem m_count {l : Addr} {ns : List Int} {k : Int} {Q : VK} (h : SqL K H l (ns.map V.int)) (q : Q (.int ((ns.count k : Nat) : Int)) H) : rCntI K (.ref l) [.int k] H Q := ⟨l, ns, k, rfl, rfl, h, q⟩
theorem m_bm {g : V → List V → Hp → VK → Prop} {l : Addr} {xs : List V} {Q : VK} (h : SqL K H l xs) (q : t σ H fun xs H2 => g (.ref l) xs H2 Q) : tyV K "list" (.ref l) H ∧ t σ H fun xs H2 => g (.ref l) xs H2 Q := ⟨.inl ⟨rfl, _, h⟩, q⟩
theorem m_bm0 {g : V → List V → Hp → VK → Prop} {l : Addr} {xs : List V} {Q : VK} (h : SqL K H l xs) (q : g (.ref l) [] H Q) : tyV K "list" (.ref l) H ∧ g (.ref l) [] H Q := ⟨.inl ⟨rfl, _, h⟩, q⟩
theorem e_bm0 {T : String} {g : V → List V → Hp → VK → Prop} {Q : VK} (q : ta σ H fun x H1 => tyV K T x H1 ∧ g x [] H1 Q) : tBM0 K T g ta σ H Q := q
theorem le_line {n : Nat} (h : n ≤ 100000) : n ≤ sizeLine := Nat.le_of_lt (small5 h)
theorem le_one {x : V} : [x].length ≤ sizeLine := le_line (by decide : 1 ≤ 100000)
theorem le_1 {x : V} : [x].length ≤ 100000 := (by decide : 1 ≤ 100000)
theorem le_2 {x y : V} : [x, y].length ≤ 100000 := (by decide : 2 ≤ 100000)
theorem le_two {x y : V} : [x, y].length ≤ sizeLine := le_line (by decide : 2 ≤ 100000)
theorem r_catI {a b : Addr} {ns ms : List Int} {Q : VK} (h1 : H a = some (.lst (ns.map V.int))) (h2 : H b = some (.lst (ms.map V.int))) (hz : ns.length + ms.length ≤ 100000) (q : ∀ p, H p = none → Q (.ref p) (upd H p (.lst ((ns ++ ms).map V.int)))) : rCat (.ref a) (.ref b) H Q :=
  ⟨a, b, _, _, rfl, rfl, h1, h2, by
    rw [List.length_map, List.length_map]
    exact le_line hz, fun p hp => by
    rw [← List.map_append]
    exact q p hp⟩
theorem n_cat {a b : Addr} {ns ms : List Int} {Q : VK} (h1 : H a = some (.lst (ns.map V.int))) (h2 : H b = some (.lst (ms.map V.int))) (hz : ns.length + ms.length ≤ 100000) (q : ∀ p H1, H p = none → Same H H1 → H1 p = some (.lst ((ns ++ ms).map V.int)) → Q (.ref p) H1) : rCat (.ref a) (.ref b) H Q :=
  r_catI h1 h2 hz fun p hp => q p _ hp (same_new hp) upd_same
theorem n_lst {xs : List V} {Q : VK} (hz : xs.length ≤ 100000) (q : ∀ p H1, H p = none → Same H H1 → H1 p = some (.lst xs) → Q (.ref p) H1) : NewL Q xs H := ⟨le_line hz, fun p hp => q p _ hp (same_new hp) upd_same⟩
theorem n_tup {xs : List V} {Q : VK} (hz : xs.length ≤ 100000) (q : ∀ p H1, H p = none → Same H H1 → H1 p = some (.tup xs) → Q (.ref p) H1) : NewT Q xs H := ⟨le_line hz, fun p hp => q p _ hp (same_new hp) upd_same⟩
theorem r_cat {a b : Addr} {xs ys : List V} {Q : VK} (h1 : H a = some (.lst xs)) (h2 : H b = some (.lst ys)) (hz : xs.length + ys.length ≤ sizeLine) (q : ∀ p, H p = none → Q (.ref p) (upd H p (.lst (xs ++ ys)))) : rCat (.ref a) (.ref b) H Q := ⟨a, b, xs, ys, rfl, rfl, h1, h2, hz, q⟩
end
end Fs
/-! ## two lists of ints compared; whole tests with calls in them -/
namespace Fs
open PySem PySem.Spec PyProof.Rows L2
theorem eqv_ints : ∀ ns ms : List Int, PyData.eqvAll (ns.map PyData.int) (ms.map PyData.int) = decide (ns = ms)
  | [], [] => by simp [PyData.eqvAll]
  | [], _ :: _ => by simp [PyData.eqvAll]
  | _ :: _, [] => by simp [PyData.eqvAll]
  | a :: r, b :: t => by
    simp only [List.map_cons, PyData.eqvAll, PyData.eqv, eqv_ints r t]
    by_cases h : a = b <;> by_cases h2 : r = t <;> simp [h, h2]
theorem lay_ints : ∀ ns : List Int, PyData.canLayAll0 (ns.map PyData.int) = true
  | [] => rfl
  | _ :: r => by simp [PyData.canLayAll0, PyData.canLay0, lay_ints r]
theorem dep_ints : ∀ ns : List Int, PyData.depthAll (ns.map PyData.int) = 0
  | [] => rfl
  | _ :: r => by simp [PyData.depthAll, PyData.depth, dep_ints r]
theorem shp_ints (ns : List Int) : SeqAt.shaped (.list (ns.map PyData.int)) = true := by simp [SeqAt.shaped, PyData.canLay0, PyData.depth, lay_ints, dep_ints]
theorem dp_ints {K : PySem.W.Frag} {H : Hp} : ∀ ns : List Int, DpAll K H (ns.map V.int) (ns.map PyData.int)
  | [] => .nil
  | i :: r => .cons (.int i) (dp_ints r)
theorem dp_list {K : PySem.W.Frag} {H : Hp} {a : Addr} {ns : List Int} (h : SqL K H a (ns.map V.int)) : Dp K H (.ref a) (.list (ns.map PyData.int)) := .lst h (dp_ints ns)
section
variable {σ : L2.St} {H : Hp} {K : PySem.W.Frag} {Q : VK} {QB : Bool → Hp → Prop} {tt tu : TT}
theorem r_eqL {a b : Addr} {ns ms : List Int} (h1 : SqL K H a (ns.map V.int)) (h2 : SqL K H b (ms.map V.int)) (q : Q (.bl (decide (ns = ms))) H) : rEqD K (.ref a) (.ref b) H Q :=
  ⟨_, _, dp_list h1, dp_list h2, shp_ints ns, shp_ints ms, by
    rw [PyData.eqv, eqv_ints]
    exact q⟩
theorem r_neL {a b : Addr} {ns ms : List Int} (h1 : SqL K H a (ns.map V.int)) (h2 : SqL K H b (ms.map V.int)) (q : Q (.bl (!decide (ns = ms))) H) : rNeD K (.ref a) (.ref b) H Q :=
  ⟨_, _, dp_list h1, dp_list h2, shp_ints ns, shp_ints ms, by
    rw [PyData.eqv, eqv_ints]
    exact q⟩
theorem t_or (q : tt σ H fun c H1 => if c = true then QB true H1 else tu σ H1 QB) : tOr tt tu σ H QB := q
theorem t_and (q : tt σ H fun c H1 => if c = true then tu σ H1 QB else QB false H1) : tAnd tt tu σ H QB := q
theorem t_not (q : tt σ H fun c H1 => QB (!c) H1) : tNot tt σ H QB := q
theorem i_nt {A B : Prop} (h : B) : if (!true) = true then A else B := h
theorem i_nf {A B : Prop} (h : A) : if (!false) = true then A else B := h
theorem i_nn {c : Bool} {A B : Prop} (hc : c = true) (h : B) : if (!c) = true then A else B := by
  subst hc
  exact h
theorem i_yes {c : Bool} {A B : Prop} (hc : c = true) (h : A) : if c = true then A else B := by
  subst hc
  exact h
theorem i_no {c : Bool} {A B : Prop} (hc : c = false) (h : B) : if c = true then A else B := by
  subst hc
  exact h
/-- 10 ** k -/
theorem e_p12 (q : Q (.int 1000000000000) H) : rI CPow (fun i j => V.int (i ^ j.toNat)) (.int 10) (.int 12) H Q := ⟨10, 12, rfl, rfl, ⟨by decide, by decide, by decide⟩, q⟩
theorem e_p15 (q : Q (.int 1000000000000000) H) : rI CPow (fun i j => V.int (i ^ j.toNat)) (.int 10) (.int 15) H Q := ⟨10, 15, rfl, rfl, ⟨by decide, by decide, by decide⟩, q⟩
theorem e_p30 (q : Q (.int 1000000000000000000000000000000) H) : rI CPow (fun i j => V.int (i ^ j.toNat)) (.int 10) (.int 30) H Q := ⟨10, 30, rfl, rfl, ⟨by decide, by decide, by decide⟩, q⟩
theorem e_p39 (q : Q (.int 1000000000000000000000000000000000000000) H) : rI CPow (fun i j => V.int (i ^ j.toNat)) (.int 10) (.int 39) H Q := ⟨10, 39, rfl, rfl, ⟨by decide, by decide, by decide⟩, q⟩
end
/-- nothing is asked of a def with no calls left -/
theorem Own.zero {P : Program} {w : World} {K : PySem.W.Frag} {mg : Str → Option Value} {base : Heap} {x : Str} {st : Stmt} {ps : List Str} {sp : Sp} (F : Own K mg x st ps) (no : ∀ vs H Q E, ¬ sp vs H Q E) : Cal P w K mg base CX0 0 x ps sp := by
  obtain ⟨f, fd, F, g, b⟩ := F.ex
  exact ⟨f, fd, ⟨fun vs H Q E h => absurd h (no vs H Q E), fun A outer s H args us vs Q E _ _ _ _ h => absurd h (no vs H Q E)⟩, g, F.kp, b, fdAt_of F⟩
end Fs
/-! ## dicts with whole numbers as keys -/
namespace Fs
open PySem PySem.Spec PyProof.Rows L2
section
variable {σ : L2.St} {H : Hp} {K : PySem.W.Frag} {Q : VK} {tv td ty : TE} {n bk ct : L2.St → Hp → Prop} {rt : VK}
theorem s_dput (q : tv σ H fun v H1 => td σ H1 fun x H2 => ty σ H2 fun y H3 => ∃ a H4, x = .ref a ∧ DPut H3 a y v H4 ∧ n σ H4) : sDPut td ty tv ⟨n, rt, bk, ct⟩ σ H := q
theorem d_put {a : Addr} {kvs : List (Key × V)} {k : Int} {v : V} {R : Hp → Prop} (h : H a = some (.dK kvs)) (hl : kvs.length < 100000) (q : R (upd H a (.dK (putK kvs (Sum.inl k) v)))) : ∃ b H4, V.ref a = .ref b ∧ DPut H b (.int k) v H4 ∧ R H4 :=
  ⟨a, _, rfl, DPut.k (k := Sum.inl k) h (small5 (Nat.le_of_lt hl)), q⟩
theorem d_din (q : ty σ H fun y H1 => td σ H1 fun x H2 => ∃ a o, x = .ref a ∧ DGet H2 a y o ∧ Q (.bl o.isSome) H2) : tDIn ty td σ H Q := q
theorem d_dget (q : td σ H fun x H1 => ty σ H1 fun y H2 => ∃ a v, x = .ref a ∧ DGet H2 a y (some v) ∧ Q v H2) : tDGet td ty σ H Q := q
theorem d_in {a : Addr} {kvs : List (Key × V)} {k : Int} {o : Option V} {R : Option V → Prop} (h : H a = some (.dK kvs)) (hv : valV kvs (Sum.inl k) = o) (q : R o) : ∃ b o, V.ref a = .ref b ∧ DGet H b (.int k) o ∧ R o :=
  ⟨a, _, rfl, DGet.k (k := Sum.inl k) h, by
    rw [hv]
    exact q⟩
theorem d_get {a : Addr} {kvs : List (Key × V)} {k : Int} {v : V} {R : V → Prop} (h : H a = some (.dK kvs)) (hv : valV kvs (Sum.inl k) = some v) (q : R v) : ∃ b v, V.ref a = .ref b ∧ DGet H b (.int k) (some v) ∧ R v :=
  ⟨a, v, rfl, by
    have g : DGet H a (.int k) (valV kvs (Sum.inl k : Key)) := DGet.k (k := Sum.inl k) h
    rw [hv] at g
    exact g, q⟩
theorem d_new (q : ∀ p, H p = none → Q (.ref p) (upd H p (.dK []))) : tDNewK σ H Q := q
end
end Fs
/-! ## slices, a list's place stored, a dict displayed -/
namespace Fs
open PySem PySem.Spec PyProof.Rows L2
section
variable {σ : L2.St} {H : Hp} {K : PySem.W.Frag} {Q : VK} {te : TE} {tl th : TO} {QO : Option Int → Hp → Prop}
theorem e_sl {r : V → Option Int → Option Int → Hp → VK → Prop} (q : te σ H fun x H1 => tl σ H1 fun l H2 => th σ H2 fun u H3 => r x l u H3 Q) : tSl r te tl th σ H Q := q
theorem e_noPart (q : QO none H) : tNoPart σ H QO := q
theorem e_part (q : te σ H fun x H1 => ∃ i, x = .int i ∧ QO (some i) H1) : tPart te σ H QO := q
theorem cut_take (ns : List Int) (i : Nat) : cutV (ns.map V.int) none (some (i : Int)) = (ns.take i).map V.int := by
  unfold cutV
  rw [HT.sIx_none, HT.sIx_nat, List.length_map, List.drop_zero, Nat.sub_zero, ← List.map_take]
  congr 1
  by_cases h : i ≤ ns.length
  · rw [Nat.min_eq_left h]
  · rw [Nat.min_eq_right (by omega), List.take_of_length_le (Nat.le_refl _), List.take_of_length_le (by omega)]
theorem cut_drop (ns : List Int) (i : Nat) : cutV (ns.map V.int) (some (i : Int)) none = (ns.drop i).map V.int := by
  unfold cutV
  rw [HT.sIx_none, HT.sIx_nat, List.length_map, ← List.map_drop, ← List.map_take]
  congr 1
  by_cases h : i ≤ ns.length
  · rw [Nat.min_eq_left h, List.take_of_length_le]
    rw [List.length_drop]
    omega
  · rw [Nat.min_eq_right (by omega), List.drop_of_length_le (Nat.le_refl _), List.drop_of_length_le (show ns.length ≤ i by omega), List.take_nil]
theorem r_take {a : Addr} {ns : List Int} {i : Int} (h : SqL K H a (ns.map V.int)) (hi : 0 ≤ i) (q : ∀ p, H p = none → Q (.ref p) (upd H p (.lst ((ns.take i.toNat).map V.int)))) : rSlL K (.ref a) none (some i) H Q :=
  ⟨a, _, rfl, h, fun p hp => by
    have e := cut_take ns i.toNat
    rw [Int.toNat_of_nonneg hi] at e
    rw [e]
    exact q p hp⟩
theorem r_drop {a : Addr} {ns : List Int} {i : Int} (h : SqL K H a (ns.map V.int)) (hi : 0 ≤ i) (q : ∀ p, H p = none → Q (.ref p) (upd H p (.lst ((ns.drop i.toNat).map V.int)))) : rSlL K (.ref a) (some i) none H Q :=
  ⟨a, _, rfl, h, fun p hp => by
    have e := cut_drop ns i.toNat
    rw [Int.toNat_of_nonneg hi] at e
    rw [e]
    exact q p hp⟩
theorem n_take {a : Addr} {ns : List Int} {i : Int} (h : SqL K H a (ns.map V.int)) (hi : 0 ≤ i) (q : ∀ p H1, H p = none → Same H H1 → H1 p = some (.lst ((ns.take i.toNat).map V.int)) → Q (.ref p) H1) : rSlL K (.ref a) none (some i) H Q := r_take h hi fun p hp => q p _ hp (same_new hp) upd_same
theorem n_drop {a : Addr} {ns : List Int} {i : Int} (h : SqL K H a (ns.map V.int)) (hi : 0 ≤ i) (q : ∀ p H1, H p = none → Same H H1 → H1 p = some (.lst ((ns.drop i.toNat).map V.int)) → Q (.ref p) H1) : rSlL K (.ref a) (some i) none H Q := r_drop h hi fun p hp => q p _ hp (same_new hp) upd_same
theorem m_set {l : Addr} {ns : List Int} {i y : Int} {Q : Hp → Prop} (h : H l = some (.lst (ns.map V.int))) (h0 : 0 ≤ i) (h1 : i < ns.length) (q : Q (upd H l (.lst ((ns.set i.toNat y).map V.int)))) : rSetL (.ref l) (.int i) (.int y) H Q := by
  refine ⟨l, _, i, i.toNat, rfl, rfl, h, ?_, ?_⟩
  · unfold ixN
    rw [if_pos h0, List.length_map, if_pos h1]
  · rw [List.map_set] at q
    exact q
theorem d_disp1 {k : Int} {v : V} (q : ∀ p, H p = none → Q (.ref p) (upd H p (.dK [(Sum.inl k, v)]))) : tDisp [(tC (.int k), tC v)] σ H Q := fun p hp =>
  ⟨upd_same, [(Sum.inl k, v)], rfl, (show 1 ≤ 15 by decide), by
    rw [upd_upd]
    exact q p hp⟩
theorem ix_at {X : Cx} {K : PySem.W.Frag} (e : X.K = K := by rfl) : IxR X (rIxL K) := by
  subst e
  exact ix_list
theorem e_eqB {i j : Bool} (q : Q (.bl (decide (i = j))) H) : rEq (.bl i) (.bl j) H Q := ⟨rfl, by
  rw [dec_bl, Bool.beq_eq_decide_eq]
  exact q⟩
theorem e_neB {i j : Bool} (q : Q (.bl (!decide (i = j))) H) : rNe (.bl i) (.bl j) H Q := ⟨rfl, by
  rw [dec_bl, Bool.beq_eq_decide_eq]
  exact q⟩
end
end Fs

/-! ## Plain functions and promises, no text in sight -/
namespace Fs
open PySem PySem.Spec PyProof.Rows L2
/-- script[k], or 0 -/
def cellAt (ns : List Int) (k : Int) : Int := if k < ns.length then gi ns k else 0
def spCellAt (K : PySem.W.Frag) : Sp := fun vs H Q _ => ∃ (a : Addr) (ns : List Int) (k : Int), vs = [.ref a, .int k] ∧ SqL K H a (ns.map V.int) ∧ 0 ≤ k ∧ Q (.int (cellAt ns k)) H
theorem c_cell_at {K : PySem.W.Frag} {a : Addr} {ns : List Int} {k : Int} {H : Hp} {Q : VK} {E : XK} (h : SqL K H a (ns.map V.int)) (h0 : 0 ≤ k) (q : Q (.int (cellAt ns k)) H) : spCellAt K [.ref a, .int k] H Q E := ⟨a, ns, k, rfl, h, h0, q⟩
/-- a drawn number below a bound -/
def spDraw : Sp := fun vs H Q _ => ∃ (cell k bound : Int), vs = [.int cell, .int k, .int bound] ∧ (0 ≤ k ∧ k ≤ 1000000) ∧ (0 < bound ∧ bound < 1073741824) ∧ ∀ r : Int, 0 ≤ r → r < bound → Q (.int r) H
theorem c_draw {cell k bound : Int} {H : Hp} {Q : VK} {E : XK} (h : 0 ≤ k ∧ k ≤ 1000000) (h0 : 0 < bound ∧ bound < 1073741824) (q : ∀ r : Int, 0 ≤ r → r < bound → Q (.int r) H) : spDraw [.int cell, .int k, .int bound] H Q E := ⟨cell, k, bound, rfl, h, h0, q⟩
/-- isinstance(x, int) and not isinstance(x, bool), of a whole number -/
def spWhole : Sp := fun vs H Q _ => ∃ i : Int, vs = [.int i] ∧ Q (.bl true) H
theorem c_whole {i : Int} {H : Hp} {Q : VK} {E : XK} (q : Q (.bl true) H) : spWhole [.int i] H Q E := ⟨i, rfl, q⟩
/-- a list of whole numbers -/
def spNumbers : Sp := fun vs H Q _ => ∃ (a : Addr) (ns : List Int), vs = [.ref a] ∧ H a = some (.lst (ns.map V.int)) ∧ ns.length ≤ 100000 ∧ ∀ H', Same H H' → Q (.bl true) H'
theorem c_numbers {a : Addr} {ns : List Int} {H : Hp} {Q : VK} {E : XK} (h : H a = some (.lst (ns.map V.int))) (hl : ns.length ≤ 100000) (q : ∀ H', Same H H' → Q (.bl true) H') : spNumbers [.ref a] H Q E := ⟨a, ns, rfl, h, hl, q⟩
/-! ### the doubling chain -/
/-- by the figures in base two -/
def dbl (n : Nat) : List Int := if h : n ≤ 1 then [1] else dbl (n / 2) ++ [2 * ((n / 2 : Nat) : Int)] ++ (if n % 2 = 1 then [(n : Int)] else [])
termination_by n
decreasing_by omega
/-- the figures, the lowest first, without the highest -/
def figs (n : Nat) : List Int := if h : n ≤ 1 then [] else ((n % 2 : Nat) : Int) :: figs (n / 2)
termination_by n
decreasing_by omega
/-- the chain from the figures -/
def bld : List Int → List Int
  | [] => [1]
  | f :: r => if f = 1 then (bld r ++ [gi (bld r) (-1) * 2]) ++ [gi (bld r ++ [gi (bld r) (-1) * 2]) (-1) + 1] else bld r ++ [gi (bld r) (-1) * 2]
theorem gi_snoc (ns : List Int) (x : Int) : gi (ns ++ [x]) (-1) = x := by
  rw [gi_last _ (by simp), List.length_append, List.length_singleton, Nat.add_sub_cancel, List.getD_eq_getElem?_getD, List.getElem?_append_right (Nat.le_refl _), Nat.sub_self]
  rfl
theorem dbl_one {n : Nat} (h : n ≤ 1) : dbl n = [1] := by rw [dbl, dif_pos h]
theorem dbl_step {n : Nat} (h : ¬ n ≤ 1) : dbl n = dbl (n / 2) ++ [2 * ((n / 2 : Nat) : Int)] ++ (if n % 2 = 1 then [(n : Int)] else []) := by rw [dbl, dif_neg h]
theorem dbl_last : ∀ n : Nat, 1 ≤ n → gi (dbl n) (-1) = (n : Int) := by
  intro n h1
  by_cases h : n ≤ 1
  · have e : n = 1 := by omega
    subst e
    rw [dbl_one (Nat.le_refl 1)]
    rfl
  · rw [dbl_step h]
    by_cases h2 : n % 2 = 1
    · rw [if_pos h2, gi_snoc]
    · rw [if_neg h2, List.append_nil, gi_snoc]
      omega
theorem bld_figs : ∀ n : Nat, 1 ≤ n → bld (figs n) = dbl n := by
  intro n
  induction n using Nat.strongRecOn with
  | ind n ih =>
    intro h1
    by_cases h : n ≤ 1
    · rw [figs, dif_pos h, dbl_one h]
      rfl
    · rw [figs, dif_neg h, dbl_step h]
      have e := ih (n / 2) (by omega) (by omega)
      have el := dbl_last (n / 2) (by omega)
      unfold bld
      rw [e, el]
      by_cases h2 : n % 2 = 1
      · rw [if_pos (by omega), if_pos h2, gi_snoc]
        rw [show ((n / 2 : Nat) : Int) * 2 = 2 * ((n / 2 : Nat) : Int) by omega, show 2 * ((n / 2 : Nat) : Int) + 1 = (n : Int) by omega]
      · rw [if_neg (by omega), if_neg h2, List.append_nil]
        rw [show ((n / 2 : Nat) : Int) * 2 = 2 * ((n / 2 : Nat) : Int) by omega]
theorem bld_len : ∀ fs : List Int, 1 ≤ (bld fs).length ∧ (bld fs).length ≤ 2 * fs.length + 1
  | [] => ⟨Nat.le_refl _, Nat.le_refl _⟩
  | f :: r => by
    have ih := bld_len r
    unfold bld
    split
    · simp only [List.length_append, List.length_cons, List.length_nil]
      omega
    · simp only [List.length_append, List.length_cons, List.length_nil]
      omega
theorem figs_len : ∀ (k n : Nat), n < 2 ^ (k + 1) → (figs n).length ≤ k
  | 0, n, h => by
    rw [figs, dif_pos (by omega)]
    exact Nat.le_refl _
  | k + 1, n, h => by
    by_cases h1 : n ≤ 1
    · rw [figs, dif_pos h1]
      exact Nat.zero_le _
    · rw [figs, dif_neg h1, List.length_cons]
      have := figs_len k (n / 2) (by rw [Nat.pow_succ] at h; omega)
      omega
/-- the doubling chain of a number from 1 to 10 ** 30 -/
def spDoubling : Sp := fun vs H Q _ => ∃ n : Nat, vs = [.int (n : Int)] ∧ (1 ≤ n ∧ n ≤ 10 ^ 30) ∧ ∀ p H', Same H H' → H p = none → H' p = some (.lst ((dbl n).map V.int)) → Q (.ref p) H'
theorem c_doubling {i : Int} {n : Nat} {H : Hp} {Q : VK} {E : XK} (e : i = (n : Int)) (h : 1 ≤ n ∧ n ≤ 10 ^ 30) (q : ∀ p H', Same H H' → H p = none → H' p = some (.lst ((dbl n).map V.int)) → Q (.ref p) H') : spDoubling [.int i] H Q E := ⟨n, by rw [e], h, q⟩
/-- the law's own doubling, with so many calls left -/
def spDbl2 (d : Nat) : Sp := fun vs H Q _ => ∃ n : Nat, vs = [.int (n : Int)] ∧ (1 ≤ n ∧ n < 2 ^ d) ∧ ∀ p H', Same H H' → H p = none → H' p = some (.lst ((dbl n).map V.int)) → Q (.ref p) H'
theorem c_dbl2 {d : Nat} {i : Int} {n : Nat} {H : Hp} {Q : VK} {E : XK} (e : i = (n : Int)) (h : 1 ≤ n ∧ n < 2 ^ d) (q : ∀ p H', Same H H' → H p = none → H' p = some (.lst ((dbl n).map V.int)) → Q (.ref p) H') : spDbl2 d [.int i] H Q E := ⟨n, by rw [e], h, q⟩
theorem dbl_len (n : Nat) (h1 : 1 ≤ n) (h : n ≤ 10 ^ 30) : 1 ≤ (dbl n).length ∧ (dbl n).length ≤ 199 := by
  have hfl : (figs n).length ≤ 99 := figs_len 99 n (Nat.lt_of_le_of_lt h (by decide))
  have hb := bld_len (figs n)
  rw [bld_figs n h1] at hb
  omega
/-! isinstance -/
section
variable {K : PySem.W.Frag} {H : Hp} {Q : VK}
theorem kt {K : PySem.W.Frag} {H : Hp} {Q : VK} {x : V} {m n : String} {b : Bool} (t : TyOf K H x (.type m)) (h : kitB m n = some b) (q : Q (.bl b) H) : rIsi K [x, .ty n] H Q := ⟨x, .ty n, .type m, .type n, b, rfl, .ty n, .base t, kit_ty h, q⟩
theorem r_int_int {i : Int} (q : Q (.bl true) H) : rIsi K [.int i, .ty "int"] H Q := kt (.int i) (by decide +kernel) q
theorem r_int_bool {i : Int} (q : Q (.bl false) H) : rIsi K [.int i, .ty "bool"] H Q := kt (.int i) (by decide +kernel) q
theorem r_bool_bool {i : Bool} (q : Q (.bl true) H) : rIsi K [.bl i, .ty "bool"] H Q := kt (.bl i) (by decide +kernel) q
theorem r_str_str {i : Str} (q : Q (.bl true) H) : rIsi K [.str i, .ty "str"] H Q := kt (.str i) (by decide +kernel) q
theorem r_str_list {i : Str} (q : Q (.bl false) H) : rIsi K [.str i, .ty "list"] H Q := kt (.str i) (by decide +kernel) q
theorem r_list_list {a : Addr} {xs : List V} (h : H a = some (.lst xs)) (q : Q (.bl true) H) : rIsi K [.ref a, .ty "list"] H Q := kt (.lst h) (by decide +kernel) q
theorem r_tup_tup {a : Addr} {xs : List V} (h : H a = some (.tup xs)) (q : Q (.bl true) H) : rIsi K [.ref a, .ty "tuple"] H Q := kt (.tup h) (by decide +kernel) q
end
end Fs

/-! ## Chains, plainly -/
namespace Fs
open PySem PySem.Spec PyProof.Rows L2
/-- the last place below m at which x stands -/
def lastIx (ns : List Int) : Nat → Int → Option Nat
  | 0, _ => none
  | k + 1, x => if ns.getD k 0 = x then some k else lastIx ns k x
/-- the link of a place, looked for below m -/
def linkGo (ns : List Int) (place : Nat) : Nat → Option (Nat × Nat)
  | 0 => none
  | k + 1 => match lastIx ns place (ns.getD place 0 - ns.getD k 0) with
    | some j => if j ≤ k then some (j, k) else linkGo ns place k
    | none => linkGo ns place k
def linkOf (ns : List Int) (place : Nat) : Option (Nat × Nat) := linkGo ns place place
/-- a place of a chain -/
def stepOk (ns : List Int) (p : Nat) : Bool := decide (ns.getD (p - 1) 0 < ns.getD p 0) && (linkOf ns p).isSome
/-- is_chain -/
structure IsCh (ns : List Int) : Prop where
  lo : 1 ≤ ns.length
  hi : ns.length ≤ 250
  one : ns.getD 0 0 = 1
  step : ∀ p, 1 ≤ p → p < ns.length → stepOk ns p = true
theorem lastIx_lt {ns : List Int} {x : Int} : ∀ {m j : Nat}, lastIx ns m x = some j → j < m ∧ ns.getD j 0 = x
  | 0, j, h => by cases h
  | m + 1, j, h => by
    unfold lastIx at h
    split at h
    · rename_i e
      obtain rfl := Option.some.inj h
      exact ⟨Nat.lt_succ_self _, e⟩
    · have := lastIx_lt h
      exact ⟨by omega, this.2⟩
/-- what a place's link is, as a value -/
def LinkV (o : Option (Nat × Nat)) (v : V) (H : Hp) : Prop := match o with
  | none => v = .non
  | some p => ∃ t, v = .ref t ∧ H t = some (.tup [.int (p.1 : Int), .int (p.2 : Int)])
def spLinkOf : Sp := fun vs H Q _ => ∃ (a : Addr) (ns : List Int) (p : Nat), vs = [.ref a, .int (p : Int)] ∧ H a = some (.lst (ns.map V.int)) ∧ (p < ns.length ∧ ns.length ≤ 1000) ∧ ∀ v H', Same H H' → LinkV (linkOf ns p) v H' → (∀ t, v = .ref t → H t = none) → Q v H'
theorem c_link_of {a : Addr} {ns : List Int} {i : Int} {p : Nat} {H : Hp} {Q : VK} {E : XK} (e : i = (p : Int)) (h : H a = some (.lst (ns.map V.int))) (hp : p < ns.length ∧ ns.length ≤ 1000) (q : ∀ v H', Same H H' → LinkV (linkOf ns p) v H' → (∀ t, v = .ref t → H t = none) → Q v H') : spLinkOf [.ref a, .int i] H Q E :=
  ⟨a, ns, p, by rw [e], h, hp, q⟩
def spIsChain : Sp := fun vs H Q _ => ∃ (a : Addr) (ns : List Int), vs = [.ref a] ∧ H a = some (.lst (ns.map V.int)) ∧ ns.length ≤ 1000 ∧ ∀ (b : Bool) H', Same H H' → (b = true ↔ IsCh ns) → Q (.bl b) H'
theorem c_is_chain {a : Addr} {ns : List Int} {H : Hp} {Q : VK} {E : XK} (h : H a = some (.lst (ns.map V.int))) (hl : ns.length ≤ 1000) (q : ∀ (b : Bool) H', Same H H' → (b = true ↔ IsCh ns) → Q (.bl b) H') : spIsChain [.ref a] H Q E := ⟨a, ns, rfl, h, hl, q⟩
end Fs

/-! ## Chains: what a link is; is_chain and the chains as they are told -/
namespace Fs
open PySem PySem.Spec PyProof.Rows L2
/-- each number but the first is greater than the one ahead of it, and the sum of two earlier ones -/
structure IsAdd (ns : List Int) : Prop where
  lo : 1 ≤ ns.length
  one : ns.getD 0 0 = 1
  step : ∀ p, 1 ≤ p → p < ns.length → ns.getD (p - 1) 0 < ns.getD p 0 ∧ ∃ i j, i < p ∧ j < p ∧ ns.getD p 0 = ns.getD i 0 + ns.getD j 0
theorem mono_of {ns : List Int} {m : Nat} (h : ∀ p, 1 ≤ p → p < m → ns.getD (p - 1) 0 < ns.getD p 0) : ∀ {j i : Nat}, i < j → j < m → ns.getD i 0 < ns.getD j 0
  | 0, i, h1, _ => by omega
  | j + 1, i, h1, h2 => by
    have q := h (j + 1) (by omega) h2
    rw [Nat.add_sub_cancel] at q
    by_cases e : i = j
    · subst e
      exact q
    · have := mono_of h (j := j) (i := i) (by omega) (by omega)
      omega
theorem inj_of {ns : List Int} {m : Nat} (h : ∀ p, 1 ≤ p → p < m → ns.getD (p - 1) 0 < ns.getD p 0) {i j : Nat} (hi : i < m) (hj : j < m) (e : ns.getD i 0 = ns.getD j 0) : i = j := by
  by_cases h1 : i < j
  · have := mono_of h h1 hj
    omega
  · by_cases h2 : j < i
    · have := mono_of h h2 hi
      omega
    · omega
theorem lastIx_none {ns : List Int} {x : Int} : ∀ {m : Nat}, lastIx ns m x = none → ∀ j, j < m → ns.getD j 0 ≠ x
  | 0, _, j, hj => by omega
  | m + 1, h, j, hj => by
    unfold lastIx at h
    split at h
    · cases h
    · rename_i e
      by_cases ej : j = m
      · subst ej
        exact e
      · exact lastIx_none h j (by omega)
theorem linkGo_some {ns : List Int} {p : Nat} : ∀ {m : Nat} {jk : Nat × Nat}, linkGo ns p m = some jk → jk.1 ≤ jk.2 ∧ jk.2 < m ∧ jk.1 < p ∧ ns.getD jk.1 0 + ns.getD jk.2 0 = ns.getD p 0
  | 0, jk, h => by cases h
  | m + 1, jk, h => by
    unfold linkGo at h
    cases hx : lastIx ns p (ns.getD p 0 - ns.getD m 0) with
    | none =>
      rw [hx] at h
      have := linkGo_some (m := m) h
      exact ⟨this.1, by omega, this.2.2⟩
    | some j =>
      rw [hx] at h
      replace h : (if j ≤ m then some (j, m) else linkGo ns p m) = some jk := h
      by_cases hj : j ≤ m
      · rw [if_pos hj] at h
        obtain rfl := Option.some.inj h
        have := lastIx_lt hx
        exact ⟨hj, Nat.lt_succ_self _, this.1, by have := this.2; show ns.getD j 0 + ns.getD m 0 = _; omega⟩
      · rw [if_neg hj] at h
        have := linkGo_some (m := m) h
        exact ⟨this.1, by omega, this.2.2⟩
theorem linkGo_none {ns : List Int} {p : Nat} (hm : ∀ q, 1 ≤ q → q < p → ns.getD (q - 1) 0 < ns.getD q 0) : ∀ {m : Nat}, m ≤ p → linkGo ns p m = none → ∀ j k, j ≤ k → k < m → ns.getD j 0 + ns.getD k 0 ≠ ns.getD p 0
  | 0, _, _, j, k, _, hk => by omega
  | m + 1, hp, h, j, k, hjk, hk => by
    unfold linkGo at h
    by_cases ek : k = m
    · subst ek
      intro e
      cases hx : lastIx ns p (ns.getD p 0 - ns.getD k 0) with
      | none => exact lastIx_none hx j (by omega) (by omega)
      | some i =>
        rw [hx] at h
        replace h : (if i ≤ k then some (i, k) else linkGo ns p k) = none := h
        have hi := lastIx_lt hx
        have eij : i = j := inj_of hm hi.1 (by omega) (by have := hi.2; omega)
        rw [if_pos (by omega)] at h
        cases h
    · have h2 : linkGo ns p m = none := by
        cases hx : lastIx ns p (ns.getD p 0 - ns.getD m 0) with
        | none =>
          rw [hx] at h
          exact h
        | some i =>
          rw [hx] at h
          replace h : (if i ≤ m then some (i, m) else linkGo ns p m) = none := h
          by_cases hi : i ≤ m
          · rw [if_pos hi] at h
            cases h
          · rw [if_neg hi] at h
            exact h
      exact linkGo_none hm (by omega) h2 j k hjk (by omega)
theorem step_iff {ns : List Int} {p : Nat} (h1 : 1 ≤ p) (hm : ∀ q, 1 ≤ q → q < p → ns.getD (q - 1) 0 < ns.getD q 0) : stepOk ns p = true ↔ ns.getD (p - 1) 0 < ns.getD p 0 ∧ ∃ i j, i < p ∧ j < p ∧ ns.getD p 0 = ns.getD i 0 + ns.getD j 0 := by
  unfold stepOk linkOf
  constructor
  · intro h
    rw [Bool.and_eq_true, decide_eq_true_eq] at h
    obtain ⟨h2, h3⟩ := h
    obtain ⟨jk, e⟩ := Option.isSome_iff_exists.mp h3
    have := linkGo_some e
    exact ⟨h2, jk.1, jk.2, this.2.2.1, this.2.1, this.2.2.2.symm⟩
  · rintro ⟨h2, i, j, hi, hj, e⟩
    rw [Bool.and_eq_true, decide_eq_true_eq]
    refine ⟨h2, ?_⟩
    cases hx : linkGo ns p p with
    | some jk => rfl
    | none =>
      exfalso
      by_cases hij : i ≤ j
      · exact linkGo_none hm (Nat.le_refl _) hx i j hij hj e.symm
      · exact linkGo_none hm (Nat.le_refl _) hx j i (by omega) hi (by omega)
theorem ch_iff (ns : List Int) : IsCh ns ↔ IsAdd ns ∧ ns.length ≤ 250 := by
  constructor
  · intro h
    have hm : ∀ p, 1 ≤ p → p < ns.length → ns.getD (p - 1) 0 < ns.getD p 0 := fun p h1 h2 => by
      have q := h.step p h1 h2
      unfold stepOk at q
      rw [Bool.and_eq_true, decide_eq_true_eq] at q
      exact q.1
    exact ⟨⟨h.lo, h.one, fun p h1 h2 => (step_iff h1 fun q a b => hm q a (by omega)).mp (h.step p h1 h2)⟩, h.hi⟩
  · rintro ⟨h, hl⟩
    exact ⟨h.lo, hl, h.one, fun p h1 h2 => (step_iff h1 fun q a b => (h.step q a (by omega)).1).mpr (h.step p h1 h2)⟩
theorem getD_snoc_lt {ns : List Int} {x : Int} {i : Nat} (h : i < ns.length) : (ns ++ [x]).getD i 0 = ns.getD i 0 := by
  rw [List.getD_eq_getElem?_getD, List.getD_eq_getElem?_getD, List.getElem?_append_left h]
theorem getD_snoc_eq {ns : List Int} {x : Int} : (ns ++ [x]).getD ns.length 0 = x := by
  rw [List.getD_eq_getElem?_getD, List.getElem?_append_right (Nat.le_refl _), Nat.sub_self]
  rfl
/-- a sum that is greater than the last number goes behind -/
theorem IsAdd.snoc {ns : List Int} (h : IsAdd ns) {x : Int} {i j : Nat} (hi : i < ns.length) (hj : j < ns.length) (e : x = ns.getD i 0 + ns.getD j 0) (hx : ns.getD (ns.length - 1) 0 < x) : IsAdd (ns ++ [x]) := by
  have hl := h.lo
  have hlen : (ns ++ [x]).length = ns.length + 1 := by rw [List.length_append, List.length_singleton]
  refine ⟨by omega, by rw [getD_snoc_lt (by omega)]; exact h.one, fun p h1 h2 => ?_⟩
  by_cases hp : p < ns.length
  · obtain ⟨a, b, c, hb, hc, hd⟩ := h.step p h1 hp
    rw [getD_snoc_lt (by omega), getD_snoc_lt hp]
    refine ⟨a, b, c, hb, hc, ?_⟩
    rw [getD_snoc_lt (by omega), getD_snoc_lt (by omega)]
    exact hd
  · obtain rfl : p = ns.length := by omega
    rw [getD_snoc_lt (by omega), getD_snoc_eq]
    refine ⟨hx, i, j, hi, hj, ?_⟩
    rw [getD_snoc_lt hi, getD_snoc_lt hj]
    exact e
theorem IsAdd.single : IsAdd [1] := ⟨Nat.le_refl _, rfl, fun p h1 h2 => by
  have : p < 1 := h2
  omega⟩
theorem IsAdd.pos {ns : List Int} (h : IsAdd ns) {i : Nat} (hi : i < ns.length) : 1 ≤ ns.getD i 0 := by
  by_cases e : i = 0
  · subst e
    rw [h.one]
    omega
  · have := mono_of (fun p a b => (h.step p a b).1) (i := 0) (j := i) (by omega) hi
    rw [h.one] at this
    omega
theorem IsAdd.le_last {ns : List Int} (h : IsAdd ns) {i : Nat} (hi : i < ns.length) : ns.getD i 0 ≤ ns.getD (ns.length - 1) 0 := by
  by_cases e : i = ns.length - 1
  · subst e
    exact Int.le_refl _
  · have := mono_of (fun p a b => (h.step p a b).1) (i := i) (j := ns.length - 1) (by omega) (by omega)
    omega
/-! ### the law's own: a drawn chain, its own is_chain -/
def spChainBy (K : PySem.W.Frag) : Sp := fun vs H Q _ => ∃ (a : Addr) (ns : List Int) (first most : Int), vs = [.ref a, .int first, .int most] ∧ SqL K H a (ns.map V.int) ∧ (0 ≤ first ∧ 1 ≤ most ∧ most ≤ 200) ∧
  ∀ (cs : List Int) p H', IsAdd cs → (cs.length : Int) ≤ most → (∀ i, i < cs.length → cs.getD i 0 < 1000000000000) → Same H H' → H p = none → H' p = some (.lst (cs.map V.int)) → Q (.ref p) H'
theorem c_chain_by {K : PySem.W.Frag} {a : Addr} {ns : List Int} {first most : Int} {H : Hp} {Q : VK} {E : XK} (h : SqL K H a (ns.map V.int)) (hb : 0 ≤ first ∧ 1 ≤ most ∧ most ≤ 200)
    (q : ∀ (cs : List Int) p H', IsAdd cs → (cs.length : Int) ≤ most → (∀ i, i < cs.length → cs.getD i 0 < 1000000000000) → Same H H' → H p = none → H' p = some (.lst (cs.map V.int)) → Q (.ref p) H') : spChainBy K [.ref a, .int first, .int most] H Q E := ⟨a, ns, first, most, rfl, h, hb, q⟩
def spLawIsChain : Sp := fun vs H Q _ => ∃ (a : Addr) (ns : List Int), vs = [.ref a] ∧ H a = some (.lst (ns.map V.int)) ∧ ns.length ≤ 1000 ∧ ∀ (b : Bool) H', Same H H' → (b = true ↔ IsCh ns) → Q (.bl b) H'
theorem c_law_is_chain {a : Addr} {ns : List Int} {H : Hp} {Q : VK} {E : XK} (h : H a = some (.lst (ns.map V.int))) (hl : ns.length ≤ 1000) (q : ∀ (b : Bool) H', Same H H' → (b = true ↔ IsCh ns) → Q (.bl b) H') : spLawIsChain [.ref a] H Q E := ⟨a, ns, rfl, h, hl, q⟩
end Fs

/-! ## Links, joined chains -/
namespace Fs
open PySem PySem.Spec PyProof.Rows L2
theorem IsCh.mono {ns : List Int} (h : IsCh ns) : ∀ p, 1 ≤ p → p < ns.length → ns.getD (p - 1) 0 < ns.getD p 0 := fun p a b => (((ch_iff ns).mp h).1.step p a b).1
theorem IsCh.link {ns : List Int} (h : IsCh ns) {p : Nat} (h1 : 1 ≤ p) (h2 : p < ns.length) : ∃ jk, linkOf ns p = some jk := by
  have q := h.step p h1 h2
  unfold stepOk at q
  rw [Bool.and_eq_true] at q
  exact Option.isSome_iff_exists.mp q.2
theorem IsAdd.link {ns : List Int} (h : IsAdd ns) {p : Nat} (h1 : 1 ≤ p) (h2 : p < ns.length) : ∃ jk, linkOf ns p = some jk := by
  have q := (step_iff h1 (fun q a b => (h.step q a (by omega)).1)).mpr (h.step p h1 h2)
  unfold stepOk at q
  rw [Bool.and_eq_true] at q
  exact Option.isSome_iff_exists.mp q.2
theorem link_facts {ns : List Int} {p : Nat} {jk : Nat × Nat} (h : linkOf ns p = some jk) : jk.1 ≤ jk.2 ∧ jk.2 < p ∧ ns.getD jk.1 0 + ns.getD jk.2 0 = ns.getD p 0 := by
  have q := linkGo_some h
  exact ⟨q.1, q.2.1, q.2.2.2⟩
theorem linkGo_skip {ns : List Int} {p k : Nat} : ∀ {m : Nat}, k ≤ m → (∀ k2, k ≤ k2 → k2 < m → ∀ j, j ≤ k2 → j < p → ns.getD j 0 + ns.getD k2 0 ≠ ns.getD p 0) → linkGo ns p m = linkGo ns p k
  | 0, hk, _ => by
    obtain rfl : k = 0 := by omega
    rfl
  | m + 1, hk, h => by
    by_cases e : k = m + 1
    · rw [e]
    · have ih := linkGo_skip (ns := ns) (p := p) (k := k) (m := m) (by omega) fun k2 a b j c d => h k2 a (by omega) j c d
      rw [← ih]
      show (match lastIx ns p (ns.getD p 0 - ns.getD m 0) with
        | some j => if j ≤ m then some (j, m) else linkGo ns p m
        | none => linkGo ns p m) = linkGo ns p m
      cases hx : lastIx ns p (ns.getD p 0 - ns.getD m 0) with
      | none => rfl
      | some j =>
        show (if j ≤ m then some (j, m) else linkGo ns p m) = linkGo ns p m
        have hj := lastIx_lt hx
        by_cases hjm : j ≤ m
        · exact absurd (by have := hj.2; omega) (h m (by omega) (Nat.lt_succ_self _) j hjm hj.1)
        · rw [if_neg hjm]
/-- the link by another search: the greatest second place, the first place found -/
theorem link_unique {ns : List Int} {p j k : Nat} (hm : ∀ q, 1 ≤ q → q < p → ns.getD (q - 1) 0 < ns.getD q 0) (hjk : j ≤ k) (hk : k < p) (e : ns.getD j 0 + ns.getD k 0 = ns.getD p 0)
    (hno : ∀ k2, k < k2 → k2 < p → ∀ j2, j2 ≤ k2 → ns.getD j2 0 + ns.getD k2 0 ≠ ns.getD p 0) : linkOf ns p = some (j, k) := by
  unfold linkOf
  rw [linkGo_skip (k := k + 1) (by omega) fun k2 a b j2 c d => hno k2 (by omega) b j2 c]
  show (match lastIx ns p (ns.getD p 0 - ns.getD k 0) with
    | some j => if j ≤ k then some (j, k) else linkGo ns p k
    | none => linkGo ns p k) = some (j, k)
  cases hx : lastIx ns p (ns.getD p 0 - ns.getD k 0) with
  | none => exact absurd (by omega) (lastIx_none hx j (by omega))
  | some i =>
    have hi := lastIx_lt hx
    obtain rfl : i = j := inj_of hm hi.1 (by omega) (by have := hi.2; omega)
    show (if i ≤ k then some (i, k) else linkGo ns p k) = some (i, k)
    rw [if_pos hjk]
/-! ### a list of links, as it stands in the heap -/
def LinksL (ns : List Int) (acc : List V) (H : Hp) : Prop := acc.length = ns.length - 1 ∧ ∀ i, i < ns.length - 1 → ∃ (t : Addr) (jk : Nat × Nat), linkOf ns (1 + i) = some jk ∧ acc[i]? = some (.ref t) ∧ H t = some (.tup [.int (jk.1 : Int), .int (jk.2 : Int)])
theorem LinksL.same {ns : List Int} {acc : List V} {H H' : Hp} (h : LinksL ns acc H) (e : Same H H') : LinksL ns acc H' := ⟨h.1, fun i hi => by
  obtain ⟨t, jk, a, b, c⟩ := h.2 i hi
  exact ⟨t, jk, a, b, e _ _ c⟩⟩
/-- .. while they are made -/
def LinksR (ns : List Int) (D : Addr) (i : Nat) (acc : List V) (H : Hp) : Prop := acc.length = i ∧ ∀ m, m < i → ∃ (t : Addr) (jk : Nat × Nat), t ≠ D ∧ linkOf ns (1 + m) = some jk ∧ acc[m]? = some (.ref t) ∧ H t = some (.tup [.int (jk.1 : Int), .int (jk.2 : Int)])
theorem linksR_mono {ns : List Int} {H : Hp} : ∀ D i acc H1 H2, H D = none → But D H1 H2 → LinksR ns D i acc H1 → LinksR ns D i acc H2 := fun D i acc H1 H2 _ b h => ⟨h.1, fun m hm => by
  obtain ⟨t, jk, n, a, c, d⟩ := h.2 m hm
  exact ⟨t, jk, n, a, c, b _ _ n d⟩⟩
theorem linksR_nil {ns : List Int} {H : Hp} (D : Addr) : LinksR ns D 0 [] H := ⟨rfl, fun m hm => absurd hm (Nat.not_lt_zero _)⟩
theorem linksR_snoc {ns : List Int} {D : Addr} {i : Nat} {acc : List V} {H H2 : Hp} (h : LinksR ns D i acc H) (hD : H D = some (.lst acc)) (e : Same H H2) {v : V} {jk : Nat × Nat} (hl : linkOf ns (1 + i) = some jk) (hv : LinkV (linkOf ns (1 + i)) v H2) : LinksR ns D (i + 1) (acc ++ [v]) H2 := by
  rw [hl] at hv
  obtain ⟨t, rfl, ht⟩ := hv
  refine ⟨by rw [List.length_append, List.length_singleton, h.1], fun m hm => ?_⟩
  by_cases em : m < i
  · obtain ⟨t2, jk2, n, a, c, d⟩ := h.2 m em
    exact ⟨t2, jk2, n, a, by rw [List.getElem?_append_left (by rw [h.1]; exact em)]; exact c, e _ _ d⟩
  · obtain rfl : m = i := by omega
    refine ⟨t, jk, ne_of ht (e _ _ hD) (by intro z; cases z), hl, ?_, ht⟩
    rw [List.getElem?_append_right (by rw [h.1]; exact Nat.le_refl _), h.1, Nat.sub_self]
    rfl
theorem linksR_end {ns : List Int} {D : Addr} {acc : List V} {H : Hp} (h : LinksR ns D (ns.length - 1) acc H) : LinksL ns acc H := ⟨h.1, fun i hi => by
  obtain ⟨t, jk, _, a, b, c⟩ := h.2 i hi
  exact ⟨t, jk, a, b, c⟩⟩
/-- the data of the links -/
def linkD (ns : List Int) (i : Nat) : PyData := .tuple [.int (((linkOf ns (1 + i)).getD (0, 0)).1 : Int), .int (((linkOf ns (1 + i)).getD (0, 0)).2 : Int)]
theorem dpAll_of {K : PySem.W.Frag} {H : Hp} {f : Nat → PyData} : ∀ {acc : List V} {k : Nat}, (∀ i v, acc[i]? = some v → Dp K H v (f (k + i))) → DpAll K H acc ((List.range acc.length).map fun i => f (k + i))
  | [], _, _ => .nil
  | v :: r, k, h => by
    rw [List.length_cons, List.range_succ_eq_map, List.map_cons, List.map_map]
    refine .cons (h 0 v rfl) ?_
    have ih := dpAll_of (K := K) (H := H) (f := f) (acc := r) (k := k + 1) fun i v hv => by
      have := h (i + 1) v (by simpa using hv)
      rw [show k + (i + 1) = k + 1 + i by omega] at this
      exact this
    have e : ((fun i => f (k + i)) ∘ Nat.succ) = fun i => f (k + 1 + i) := by
      funext i
      show f (k + (i + 1)) = f (k + 1 + i)
      rw [show k + (i + 1) = k + 1 + i by omega]
    rw [e]
    exact ih
theorem LinksL.dp {K : PySem.W.Frag} {ns : List Int} {acc : List V} {H : Hp} {a : Addr} (h : LinksL ns acc H) (ha : SqL K H a acc) : Dp K H (.ref a) (.list ((List.range (ns.length - 1)).map (linkD ns))) := by
  refine .lst ha ?_
  have q := dpAll_of (K := K) (H := H) (f := linkD ns) (acc := acc) (k := 0) fun i v hv => by
    have hi : i < ns.length - 1 := by
      rw [← h.1]
      exact (List.getElem?_eq_some_iff.mp hv).1
    obtain ⟨t, jk, e, hv2, ht⟩ := h.2 i hi
    rw [hv] at hv2
    obtain rfl := Option.some.inj hv2
    rw [Nat.zero_add]
    unfold linkD
    rw [e]
    exact .tup (SqT.of ht) (.cons (.int _) (.cons (.int _) .nil))
  rw [h.1] at q
  simpa using q
theorem link_lay (ns : List Int) : ∀ l : List Nat, PyData.canLayAll0 (l.map (linkD ns)) = true
  | [] => rfl
  | i :: r => by
    have ih := link_lay ns r
    simp [PyData.canLayAll0, PyData.canLay0, ih, linkD]
theorem link_dep (ns : List Int) : ∀ l : List Nat, PyData.depthAll (l.map (linkD ns)) ≤ 1
  | [] => Nat.zero_le _
  | i :: r => by
    have ih := link_dep ns r
    simp [PyData.depthAll, PyData.depth, linkD] at ih ⊢
    omega
theorem link_shp (ns : List Int) (l : List Nat) : SeqAt.shaped (.list (l.map (linkD ns))) = true := by
  have h := link_dep ns l
  simp [SeqAt.shaped, PyData.canLay0, PyData.depth, link_lay]
  omega
theorem link_eqv (ns : List Int) : ∀ l : List Nat, PyData.eqvAll (l.map (linkD ns)) (l.map (linkD ns)) = true
  | [] => by simp [PyData.eqvAll]
  | i :: r => by
    have ih := link_eqv ns r
    simp [PyData.eqvAll, PyData.eqv, linkD, ih]
/-- two lists of the links of one chain are equal -/
theorem r_neLinks {K : PySem.W.Frag} {H : Hp} {Q : VK} {a b : Addr} {ns : List Int} {xs ys : List V} (h1 : H a = some (.lst xs)) (h2 : H b = some (.lst ys)) (l1 : LinksL ns xs H) (l2 : LinksL ns ys H) (q : Q (.bl false) H) : rNeD K (.ref a) (.ref b) H Q :=
  ⟨_, _, l1.dp (SqL.of h1), l2.dp (SqL.of h2), link_shp ns _, link_shp ns _, by
    rw [PyData.eqv, link_eqv]
    exact q⟩
/-! ### two chains joined -/
def joinM (cs ds : List Int) : List Int := cs ++ (ds.drop 1).map (· * gi cs (-1))
theorem join_len {cs ds : List Int} (h2 : 1 ≤ ds.length) : (joinM cs ds).length = cs.length + ds.length - 1 := by
  unfold joinM
  rw [List.length_append, List.length_map, List.length_drop]
  omega
theorem join_lo {cs ds : List Int} {i : Nat} (h : i < cs.length) : (joinM cs ds).getD i 0 = cs.getD i 0 := by
  unfold joinM
  rw [List.getD_eq_getElem?_getD, List.getD_eq_getElem?_getD, List.getElem?_append_left h]
theorem join_hi {cs ds : List Int} (hc : IsAdd cs) (hd : IsAdd ds) {q : Nat} (h : q < ds.length) : (joinM cs ds).getD (cs.length - 1 + q) 0 = ds.getD q 0 * gi cs (-1) := by
  have hl := hc.lo
  have hne : cs ≠ [] := fun z => by
    rw [z] at hl
    exact absurd hl (by decide)
  by_cases e : q = 0
  · subst e
    rw [Nat.add_zero, join_lo (by omega), hd.one, Int.one_mul, gi_last cs hne]
  · unfold joinM
    rw [List.getD_eq_getElem?_getD, List.getElem?_append_right (by omega), List.getElem?_map, List.getElem?_drop, show 1 + (cs.length - 1 + q - cs.length) = q by omega, getD_get 0 h]
    rfl
theorem gi_last_pos {cs : List Int} (hc : IsAdd cs) : 1 ≤ gi cs (-1) := by
  have hl := hc.lo
  rw [gi_last cs fun z => by
    rw [z] at hl
    exact absurd hl (by decide)]
  exact hc.pos (by omega)
theorem IsAdd.join {cs ds : List Int} (hc : IsAdd cs) (hd : IsAdd ds) : IsAdd (joinM cs ds) := by
  have hl := hc.lo
  have hl2 := hd.lo
  have hlen := join_len (cs := cs) hl2
  have hL := gi_last_pos hc
  refine ⟨by omega, by rw [join_lo (by omega)]; exact hc.one, fun p h1 h2 => ?_⟩
  by_cases hp : p < cs.length
  · obtain ⟨a, i, j, hi, hj, e⟩ := hc.step p h1 hp
    rw [join_lo (by omega), join_lo hp]
    refine ⟨a, i, j, hi, hj, ?_⟩
    rw [join_lo (by omega), join_lo (by omega)]
    exact e
  · obtain ⟨q, rfl⟩ : ∃ q, p = cs.length - 1 + q := ⟨p - (cs.length - 1), by omega⟩
    obtain ⟨a, i, j, hi, hj, e⟩ := hd.step q (by omega) (by omega)
    rw [show cs.length - 1 + q - 1 = cs.length - 1 + (q - 1) by omega, join_hi hc hd (by omega), join_hi hc hd (by omega)]
    refine ⟨Int.mul_lt_mul_of_pos_right a (by omega), cs.length - 1 + i, cs.length - 1 + j, by omega, by omega, ?_⟩
    rw [join_hi hc hd (by omega), join_hi hc hd (by omega), e, Int.add_mul]
theorem join_last {cs ds : List Int} (hc : IsAdd cs) (hd : IsAdd ds) : gi (joinM cs ds) (-1) = gi ds (-1) * gi cs (-1) := by
  have hl := hc.lo
  have hl2 := hd.lo
  have hlen := join_len (cs := cs) hl2
  rw [gi_last (joinM cs ds) (fun z => by
    rw [z] at hlen
    have : ([] : List Int).length = 0 := rfl
    omega), hlen, show cs.length + ds.length - 1 - 1 = cs.length - 1 + (ds.length - 1) by omega, join_hi hc hd (by omega), gi_last ds (fun z => by
    rw [z] at hl2
    exact absurd hl2 (by decide))]
theorem last_eq {cs : List Int} (hc : IsAdd cs) : gi cs (-1) = cs.getD (cs.length - 1) 0 := gi_last cs fun z => by
  have hl := hc.lo
  rw [z] at hl
  exact absurd hl (by decide)
/-- a product of numbers of at most forty figures or so -/
theorem wide_of {i j : Int} (h1 : 0 ≤ i) (h2 : i < 2 ^ 200) (h3 : 0 ≤ j) (h4 : j < 2 ^ 200) : CMulW i j := wide_mul (a := 200) (b := 200) (by omega) (by omega) (by decide) (by decide) (by decide)
theorem wide_abs {i j : Int} (h1 : -(2 ^ 200) < i) (h2 : i < 2 ^ 200) (h3 : -(2 ^ 200) < j) (h4 : j < 2 ^ 200) : CMulW i j := wide_mul (a := 200) (b := 200) (by omega) (by omega) (by decide) (by decide) (by decide)
/-! ### promises -/
def spAsked : Sp := fun vs H Q _ => ∃ (a : Addr) (ns : List Int), vs = [.ref a] ∧ H a = some (.lst (ns.map V.int)) ∧ IsCh ns ∧ ∀ H', Same H H' → Q .non H'
theorem c_asked {a : Addr} {ns : List Int} {H : Hp} {Q : VK} {E : XK} (h : H a = some (.lst (ns.map V.int))) (hc : IsCh ns) (q : ∀ H', Same H H' → Q .non H') : spAsked [.ref a] H Q E := ⟨a, ns, rfl, h, hc, q⟩
def spLinksBy : Sp := fun vs H Q _ => ∃ (a : Addr) (ns : List Int), vs = [.ref a] ∧ H a = some (.lst (ns.map V.int)) ∧ IsCh ns ∧ ∀ p acc H', Same H H' → H p = none → H' p = some (.lst acc) → LinksL ns acc H' → (∀ t, .ref t ∈ acc → t ≠ p) → Q (.ref p) H'
theorem c_links_by {a : Addr} {ns : List Int} {H : Hp} {Q : VK} {E : XK} (h : H a = some (.lst (ns.map V.int))) (hc : IsCh ns) (q : ∀ p acc H', Same H H' → H p = none → H' p = some (.lst acc) → LinksL ns acc H' → (∀ t, .ref t ∈ acc → t ≠ p) → Q (.ref p) H') : spLinksBy [.ref a] H Q E := ⟨a, ns, rfl, h, hc, q⟩
def spLawLink : Sp := fun vs H Q _ => ∃ (a : Addr) (ns : List Int) (p : Nat), vs = [.ref a, .int (p : Int)] ∧ H a = some (.lst (ns.map V.int)) ∧ IsAdd ns ∧ (1 ≤ p ∧ p < ns.length ∧ ns.length ≤ 1000) ∧ ∀ v H', Same H H' → LinkV (linkOf ns p) v H' → (∀ t, v = .ref t → H t = none) → Q v H'
theorem c_law_link {a : Addr} {ns : List Int} {i : Int} {p : Nat} {H : Hp} {Q : VK} {E : XK} (e : i = (p : Int)) (h : H a = some (.lst (ns.map V.int))) (hA : IsAdd ns) (hp : 1 ≤ p ∧ p < ns.length ∧ ns.length ≤ 1000) (q : ∀ v H', Same H H' → LinkV (linkOf ns p) v H' → (∀ t, v = .ref t → H t = none) → Q v H') : spLawLink [.ref a, .int i] H Q E :=
  ⟨a, ns, p, by rw [e], h, hA, hp, q⟩
/-- a longer chain -/
def spLongBy (K : PySem.W.Frag) : Sp := fun vs H Q _ => ∃ (a : Addr) (ns : List Int) (first : Int), vs = [.ref a, .int first] ∧ SqL K H a (ns.map V.int) ∧ 0 ≤ first ∧
  ∀ (cs : List Int) p H', IsAdd cs → cs.length ≤ 91 → (∀ i, i < cs.length → cs.getD i 0 < 1000000000000 ^ 3) → Same H H' → H p = none → H' p = some (.lst (cs.map V.int)) → Q (.ref p) H'
theorem c_long_by {K : PySem.W.Frag} {a : Addr} {ns : List Int} {first : Int} {H : Hp} {Q : VK} {E : XK} (h : SqL K H a (ns.map V.int)) (hb : 0 ≤ first)
    (q : ∀ (cs : List Int) p H', IsAdd cs → cs.length ≤ 91 → (∀ i, i < cs.length → cs.getD i 0 < 1000000000000 ^ 3) → Same H H' → H p = none → H' p = some (.lst (cs.map V.int)) → Q (.ref p) H') : spLongBy K [.ref a, .int first] H Q E := ⟨a, ns, first, rfl, h, hb, q⟩
theorem count_add : ∀ k : Nat, IsAdd ((List.range (k + 1)).map fun i : Nat => (1 : Int) + (i : Int))
  | 0 => IsAdd.single
  | k + 1 => by
    have ih := count_add k
    have hl : ((List.range (k + 1)).map fun i : Nat => (1 : Int) + (i : Int)).length = k + 1 := by rw [List.length_map, List.length_range]
    have g : ∀ i, i < k + 1 → ((List.range (k + 1)).map fun i : Nat => (1 : Int) + (i : Int)).getD i 0 = 1 + (i : Int) := fun i hi => by
      rw [List.getD_eq_getElem?_getD, List.getElem?_map, List.getElem?_range hi]
      rfl
    rw [List.range_succ, List.map_append]
    refine ih.snoc (i := 0) (j := k) (by omega) (by omega) ?_ ?_
    · rw [g 0 (by omega), g k (by omega)]
      show (1 : Int) + ((k + 1 : Nat) : Int) = _
      omega
    · rw [hl, g (k + 1 - 1) (by omega)]
      show _ < (1 : Int) + ((k + 1 : Nat) : Int)
      omega
theorem count_get {k i : Nat} (hi : i < k) : ((List.range k).map fun i : Nat => (1 : Int) + (i : Int)).getD i 0 = 1 + (i : Int) := by
  rw [List.getD_eq_getElem?_getD, List.getElem?_map, List.getElem?_range hi]
  rfl
theorem join_bound {cs ds : List Int} (hc : IsAdd cs) (hd : IsAdd ds) {b c : Int} (h1 : ∀ i, i < cs.length → cs.getD i 0 < b) (h2 : ∀ i, i < ds.length → ds.getD i 0 < c) (hb : 0 < b) (hcc : 1 ≤ c) : ∀ i, i < (joinM cs ds).length → (joinM cs ds).getD i 0 < b * c := by
  intro i hi
  have hl := hc.lo
  rw [join_len hd.lo] at hi
  by_cases e : i < cs.length
  · rw [join_lo e]
    have := h1 i e
    have := Int.mul_le_mul_of_nonneg_left hcc (Int.le_of_lt hb)
    omega
  · obtain ⟨q, rfl⟩ : ∃ q, i = cs.length - 1 + q := ⟨i - (cs.length - 1), by omega⟩
    rw [join_hi hc hd (by omega)]
    have g1 := h2 q (by omega)
    have g2 := hd.pos (show q < ds.length by omega)
    have g3 := gi_last_pos hc
    have g4 : gi cs (-1) < b := by
      rw [last_eq hc]
      exact h1 _ (by omega)
    have k1 := Int.mul_lt_mul_of_pos_right g1 (show 0 < gi cs (-1) by omega)
    have k2 := Int.mul_lt_mul_of_pos_left g4 (show 0 < c by omega)
    rw [Int.mul_comm b c]
    omega
/-- two lists of two chains are equal -/
def pairD (ns ms : List Int) : PyData := .list [.list (ns.map PyData.int), .list (ms.map PyData.int)]
theorem pair_shp (ns ms : List Int) : SeqAt.shaped (pairD ns ms) = true := by simp [pairD, SeqAt.shaped, PyData.canLay0, PyData.canLayAll0, PyData.depth, PyData.depthAll, lay_ints, dep_ints]
theorem pair_eqv (ns ms : List Int) : PyData.eqv (pairD ns ms) (pairD ns ms) = true := by simp [pairD, PyData.eqv, PyData.eqvAll, eqv_ints]
theorem dp_pair {K : PySem.W.Frag} {H : Hp} {a b c : Addr} {ns ms : List Int} (h : H a = some (.lst [.ref b, .ref c])) (hb : H b = some (.lst (ns.map V.int))) (hc : H c = some (.lst (ms.map V.int))) : Dp K H (.ref a) (pairD ns ms) :=
  .lst (SqL.of h) (.cons (dp_list (SqL.of hb)) (.cons (dp_list (SqL.of hc)) .nil))
theorem r_nePair {K : PySem.W.Frag} {H : Hp} {Q : VK} {a b c a' b' c' : Addr} {ns ms : List Int} (h : H a = some (.lst [.ref b, .ref c])) (hb : H b = some (.lst (ns.map V.int))) (hc : H c = some (.lst (ms.map V.int))) (h' : H a' = some (.lst [.ref b', .ref c'])) (hb' : H b' = some (.lst (ns.map V.int))) (hc' : H c' = some (.lst (ms.map V.int))) (q : Q (.bl false) H) : rNeD K (.ref a) (.ref a') H Q :=
  ⟨_, _, dp_pair h hb hc, dp_pair h' hb' hc', pair_shp ns ms, pair_shp ns ms, by
    rw [pair_eqv]
    exact q⟩
/-- texts, as data -/
theorem r_eqS {K : PySem.W.Frag} {H : Hp} {Q : VK} {a b : Str} (ha : PyData.strOk a = true) (hb : PyData.strOk b = true) (q : Q (.bl (decide (a = b))) H) : rEqD K (.str a) (.str b) H Q :=
  ⟨_, _, .str a, .str b, by simp [SeqAt.shaped, PyData.canLay0, PyData.depth, ha], by simp [SeqAt.shaped, PyData.canLay0, PyData.depth, hb], by
    rw [PyData.eqv, Bool.beq_eq_decide_eq]
    exact q⟩
end Fs

/-! ## What the end of a chain needs -/
namespace Fs
open PySem PySem.Spec PyProof.Rows L2
/-- the end, and the two places of the link of a needed place -/
inductive Need (ns : List Int) : Nat → Prop where
  | last : Need ns (ns.length - 1)
  | lo {p : Nat} {jk : Nat × Nat} (h : Need ns p) (h1 : 1 ≤ p) (e : linkOf ns p = some jk) : Need ns jk.1
  | hi {p : Nat} {jk : Nat × Nat} (h : Need ns p) (h1 : 1 ≤ p) (e : linkOf ns p = some jk) : Need ns jk.2
theorem Need.lt {ns : List Int} (hl : 1 ≤ ns.length) {p : Nat} (h : Need ns p) : p < ns.length := by
  induction h with
  | last => omega
  | lo h h1 e ih =>
    have := link_facts e
    omega
  | hi h h1 e ih =>
    have := link_facts e
    omega
theorem Need.down {ns : List Int} (hA : IsAdd ns) : ∀ p, Need ns p → Need ns 0 := by
  intro p
  induction p using Nat.strongRecOn with
  | ind p ih =>
    intro h
    by_cases h1 : 1 ≤ p
    · obtain ⟨jk, e⟩ := hA.link h1 (h.lt hA.lo)
      have := link_facts e
      exact ih jk.1 (by omega) (.lo h h1 e)
    · obtain rfl : p = 0 := by omega
      exact h
theorem Need.zero {ns : List Int} (hA : IsAdd ns) : Need ns 0 := Need.down hA _ .last
/-- what is closed and holds the end holds all that is needed -/
theorem Need.sub {ns : List Int} {S : Nat → Prop} (h0 : S (ns.length - 1)) (hc : ∀ p jk, S p → 1 ≤ p → linkOf ns p = some jk → S jk.1 ∧ S jk.2) : ∀ p, Need ns p → S p := by
  intro p h
  induction h with
  | last => exact h0
  | lo h h1 e ih => exact (hc _ _ ih h1 e).1
  | hi h h1 e ih => exact (hc _ _ ih h1 e).2
open Classical in
/-- the places that are needed, in order; the numbers there -/
noncomputable def needs (ns : List Int) : List Nat := (List.range ns.length).filter fun p => decide (Need ns p)
noncomputable def thin (ns : List Int) : List Int := (needs ns).map fun p => ns.getD p 0
open Classical in
theorem mem_needs {ns : List Int} {p : Nat} : p ∈ needs ns ↔ p < ns.length ∧ Need ns p := by
  unfold needs
  rw [List.mem_filter, List.mem_range]
  exact ⟨fun h => ⟨h.1, of_decide_eq_true h.2⟩, fun h => ⟨h.1, decide_eq_true h.2⟩⟩
theorem needs_sorted (ns : List Int) : (needs ns).Pairwise (· < ·) := List.Pairwise.filter _ List.pairwise_lt_range
theorem sorted_get {ps : List Nat} (h : ps.Pairwise (· < ·)) {i j : Nat} (hij : i < j) (hj : j < ps.length) : ps.getD i 0 < ps.getD j 0 := by
  rw [List.getD_eq_getElem?_getD, List.getD_eq_getElem?_getD, List.getElem?_eq_getElem hj, List.getElem?_eq_getElem (by omega)]
  exact List.pairwise_iff_getElem.mp h i j (by omega) hj hij
theorem sorted_lt {ps : List Nat} (h : ps.Pairwise (· < ·)) {i j : Nat} (hi : i < ps.length) (hj : j < ps.length) (e : ps.getD i 0 < ps.getD j 0) : i < j := by
  by_cases h1 : j < i
  · have := sorted_get h h1 hi
    omega
  · by_cases h2 : i = j
    · subst h2
      omega
    · omega
theorem sorted_inj {ps : List Nat} (h : ps.Pairwise (· < ·)) {i j : Nat} (hi : i < ps.length) (hj : j < ps.length) (e : ps.getD i 0 = ps.getD j 0) : i = j := by
  by_cases h1 : i < j
  · have := sorted_get h h1 hj
    omega
  · by_cases h2 : j < i
    · have := sorted_get h h2 hi
      omega
    · omega
theorem mem_getD {α : Type} {ps : List α} {d x : α} (h : x ∈ ps) : ∃ i, i < ps.length ∧ ps.getD i d = x := by
  obtain ⟨i, hi⟩ := List.mem_iff_getElem?.mp h
  have hl := (List.getElem?_eq_some_iff.mp hi).1
  exact ⟨i, hl, by rw [List.getD_eq_getElem?_getD, hi]; rfl⟩
theorem getD_mem {α : Type} {ps : List α} {d : α} {i : Nat} (h : i < ps.length) : ps.getD i d ∈ ps := List.mem_of_getElem? (getD_get d h)
theorem thin_get {ns : List Int} {i : Nat} (h : i < (needs ns).length) : (thin ns).getD i 0 = ns.getD ((needs ns).getD i 0) 0 := by
  unfold thin
  rw [List.getD_eq_getElem?_getD, List.getElem?_map, getD_get 0 h]
  rfl
theorem thin_len (ns : List Int) : (thin ns).length = (needs ns).length := by
  unfold thin
  rw [List.length_map]
theorem needs_le (ns : List Int) : (needs ns).length ≤ ns.length := by
  unfold needs
  have := List.length_filter_le (fun p => @decide (Need ns p) (Classical.propDecidable _)) (List.range ns.length)
  rw [List.length_range] at this
  exact this
/-- the first and the last of the needed places -/
theorem needs_first {ns : List Int} (hA : IsAdd ns) : 1 ≤ (needs ns).length ∧ (needs ns).getD 0 0 = 0 := by
  obtain ⟨i, hi, e⟩ := mem_getD (d := 0) (mem_needs.mpr ⟨hA.lo, Need.zero hA⟩)
  refine ⟨by omega, ?_⟩
  by_cases h0 : i = 0
  · subst h0
    exact e
  · have := sorted_get (needs_sorted ns) (i := 0) (j := i) (by omega) hi
    omega
theorem needs_last {ns : List Int} (hA : IsAdd ns) : (needs ns).getD ((needs ns).length - 1) 0 = ns.length - 1 := by
  have hl := hA.lo
  have hf := needs_first hA
  obtain ⟨i, hi, e⟩ := mem_getD (d := 0) (mem_needs.mpr ⟨(by omega : ns.length - 1 < ns.length), Need.last⟩)
  have hm : (needs ns).getD ((needs ns).length - 1) 0 < ns.length := (mem_needs.mp (getD_mem (by omega))).1
  by_cases h0 : i = (needs ns).length - 1
  · subst h0
    exact e
  · have := sorted_get (needs_sorted ns) (i := i) (j := (needs ns).length - 1) (by omega) (by omega)
    omega
/-- the links of what is left -/
theorem needs_link {ns : List Int} (hA : IsAdd ns) {i : Nat} (h1 : 1 ≤ i) (hi : i < (needs ns).length) : ∃ jk, linkOf ns ((needs ns).getD i 0) = some jk ∧ ∃ a b, a < (needs ns).length ∧ b < i ∧ a ≤ b ∧ (needs ns).getD a 0 = jk.1 ∧ (needs ns).getD b 0 = jk.2 := by
  have hs := needs_sorted ns
  have hf := needs_first hA
  obtain ⟨hp, hN⟩ := mem_needs.mp (getD_mem (d := 0) hi)
  have h0 := sorted_get hs (i := 0) (j := i) (by omega) hi
  obtain ⟨jk, e⟩ := hA.link (show 1 ≤ (needs ns).getD i 0 by omega) hp
  have lf := link_facts e
  obtain ⟨a, ha, ea⟩ := mem_getD (d := 0) (mem_needs.mpr ⟨by omega, Need.lo hN (by omega) e⟩)
  obtain ⟨b, hb, eb⟩ := mem_getD (d := 0) (mem_needs.mpr ⟨by omega, Need.hi hN (by omega) e⟩)
  refine ⟨jk, e, a, b, ha, sorted_lt hs hb hi (by omega), ?_, ea, eb⟩
  by_cases hab : b < a
  · have := sorted_get hs hab ha
    omega
  · omega
theorem IsAdd.thin {ns : List Int} (hA : IsAdd ns) : IsAdd (Fs.thin ns) := by
  have hf := needs_first hA
  have hs := needs_sorted ns
  have hlen := thin_len ns
  refine ⟨by omega, by rw [thin_get (by omega), hf.2]; exact hA.one, fun p h1 h2 => ?_⟩
  rw [hlen] at h2
  rw [thin_get (by omega), thin_get h2]
  refine ⟨mono_of (fun q a b => (hA.step q a b).1) (sorted_get hs (by omega) h2) (mem_needs.mp (getD_mem h2)).1, ?_⟩
  obtain ⟨jk, e, a, b, ha, hb, hab, ea, eb⟩ := needs_link hA h1 h2
  refine ⟨a, b, by omega, hb, ?_⟩
  rw [thin_get ha, thin_get (by omega), ea, eb]
  exact (link_facts e).2.2.symm
theorem link_max {ns : List Int} {p : Nat} (hm : ∀ q, 1 ≤ q → q < p → ns.getD (q - 1) 0 < ns.getD q 0) {m : Nat} {jk : Nat × Nat} (hmp : m ≤ p) (h : linkGo ns p m = some jk) : ∀ k2, jk.2 < k2 → k2 < m → ∀ j2, j2 ≤ k2 → ns.getD j2 0 + ns.getD k2 0 ≠ ns.getD p 0 := by
  induction m with
  | zero => intro k2 _ h2; omega
  | succ m ih =>
    intro k2 h1 h2 j2 h3 e
    unfold linkGo at h
    cases hx : lastIx ns p (ns.getD p 0 - ns.getD m 0) with
    | none =>
      rw [hx] at h
      by_cases ek : k2 = m
      · subst ek
        exact lastIx_none hx j2 (by omega) (by omega)
      · exact ih (by omega) h k2 h1 (by omega) j2 h3 e
    | some i =>
      rw [hx] at h
      replace h : (if i ≤ m then some (i, m) else linkGo ns p m) = some jk := h
      by_cases hi : i ≤ m
      · rw [if_pos hi] at h
        obtain rfl := Option.some.inj h
        have : m < k2 := h1
        omega
      · rw [if_neg hi] at h
        by_cases ek : k2 = m
        · subst ek
          have hil := lastIx_lt hx
          have : i = j2 := inj_of hm hil.1 (by omega) (by have := hil.2; omega)
          omega
        · exact ih (by omega) h k2 h1 (by omega) j2 h3 e
theorem thin_link {ns : List Int} (hA : IsAdd ns) {i : Nat} (h1 : 1 ≤ i) (hi : i < (needs ns).length) : ∃ jk ab, linkOf ns ((needs ns).getD i 0) = some jk ∧ linkOf (thin ns) i = some ab ∧ ab.1 < (needs ns).length ∧ ab.2 < (needs ns).length ∧ (needs ns).getD ab.1 0 = jk.1 ∧ (needs ns).getD ab.2 0 = jk.2 := by
  obtain ⟨jk, e, a, b, ha, hb, hab, ea, eb⟩ := needs_link hA h1 hi
  have hlen := thin_len ns
  have hs := needs_sorted ns
  refine ⟨jk, (a, b), e, ?_, ha, by show b < _; omega, ea, eb⟩
  have hp := (mem_needs.mp (getD_mem (d := 0) hi)).1
  refine link_unique (fun q c d => (hA.thin.step q c (by omega)).1) hab hb ?_ fun k2 c d j2 f => ?_
  · rw [thin_get ha, thin_get (by omega), thin_get hi, ea, eb]
    exact (link_facts e).2.2
  · rw [thin_get (by omega), thin_get (by omega), thin_get hi]
    refine link_max (m := (needs ns).getD i 0) (fun q x y => (hA.step q x (by omega)).1) (Nat.le_refl _) e _ ?_ (sorted_get hs d hi) _ ?_
    · have := sorted_get hs c (by omega)
      omega
    · by_cases ejk : j2 = k2
      · subst ejk
        exact Nat.le_refl _
      · have := sorted_get hs (show j2 < k2 by omega) (by omega)
        omega
theorem thin_needs {ns : List Int} (hA : IsAdd ns) : ∀ x, Need ns x → ∀ a, a < (needs ns).length → (needs ns).getD a 0 = x → Need (thin ns) a := by
  have hs := needs_sorted ns
  have hf := needs_first hA
  intro x h
  induction h with
  | last =>
    intro a ha e
    obtain rfl : a = (needs ns).length - 1 := sorted_inj hs ha (by omega) (by rw [e, needs_last hA])
    rw [← thin_len]
    exact .last
  | @lo p jk h h1 e ih =>
    intro a ha ea
    obtain ⟨i, hi, ei⟩ := mem_getD (d := 0) (mem_needs.mpr ⟨h.lt hA.lo, h⟩)
    have hi1 : 1 ≤ i := by
      by_cases h0 : i = 0
      · subst h0
        omega
      · omega
    obtain ⟨jk2, ab, e2, e3, ha1, hb1, ea1, eb1⟩ := thin_link hA hi1 hi
    rw [ei, e] at e2
    obtain rfl := Option.some.inj e2
    obtain rfl : ab.1 = a := sorted_inj hs ha1 ha (by omega)
    exact .lo (ih i hi ei) hi1 e3
  | @hi p jk h h1 e ih =>
    intro a ha ea
    obtain ⟨i, hi, ei⟩ := mem_getD (d := 0) (mem_needs.mpr ⟨h.lt hA.lo, h⟩)
    have hi1 : 1 ≤ i := by
      by_cases h0 : i = 0
      · subst h0
        omega
      · omega
    obtain ⟨jk2, ab, e2, e3, ha1, hb1, ea1, eb1⟩ := thin_link hA hi1 hi
    rw [ei, e] at e2
    obtain rfl := Option.some.inj e2
    obtain rfl : ab.2 = a := sorted_inj hs hb1 ha (by omega)
    exact .hi (ih i hi ei) hi1 e3
open Classical in
/-- where all is needed, nothing is left out -/
theorem thin_all {ns : List Int} (h : ∀ p, p < ns.length → Need ns p) : thin ns = ns := by
  have e : needs ns = List.range ns.length := by
    unfold needs
    rw [List.filter_eq_self]
    intro p hp
    exact decide_eq_true (h p (List.mem_range.mp hp))
  unfold thin
  rw [e]
  refine List.ext_getElem (by rw [List.length_map, List.length_range]) fun i h1 h2 => ?_
  rw [List.getElem_map, List.getElem_range, List.getD_eq_getElem?_getD, List.getElem?_eq_getElem h2]
  rfl
theorem thin_thin {ns : List Int} (hA : IsAdd ns) : thin (thin ns) = thin ns := thin_all fun p hp => by
  rw [thin_len] at hp
  exact thin_needs hA _ (mem_needs.mp (getD_mem (d := 0) hp)).2 p hp rfl
theorem thin_last {ns : List Int} (hA : IsAdd ns) : gi (thin ns) (-1) = gi ns (-1) := by
  have hf := needs_first hA
  rw [last_eq hA.thin, last_eq hA, thin_len, thin_get (by omega), needs_last hA]
theorem IsCh.thin {ns : List Int} (h : IsCh ns) : IsCh (Fs.thin ns) := by
  obtain ⟨hA, hl⟩ := (ch_iff ns).mp h
  refine (ch_iff _).mpr ⟨hA.thin, ?_⟩
  rw [thin_len]
  exact Nat.le_trans (needs_le ns) hl
def spThinned : Sp := fun vs H Q _ => ∃ (a : Addr) (ns : List Int), vs = [.ref a] ∧ H a = some (.lst (ns.map V.int)) ∧ IsCh ns ∧ ∀ p H', Same H H' → H p = none → H' p = some (.lst ((thin ns).map V.int)) → Q (.ref p) H'
theorem c_thinned {a : Addr} {ns : List Int} {H : Hp} {Q : VK} {E : XK} (h : H a = some (.lst (ns.map V.int))) (hc : IsCh ns) (q : ∀ p H', Same H H' → H p = none → H' p = some (.lst ((thin ns).map V.int)) → Q (.ref p) H') : spThinned [.ref a] H Q E := ⟨a, ns, rfl, h, hc, q⟩
end Fs

/-! ## What is needed, found from the end on -/
namespace Fs
open PySem PySem.Spec PyProof.Rows L2
/-- the places found, where those from m on are done -/
structure Part (ns : List Int) (m : Nat) (S : Int → Prop) : Prop where
  last : S ((ns.length - 1 : Nat) : Int)
  sound : ∀ x, S x → ∃ p : Nat, x = (p : Int) ∧ Need ns p
  closed : ∀ p : Nat, m ≤ p → 1 ≤ p → S (p : Int) → ∀ jk, linkOf ns p = some jk → S (jk.1 : Int) ∧ S (jk.2 : Int)
theorem Part.start {ns : List Int} {S : Int → Prop} (hA : IsAdd ns) (h : ∀ x, S x ↔ x = ((ns.length - 1 : Nat) : Int) ∨ x = 0) : Part ns ns.length S := by
  refine ⟨(h _).mpr (.inl rfl), fun x hx => ?_, fun p h1 h2 h3 jk e => ?_⟩
  · rcases (h x).mp hx with e | e
    · exact ⟨_, e, Need.last⟩
    · exact ⟨0, e, Need.zero hA⟩
  · have hl := hA.lo
    rcases (h _).mp h3 with e | e
    · omega
    · omega
theorem Part.start1 {ns : List Int} {S : Int → Prop} (hA : IsAdd ns) (h : ∀ x, S x ↔ x = ((ns.length - 1 : Nat) : Int)) : Part ns ns.length S := by
  refine ⟨(h _).mpr rfl, fun x hx => ⟨_, (h x).mp hx, Need.last⟩, fun p h1 h2 h3 jk e => ?_⟩
  have hl := hA.lo
  have := (h _).mp h3
  omega
theorem Part.skip {ns : List Int} {p : Nat} {S : Int → Prop} (h : Part ns (p + 1) S) (hn : ¬ S (p : Int)) : Part ns p S := by
  refine ⟨h.last, h.sound, fun q h1 h2 h3 jk e => ?_⟩
  by_cases hq : q = p
  · subst hq
    exact absurd h3 hn
  · exact h.closed q (by omega) h2 h3 jk e
theorem Part.take {ns : List Int} {p : Nat} {S S' : Int → Prop} {jk : Nat × Nat} (h : Part ns (p + 1) S) (hp : S (p : Int)) (h1 : 1 ≤ p) (e : linkOf ns p = some jk) (h' : ∀ x, S' x ↔ S x ∨ x = (jk.1 : Int) ∨ x = (jk.2 : Int)) : Part ns p S' := by
  have lf := link_facts e
  obtain ⟨p', ep, hN⟩ := h.sound _ hp
  obtain rfl : p = p' := by omega
  refine ⟨(h' _).mpr (.inl h.last), fun x hx => ?_, fun q h1' h2 h3 jk2 e2 => ?_⟩
  · rcases (h' x).mp hx with hx | hx | hx
    · exact h.sound x hx
    · exact ⟨_, hx, hN.lo h1 e⟩
    · exact ⟨_, hx, hN.hi h1 e⟩
  · by_cases hq : q = p
    · subst hq
      rw [e] at e2
      obtain rfl := Option.some.inj e2
      exact ⟨(h' _).mpr (.inr (.inl rfl)), (h' _).mpr (.inr (.inr rfl))⟩
    · have hs : S (q : Int) := by
        rcases (h' _).mp h3 with hx | hx | hx
        · exact hx
        · omega
        · omega
      have := h.closed q (by omega) h2 hs jk2 e2
      exact ⟨(h' _).mpr (.inl this.1), (h' _).mpr (.inl this.2)⟩
theorem Part.done {ns : List Int} {S : Int → Prop} (h : Part ns 1 S) (p : Nat) : S (p : Int) ↔ Need ns p := by
  refine ⟨fun hs => ?_, fun hN => Need.sub (S := fun p => S (p : Int)) h.last (fun p jk a b c => h.closed p b b a jk c) p hN⟩
  obtain ⟨p', e, hN⟩ := h.sound _ hs
  obtain rfl : p = p' := by omega
  exact hN
open Classical in
/-- the numbers needed of the first so many -/
noncomputable def thinTo (ns : List Int) (i : Nat) : List Int := ((List.range i).filter fun p => decide (Need ns p)).map fun p => ns.getD p 0
theorem thinTo_end (ns : List Int) : thinTo ns ns.length = thin ns := rfl
open Classical in
theorem thinTo_yes {ns : List Int} {i : Nat} (h : Need ns i) : thinTo ns (i + 1) = thinTo ns i ++ [ns.getD i 0] := by
  unfold thinTo
  rw [List.range_succ, List.filter_append, List.map_append, List.filter_cons, if_pos (decide_eq_true h)]
  rfl
open Classical in
theorem thinTo_no {ns : List Int} {i : Nat} (h : ¬ Need ns i) : thinTo ns (i + 1) = thinTo ns i := by
  unfold thinTo
  rw [List.range_succ, List.filter_append, List.map_append, List.filter_cons, if_neg (fun z => h (of_decide_eq_true z))]
  exact List.append_nil _
/-! keys of a dict, items of a list -/
def HasK (kvs : List (Key × V)) (x : Int) : Prop := (valV kvs (Sum.inl x)).isSome = true
theorem hasK_put {kvs : List (Key × V)} {k : Int} {v : V} (x : Int) : HasK (putK kvs (Sum.inl k) v) x ↔ HasK kvs x ∨ x = k := by
  unfold HasK
  rw [valV_put]
  by_cases e : x = k
  · subst e
    rw [if_pos rfl]
    exact ⟨fun _ => .inr rfl, fun _ => rfl⟩
  · rw [if_neg (fun z => e (Sum.inl.inj z))]
    exact ⟨fun h => .inl h, fun h => h.resolve_right e⟩
section
variable {σ : L2.St} {H : Hp} {K : PySem.W.Frag} {Q : VK} {ty td : TE}
theorem d_disp2 {tk : TE} {k1 k2 : Int} {v1 v2 : V} (h : ∀ H' (Q' : VK), Same H H' → Q' (.int k1) H' → tk σ H' Q') (q : ∀ p, H p = none → Q (.ref p) (upd H p (.dK (putK [(Sum.inl k1, v1)] (Sum.inl k2) v2)))) : tDisp [(tk, tC v1), (tC (.int k2), tC v2)] σ H Q := fun p hp =>
  h _ _ (same_new hp) ⟨upd_same, [(Sum.inl k1, v1), (Sum.inl k2, v2)], rfl, (show 2 ≤ 15 by decide), by
    rw [upd_upd]
    exact q p hp⟩
theorem inV_ints {x : Int} : ∀ ms : List Int, inV (.int x) (ms.map V.int) = decide (x ∈ ms)
  | [] => by simp [inV]
  | m :: r => by
    have ih := inV_ints (x := x) r
    unfold inV at ih ⊢
    rw [List.map_cons, List.any_cons, ih]
    have e : eqV (.int m) (.int x) = decide (x = m) := by
      show (m == x) = decide (x = m)
      rw [Bool.beq_eq_decide_eq]
      by_cases h : m = x
      · subst h
        simp
      · rw [decide_eq_false h, decide_eq_false (fun z => h z.symm)]
    rw [e]
    by_cases h1 : x = m <;> by_cases h2 : x ∈ r <;> simp [h1, h2]
theorem flat_ints : ∀ ms : List Int, (ms.map V.int).all flatV = true
  | [] => rfl
  | m :: r => by
    rw [List.map_cons, List.all_cons, flat_ints r]
    rfl
theorem r_inI {p : Addr} {x : Int} {ms : List Int} (h : SqL K H p (ms.map V.int)) (q : Q (.bl (decide (x ∈ ms))) H) : rIn K false (.int x) (.ref p) H Q := ⟨p, _, rfl, .inl h, rfl, flat_ints ms, by
  rw [inV_ints]
  exact q⟩
theorem r_notInI {p : Addr} {x : Int} {ms : List Int} (h : SqL K H p (ms.map V.int)) (q : Q (.bl (!decide (x ∈ ms))) H) : rIn K true (.int x) (.ref p) H Q := ⟨p, _, rfl, .inl h, rfl, flat_ints ms, by
  rw [inV_ints]
  exact q⟩
theorem op_in_at {X : Cx} {K : PySem.W.Frag} (e : X.K = K := by rfl) : OpR X (compareOp .In) (rIn K false) := by
  subst e
  exact op_in_seq
theorem n_listT {p : Addr} {xs : List V} (h : SqT K H p xs) (q : ∀ l H1, H l = none → Same H H1 → H1 l = some (.lst xs) → Q (.ref l) H1) : rLs K [.ref p] H Q := ⟨p, _, rfl, .inr h, fun l hl => q l _ hl (same_new hl) upd_same⟩
end
/-- a turn of the last comprehension -/
theorem lct_thin {tt : TT} {te : TE} {σ : L2.St} {H : Hp} {ns : List Int} {i : Nat} {b : Bool} (hb : b = true ↔ Need ns i) (ht : ∀ H' (R : Bool → Hp → Prop), Same H H' → R b H' → tt σ H' R) (he : ∀ H' (K1 : VK), Same H H' → K1 (.int (ns.getD i 0)) H' → te σ H' K1) : LcT (LcG fun i => (thinTo ns i).map V.int) H tt te σ i := by
  intro D acc H' K1 K0 hD hS hacc hR k1 k0
  replace hR : acc = (thinTo ns i).map V.int := hR
  refine ht H' _ hS ?_
  cases hbv : b with
  | true =>
    rw [if_pos rfl]
    refine he H' K1 hS (k1 _ H' (Same.refl _) ?_)
    show acc ++ [V.int (ns.getD i 0)] = (thinTo ns (i + 1)).map V.int
    rw [thinTo_yes (hb.mp hbv), List.map_append, hR]
    rfl
  | false =>
    rw [if_neg (by simp)]
    refine k0 H' (Same.refl _) ?_
    show acc = (thinTo ns (i + 1)).map V.int
    rw [thinTo_no (fun z => by rw [hb.mpr z] at hbv; cases hbv), hR]
end Fs

/-! ## Chains in which each number comes from the one ahead of it: the doubling chains -/
namespace Fs
open PySem PySem.Spec PyProof.Rows L2
/-- each number from the last one -/
structure Star (ns : List Int) : Prop where
  add : IsAdd ns
  by_last : ∀ p, 1 ≤ p → p < ns.length → ∃ j, j < p ∧ ns.getD p 0 = ns.getD j 0 + ns.getD (p - 1) 0
theorem Star.single : Star [1] := ⟨IsAdd.single, fun p h1 h2 => by
  have : p < 1 := h2
  omega⟩
theorem Star.snoc {ns : List Int} (h : Star ns) {x : Int} {j : Nat} (hj : j < ns.length) (e : x = ns.getD j 0 + ns.getD (ns.length - 1) 0) : Star (ns ++ [x]) := by
  have hl := h.add.lo
  have hp := h.add.pos hj
  refine ⟨h.add.snoc hj (by omega : ns.length - 1 < ns.length) e (by omega), fun p h1 h2 => ?_⟩
  rw [List.length_append, List.length_singleton] at h2
  by_cases hp : p < ns.length
  · obtain ⟨j, a, b⟩ := h.by_last p h1 hp
    refine ⟨j, a, ?_⟩
    rw [getD_snoc_lt hp, getD_snoc_lt (by omega), getD_snoc_lt (by omega)]
    exact b
  · obtain rfl : p = ns.length := by omega
    refine ⟨j, hj, ?_⟩
    rw [getD_snoc_eq, getD_snoc_lt hj, getD_snoc_lt (by omega)]
    exact e
theorem Star.link {ns : List Int} (h : Star ns) {p : Nat} (h1 : 1 ≤ p) (h2 : p < ns.length) : ∃ j, linkOf ns p = some (j, p - 1) := by
  obtain ⟨j, a, b⟩ := h.by_last p h1 h2
  exact ⟨j, link_unique (fun q c d => (h.add.step q c (by omega)).1) (by omega) (by omega) b.symm fun k2 c d => by omega⟩
theorem Star.need {ns : List Int} (h : Star ns) : ∀ k p, p + k = ns.length - 1 → Need ns p
  | 0, p, e => by
    obtain rfl : p = ns.length - 1 := by omega
    exact .last
  | k + 1, p, e => by
    have ih := h.need k (p + 1) (by omega)
    obtain ⟨j, hj⟩ := h.link (p := p + 1) (by omega) (by omega)
    exact .hi ih (by omega) hj
theorem Star.dbl : ∀ n : Nat, 1 ≤ n → Star (Fs.dbl n) := by
  intro n
  induction n using Nat.strongRecOn with
  | ind n ih =>
    intro h1
    by_cases h : n ≤ 1
    · rw [dbl_one h]
      exact .single
    · rw [dbl_step h]
      have s1 := ih (n / 2) (by omega) (by omega)
      have hl := s1.add.lo
      have el := dbl_last (n / 2) (by omega)
      rw [last_eq s1.add] at el
      have s2 : Star (Fs.dbl (n / 2) ++ [2 * ((n / 2 : Nat) : Int)]) := s1.snoc (j := (Fs.dbl (n / 2)).length - 1) (by omega) (by rw [el]; omega)
      by_cases ho : n % 2 = 1
      · rw [if_pos ho]
        refine s2.snoc (j := 0) (by rw [List.length_append, List.length_singleton]; omega) ?_
        rw [s2.add.one, List.length_append, List.length_singleton, Nat.add_sub_cancel, getD_snoc_eq]
        omega
      · rw [if_neg ho, List.append_nil]
        exact s2
theorem thin_dbl {n : Nat} (h : 1 ≤ n) : thin (dbl n) = dbl n := thin_all fun p hp => (Star.dbl n h).need ((dbl n).length - 1 - p) p (by omega)
theorem ch_dbl {n : Nat} (h1 : 1 ≤ n) (h2 : n ≤ 10 ^ 30) : IsCh (dbl n) := (ch_iff _).mpr ⟨(Star.dbl n h1).add, by
  have := dbl_len n h1 h2
  omega⟩
theorem dbl_len2 {n : Nat} (k : Nat) (h1 : 1 ≤ n) (h : n < 2 ^ (k + 1)) : (dbl n).length ≤ 2 * k + 1 := by
  have hfl : (figs n).length ≤ k := figs_len k n h
  have hb := bld_len (figs n)
  rw [bld_figs n h1] at hb
  omega
/-- the figures, the lowest first -/
def bits (n : Nat) : List Int := if h : n = 0 then [] else ((n % 2 : Nat) : Int) :: bits (n / 2)
termination_by n
decreasing_by omega
theorem bits_zero : bits 0 = [] := by rw [bits, dif_pos rfl]
theorem bits_step {n : Nat} (h : n ≠ 0) : bits n = ((n % 2 : Nat) : Int) :: bits (n / 2) := by rw [bits, dif_neg h]
theorem bits_len : ∀ (k n : Nat), n < 2 ^ k → (bits n).length ≤ k
  | 0, n, h => by
    obtain rfl : n = 0 := by rw [Nat.pow_zero] at h; omega
    rw [bits_zero]
    exact Nat.le_refl _
  | k + 1, n, h => by
    by_cases h1 : n = 0
    · subst h1
      rw [bits_zero]
      exact Nat.zero_le _
    · rw [bits_step h1, List.length_cons]
      have := bits_len k (n / 2) (by rw [Nat.pow_succ] at h; omega)
      omega
theorem dbl_bits : ∀ n : Nat, 1 ≤ n → (dbl n).length + 1 = (bits n).length + (bits n).count 1 := by
  intro n
  induction n using Nat.strongRecOn with
  | ind n ih =>
    intro h1
    by_cases h : n ≤ 1
    · obtain rfl : n = 1 := by omega
      rw [dbl_one (Nat.le_refl 1), bits_step (by decide), show 1 / 2 = 0 from rfl, bits_zero]
      rfl
    · have e := ih (n / 2) (by omega) (by omega)
      rw [dbl_step h, bits_step (by omega), List.length_append, List.length_append, List.length_singleton, List.length_cons, List.count_cons]
      by_cases ho : n % 2 = 1
      · rw [if_pos ho, ho]
        simp only [List.length_singleton, Int.natCast_one, beq_self_eq_true, if_true]
        omega
      · rw [if_neg ho, show n % 2 = 0 by omega]
        simp only [List.length_nil]
        rw [if_neg (by decide)]
        omega
/-! ### joined -/
/-- two chains joined, where there is room -/
def spJoined : Sp := fun vs H Q _ => ∃ (a b : Addr) (ns ms : List Int), vs = [.ref a, .ref b] ∧ H a = some (.lst (ns.map V.int)) ∧ H b = some (.lst (ms.map V.int)) ∧ IsCh ns ∧ IsCh ms ∧ ns.length + ms.length - 1 ≤ 250 ∧ gi ns (-1) < 2 ^ 200 ∧ gi ms (-1) < 2 ^ 200 ∧ ∀ p H', Same H H' → H p = none → H' p = some (.lst ((joinM ns ms).map V.int)) → Q (.ref p) H'
theorem c_joined {a b : Addr} {ns ms : List Int} {H : Hp} {Q : VK} {E : XK} (ha : H a = some (.lst (ns.map V.int))) (hb : H b = some (.lst (ms.map V.int))) (h1 : IsCh ns) (h2 : IsCh ms) (h3 : ns.length + ms.length - 1 ≤ 250) (h4 : gi ns (-1) < 2 ^ 200) (h5 : gi ms (-1) < 2 ^ 200) (q : ∀ p H', Same H H' → H p = none → H' p = some (.lst ((joinM ns ms).map V.int)) → Q (.ref p) H') : spJoined [.ref a, .ref b] H Q E :=
  ⟨a, b, ns, ms, rfl, ha, hb, h1, h2, h3, h4, h5, q⟩
theorem IsCh.join {cs ds : List Int} (h1 : IsCh cs) (h2 : IsCh ds) (h3 : cs.length + ds.length - 1 ≤ 250) : IsCh (joinM cs ds) := by
  have a1 := ((ch_iff _).mp h1).1
  have a2 := ((ch_iff _).mp h2).1
  exact (ch_iff _).mpr ⟨a1.join a2, by rw [join_len a2.lo]; exact h3⟩
end Fs

/-! ## Texts: numbers written and read -/
namespace Fs
open PySem PySem.Spec PyProof.Rows L2
/-- the text of a number -/
def wd (n : Int) : Str := Str.ofString (toString n)
def blk : Str := Str.ofString " "
theorem blk_eq : blk = ⟨#[32]⟩ := by decide +kernel
theorem zero_eq : Str.ofString "0" = ⟨#[48]⟩ := by decide +kernel
theorem figs_eq : (Str.ofString "0123456789").cps.toList = [48, 49, 50, 51, 52, 53, 54, 55, 56, 57] := by decide +kernel
theorem one_sign {c d : Nat} : (⟨#[c]⟩ : Str) = ⟨#[d]⟩ ↔ c = d := by
  constructor
  · intro h
    have := congrArg (fun z : Str => z.cps.toList) h
    simpa using this
  · rintro rfl
    rfl
theorem str_ext {a b : Str} (h : a.cps.toList = b.cps.toList) : a = b := Str.ext' (Array.toList_inj.mp h)
theorem in_figs (c : Nat) : c ∈ (Str.ofString "0123456789").cps.toList ↔ 48 ≤ c ∧ c ≤ 57 := by
  rw [figs_eq]
  simp only [List.mem_cons, List.not_mem_nil, or_false]
  omega
/-! ### parts joined, a text cut -/
theorem cut_eq {c : Nat} : ∀ {a b s t : List Nat}, c ∉ a → c ∉ b → a ++ c :: s = b ++ c :: t → a = b ∧ s = t
  | [], [], _, _, _, _, h => ⟨rfl, (List.cons.inj h).2⟩
  | [], y :: b, _, _, _, hb, h => absurd (by rw [(List.cons.inj h).1]; exact List.mem_cons_self ..) hb
  | x :: a, [], _, _, ha, _, h => absurd (by rw [← (List.cons.inj h).1]; exact List.mem_cons_self ..) ha
  | x :: a, y :: b, s, t, ha, hb, h => by
    obtain ⟨e, h2⟩ := List.cons.inj h
    obtain ⟨e2, e3⟩ := cut_eq (fun z => ha (List.mem_cons_of_mem _ z)) (fun z => hb (List.mem_cons_of_mem _ z)) h2
    exact ⟨by rw [e, e2], e3⟩
/-- parts with a sign between two -/
def jn (c : Nat) : List (List Nat) → List Nat
  | [] => []
  | [x] => x
  | x :: y :: r => x ++ c :: jn c (y :: r)
theorem jn_inj {c : Nat} : ∀ {A B : List (List Nat)}, A ≠ [] → B ≠ [] → (∀ a, a ∈ A → c ∉ a) → (∀ b, b ∈ B → c ∉ b) → jn c A = jn c B → A = B
  | [], _, h, _, _, _, _ => absurd rfl h
  | _ :: _, [], _, h, _, _, _ => absurd rfl h
  | [a], [b], _, _, _, _, h => by rw [show a = b from h]
  | [a], b :: b2 :: r, _, _, ha, _, h => by
    have h1 : a = b ++ c :: jn c (b2 :: r) := h
    refine absurd ?_ (ha a (List.mem_cons_self ..))
    rw [h1]
    exact List.mem_append_right _ (List.mem_cons_self ..)
  | a :: a2 :: r, [b], _, _, _, hb, h => by
    have h1 : a ++ c :: jn c (a2 :: r) = b := h
    refine absurd ?_ (hb b (List.mem_cons_self ..))
    rw [← h1]
    exact List.mem_append_right _ (List.mem_cons_self ..)
  | a :: a2 :: r, b :: b2 :: t, _, _, ha, hb, h => by
    have h1 : a ++ c :: jn c (a2 :: r) = b ++ c :: jn c (b2 :: t) := h
    obtain ⟨e, e2⟩ := cut_eq (ha a (List.mem_cons_self ..)) (hb b (List.mem_cons_self ..)) h1
    have ih := jn_inj (A := a2 :: r) (B := b2 :: t) (List.cons_ne_nil _ _) (List.cons_ne_nil _ _) (fun x hx => ha x (List.mem_cons_of_mem _ hx)) (fun x hx => hb x (List.mem_cons_of_mem _ hx)) e2
    rw [e, ih]
theorem join_jn (c : Nat) : ∀ ws : List Str, (Str.join ⟨#[c]⟩ ws).cps.toList = jn c (ws.map fun w => w.cps.toList)
  | [] => rfl
  | [x] => rfl
  | x :: y :: r => by
    have ih := join_jn c (y :: r)
    show (x ++ (⟨#[c]⟩ : Str) ++ Str.join ⟨#[c]⟩ (y :: r)).cps.toList = x.cps.toList ++ c :: jn c ((y :: r).map fun w => w.cps.toList)
    rw [← ih, Str.cps_append, Str.cps_append, Array.toList_append, Array.toList_append, List.append_assoc]
    rfl
theorem split_join {c : Nat} {ws : List Str} (h0 : ws ≠ []) (hf : ∀ w, w ∈ ws → c ∉ w.cps.toList) : Txt.split (Str.join ⟨#[c]⟩ ws) ⟨#[c]⟩ = ws := by
  have e := StrLaws.join_split (Str.join ⟨#[c]⟩ ws) ⟨#[c]⟩
  have hp := split_pos (Str.join ⟨#[c]⟩ ws) ⟨#[c]⟩
  have hs := StrLaws.split_free (Str.join ⟨#[c]⟩ ws) c
  generalize Txt.split (Str.join ⟨#[c]⟩ ws) ⟨#[c]⟩ = vs at *
  have e2 := congrArg (fun z : Str => z.cps.toList) e
  simp only [join_jn] at e2
  have h1 : vs ≠ [] := fun z => by
    rw [z] at hp
    exact absurd hp (by decide)
  have e3 := jn_inj (A := vs.map fun w => w.cps.toList) (B := ws.map fun w => w.cps.toList) (by simpa using h1) (by simpa using h0)
    (fun a ha => by
      obtain ⟨w, hw, rfl⟩ := List.mem_map.mp ha
      exact hs w hw)
    (fun a ha => by
      obtain ⟨w, hw, rfl⟩ := List.mem_map.mp ha
      exact hf w hw) e2
  refine List.map_inj_right (f := fun w : Str => w.cps.toList) (fun a b h => str_ext h) |>.mp e3
theorem join_snoc {s w : Str} : ∀ {ws : List Str}, ws ≠ [] → Str.join s (ws ++ [w]) = Str.join s ws ++ s ++ w
  | [], h => absurd rfl h
  | [x], _ => rfl
  | x :: y :: r, _ => by
    have ih := join_snoc (s := s) (w := w) (ws := y :: r) (List.cons_ne_nil _ _)
    show x ++ s ++ Str.join s ((y :: r) ++ [w]) = x ++ s ++ Str.join s (y :: r) ++ s ++ w
    rw [ih, Str.append_assoc, Str.append_assoc, Str.append_assoc, Str.append_assoc, Str.append_assoc]
/-! ### the figures of a number -/
theorem wd_signs (m : Nat) : (wd (m : Int)).cps.toList = (Nat.toDigits 10 m).map Char.toNat := PySem.W.KIN.signs_num m
theorem wd_figs {n : Int} (h0 : 0 ≤ n) : ∀ c, c ∈ (wd n).cps.toList → 48 ≤ c ∧ c ≤ 57 := by
  obtain ⟨m, rfl⟩ := Int.eq_ofNat_of_zero_le h0
  intro c hc
  rw [wd_signs] at hc
  obtain ⟨ch, hch, e⟩ := List.mem_map.mp hc
  have r := digit_range (Nat.isDigit_of_mem_toDigits (by decide) (by decide) hch)
  rw [← e]
  exact r
theorem wd_len {n : Int} {k : Nat} (h0 : 0 ≤ n) (hk : 0 < k) (h : n < 10 ^ k) : (wd n).length ≤ k := toString_length_le h0 hk h
theorem str_len (z : Str) : z.cps.toList.length = z.length := by simp [Str.length]
theorem wd_pos {n : Int} (h0 : 0 ≤ n) : 1 ≤ (wd n).length := by
  obtain ⟨m, rfl⟩ := Int.eq_ofNat_of_zero_le h0
  rw [← str_len, wd_signs, List.length_map]
  exact toDigits_len_ge 10 m
theorem dig_head : ∀ m : Nat, 1 ≤ m → ∃ c r, Nat.toDigits 10 m = c :: r ∧ c.toNat ≠ 48 := by
  intro m
  induction m using Nat.strongRecOn with
  | ind m ih =>
    intro h1
    by_cases h : m < 10
    · rw [Nat.toDigits_of_lt_base h]
      refine ⟨_, _, rfl, ?_⟩
      have : ∀ d : Nat, d < 10 → 1 ≤ d → (Nat.digitChar d).toNat ≠ 48 := by decide
      exact this m h h1
    · have t : Nat.toDigits 10 (m / 10) ++ Nat.toDigits 10 (m % 10) = Nat.toDigits 10 (10 * (m / 10) + m % 10) := Nat.toDigits_append_toDigits (by decide) (by omega) (Nat.mod_lt m (by decide))
      rw [Nat.div_add_mod] at t
      obtain ⟨c, r, e, hc⟩ := ih (m / 10) (by omega) (by omega)
      rw [← t, e]
      exact ⟨c, _, rfl, hc⟩
theorem wd_reads {n : Int} (h0 : 0 ≤ n) (h : n < 10 ^ 100) : PySem.intText? (wd n) = some n := by
  have hl := wd_len (k := 100) h0 (by decide) h
  have hf := wd_figs h0
  have hp := wd_pos h0
  obtain ⟨m, rfl⟩ := Int.eq_ofNat_of_zero_le h0
  have e := PySem.intText_digits (x := wd (m : Int)) hf (fun z => by
    rw [← str_len, z] at hp
    exact absurd hp (by decide)) (Nat.le_trans hl (by decide))
  rw [wd_signs, PySem.W.KIN.val_back] at e
  exact e
/-- a word that writes a number -/
structure NumW (w : Str) : Prop where
  lo : 1 ≤ w.length
  hi : w.length ≤ 100
  head : atI w.cps.toList 0 ≠ some 48
  figs : ∀ c, c ∈ w.cps.toList → 48 ≤ c ∧ c ≤ 57
/-- the number that it writes -/
def numV (w : Str) : Int := ((NumText.digitsVal w.cps.toList : Nat) : Int)
theorem NumW.reads {w : Str} (h : NumW w) : PySem.intText? w = some (numV w) := PySem.intText_digits h.figs (fun z => by
    have hp := h.lo
    rw [← str_len, z] at hp
    exact absurd hp (by decide)) (Nat.le_trans h.hi (by decide))
theorem atI_zero {xs : List Nat} : atI xs 0 = xs[0]? := by
  cases xs with
  | nil => rfl
  | cons x r =>
    unfold atI ixN
    rw [if_pos (by decide), if_pos (by rw [List.length_cons]; omega)]
    rfl
theorem wd_num {n : Int} (h0 : 1 ≤ n) (h : n < 10 ^ 100) : NumW (wd n) ∧ numV (wd n) = n := by
  have hN : NumW (wd n) := by
    refine ⟨wd_pos (by omega), wd_len (by omega) (by decide) h, ?_, wd_figs (by omega)⟩
    obtain ⟨m, rfl⟩ := Int.eq_ofNat_of_zero_le (show 0 ≤ n by omega)
    obtain ⟨c, r, e, hc⟩ := dig_head m (by omega)
    rw [atI_zero, wd_signs, e]
    show some c.toNat ≠ some 48
    exact fun z => hc (Option.some.inj z)
  have e := hN.reads
  rw [wd_reads (by omega) h] at e
  exact ⟨hN, (Option.some.inj e).symm⟩
/-- the text of a chain -/
def txt (ns : List Int) : Str := Str.join blk (ns.map wd)
theorem txt_split {ns : List Int} (h : ns ≠ []) (hp : ∀ n, n ∈ ns → 0 ≤ n) : Txt.split (txt ns) blk = ns.map wd := by
  unfold txt
  rw [blk_eq]
  refine split_join (by simpa using h) fun w hw => ?_
  obtain ⟨n, hn, rfl⟩ := List.mem_map.mp hw
  intro hc
  have := wd_figs (hp n hn) 32 hc
  omega
theorem txt_len {ns : List Int} {k : Nat} (h : ∀ n, n ∈ ns → (wd n).length ≤ k) : (txt ns).length ≤ ns.length * (k + 1) ∧ ((ns.map wd).map (·.length)).sum + (ns.map wd).length * blk.length ≤ ns.length * (k + 1) := by
  have h1 := StrLaws.join_length_le blk (ns.map wd)
  have h2 := sumLen_le_of_bound wd k ns h
  have h3 : blk.length = 1 := by rw [blk_eq]; rfl
  rw [h3, Nat.mul_one, List.length_map] at h1 ⊢
  have h4 : ns.length * (k + 1) = k * ns.length + ns.length := by rw [Nat.mul_add, Nat.mul_one, Nat.mul_comm]
  exact ⟨by unfold txt; omega, by omega⟩
theorem txt_snoc {ns : List Int} {n : Int} (h : ns ≠ []) : txt (ns ++ [n]) = txt ns ++ blk ++ wd n := by
  unfold txt
  rw [List.map_append]
  exact join_snoc (by simpa using h)
theorem txt_one : txt [1] = Str.ofString "1" := by decide +kernel
theorem pos_mem {ns : List Int} (h : IsAdd ns) : ∀ n, n ∈ ns → 1 ≤ n ∧ n ≤ ns.getD (ns.length - 1) 0 := by
  intro n hn
  obtain ⟨i, hi⟩ := List.mem_iff_getElem?.mp hn
  have hl := (List.getElem?_eq_some_iff.mp hi).1
  rw [getD_get 0 hl] at hi
  obtain rfl := Option.some.inj hi
  exact ⟨h.pos hl, h.le_last hl⟩
/-! ### rules of texts by names -/
def rSplit : V → List V → Hp → VK → Prop := fun x xs H Q => ∃ a b, x = .str a ∧ xs = [.str b] ∧ (b.length == 0) = false ∧ a.length + 2 ≤ sizeLine ∧ rNewStrs (Txt.split a b) H Q
theorem mt_splitN' {X : Cx} : MtR X "str.split" rSplit := mt_split
def rJoin (K : PySem.W.Frag) : V → List V → Hp → VK → Prop := fun x xs H Q => ∃ a p, ∃ ys : List Str, x = .str a ∧ xs = [.ref p] ∧ (SqL K H p (ys.map V.str) ∨ SqT K H p (ys.map V.str)) ∧ (ys.map (·.length)).sum + ys.length * a.length ≤ 16777216 ∧ Q (.str (Txt.join a ys)) H
theorem mt_joinN {X : Cx} : MtR X "str.join" (rJoin X.K) := mt_join
def rAddS : R2 := fun x y H Q => ∃ i j, x = .str i ∧ y = .str j ∧ i.length + j.length ≤ sizeLine ∧ Q (.str (i ++ j)) H
theorem op_addS {X : Cx} : OpR X (binaryOp .Add) rAddS := op_add_str
section
variable {σ : L2.St} {H : Hp} {K : PySem.W.Frag} {Q : VK} {to te : TE} {t : TA}
theorem e_m1 {r : V → List V → Hp → VK → Prop} (q : to σ H fun x H1 => (∃ a, x = .str a) ∧ te σ H1 fun y H2 => r x [y] H2 Q) : tM1 r to te σ H Q := q
theorem x_str {a : Str} {A : Prop} (h : A) : (∃ b, V.str a = .str b) ∧ A := ⟨⟨a, rfl⟩, h⟩
theorem r_addS {a b : Str} (h : a.length + b.length ≤ 100000) (q : Q (.str (a ++ b)) H) : rAddS (.str a) (.str b) H Q := ⟨a, b, rfl, rfl, le_line h, q⟩
theorem r_split {a b : Str} (hb : (b.length == 0) = false) (ha : a.length ≤ 50000) (q : ∀ p H1, H p = none → Same H H1 → H1 p = some (.lst ((Txt.split a b).map V.str)) → Q (.ref p) H1) : rSplit (.str a) [.str b] H Q :=
  ⟨a, b, rfl, rfl, hb, le_line (by omega), fun p hp => q p _ hp (same_new hp) upd_same⟩
theorem r_join {a : Str} {p : Addr} {ys : List Str} (h : H p = some (.lst (ys.map V.str))) (hz : (ys.map (·.length)).sum + ys.length * a.length ≤ 16777216) (q : Q (.str (Str.join a ys)) H) : rJoin K (.str a) [.ref p] H Q :=
  ⟨a, p, ys, rfl, rfl, .inl (SqL.of h), hz, by
    show Q (.str (Builtin.Str.glued a ys)) H
    rw [StrLaws.glued_eq_join]
    exact q⟩
theorem r_notInS {c : Nat} {z : Str} (q : Q (.bl (!decide (c ∈ z.cps.toList))) H) : rNotInS (.str ⟨#[c]⟩) (.str z) H Q := ⟨c, z, rfl, rfl, q⟩
theorem e_ixS {z : Str} {i : Int} {c : Nat} (hz : z.length ≤ 100000) (h : atI z.cps.toList i = some c) (q : Q (.str ⟨#[c]⟩) H) : rIxS (.str z) (.int i) H Q := ⟨z, i, c, rfl, rfl, le_line hz, h, q⟩
theorem r_wd {n : Int} (h : n.natAbs.log2 < 1920) (q : Q (.str (wd n)) H) : rStrI [.int n] H Q := r_str h q
end
section
variable {σ : L2.St} {H : Hp} {Q : VK} {K : PySem.W.Frag} {te : TE} {vs : List Nat} {j : Nat}
/-- [f(x) for x in a list] -/
theorem e_lcMapG {α : Type} {a : Addr} {l : List α} (ia f : α → V) (hx : SqL K H a (l.map ia)) (hz : l.length ≤ 100000) (hw : ∀ x, wipe ((wipe σ vs).set j (some x)) vs = wipe σ vs)
    (hs : ∀ (i : Nat) (x : α) (H' : Hp) (K1 : VK), l[i]? = some x → Same H H' → K1 (f x) H' → te ((wipe σ vs).set j (some (ia x))) H' K1)
    (hd : ∀ D H', H D = none → Same H H' → H' D = some (.lst (l.map f)) → Q (.ref D) H') : tLc (iAt K a) (gName j) tYes te vs σ H Q := by
  refine e_lcL (xs := l.map ia) (LcG fun i => (l.take i).map f) hx (by rw [List.length_map]; exact hz) (fun _ _ => rfl) lcg_mono hw (fun i x hx => ?_) (fun D acc H4 hD e4 hacc hR => ?_)
  · rw [List.getElem?_map] at hx
    cases hy : l[i]? with
    | none => rw [hy] at hx; cases hx
    | some y =>
      rw [hy] at hx
      obtain rfl := Option.some.inj hx
      refine lct_yes (y := f y) ?_ (fun H5 K1 e k1 => hs i _ H5 K1 hy e (k1 H5 (Same.refl _)))
      rw [List.take_add_one, hy, List.map_append]
      rfl
  · replace hR : acc = (l.take (l.map ia).length).map f := hR
    rw [List.length_map, List.take_length] at hR
    rw [hR] at hacc
    exact hd D H4 hD e4 hacc
end
theorem wd_ok {n : Int} (h0 : 0 ≤ n) (h : n < 10 ^ 100) : n.natAbs.log2 < 1920 := by
  by_cases e : n.natAbs = 0
  · rw [e]
    decide
  · refine (Nat.log2_lt e).mpr ?_
    have h1 : n.natAbs < 10 ^ 100 := by omega
    exact Nat.lt_of_lt_of_le h1 (by decide +kernel)
/-! ### promises -/
def spNumberOf : Sp := fun vs H Q _ => ∃ w : Str, vs = [.str w] ∧ NumW w ∧ Q (.int (numV w)) H
theorem c_number_of {w : Str} {H : Hp} {Q : VK} {E : XK} (h : NumW w) (q : Q (.int (numV w)) H) : spNumberOf [.str w] H Q E := ⟨w, rfl, h, q⟩
def spShown : Sp := fun vs H Q _ => ∃ (a : Addr) (ns : List Int), vs = [.ref a] ∧ H a = some (.lst (ns.map V.int)) ∧ IsCh ns ∧ gi ns (-1) < 10 ^ 100 ∧ ∀ H', Same H H' → Q (.str (txt ns)) H'
theorem c_shown {a : Addr} {ns : List Int} {H : Hp} {Q : VK} {E : XK} (h : H a = some (.lst (ns.map V.int))) (hc : IsCh ns) (hb : gi ns (-1) < 10 ^ 100) (q : ∀ H', Same H H' → Q (.str (txt ns)) H') : spShown [.ref a] H Q E := ⟨a, ns, rfl, h, hc, hb, q⟩
def spRead : Sp := fun vs H Q _ => ∃ ns : List Int, vs = [.str (txt ns)] ∧ IsCh ns ∧ gi ns (-1) < 10 ^ 100 ∧ ∀ p H', Same H H' → H p = none → H' p = some (.lst (ns.map V.int)) → Q (.ref p) H'
theorem c_read {ns : List Int} {H : Hp} {Q : VK} {E : XK} (hc : IsCh ns) (hb : gi ns (-1) < 10 ^ 100) (q : ∀ p H', Same H H' → H p = none → H' p = some (.lst (ns.map V.int)) → Q (.ref p) H') : spRead [.str (txt ns)] H Q E := ⟨ns, rfl, hc, hb, q⟩
end Fs

/-! ## Own errors: a def that raises, one that is handed a caught error -/
namespace Fs
open PySem PySem.Spec PyProof.Rows L2
section
variable {P : Program} {w : World} {K : PySem.W.Frag} {mg : Str → Option Value} {base : Heap}
/-- a def that may raise -/
theorem Own.okX {x : Str} {st : Stmt} {N ps : List Str} {k : Nat} {sp : Sp} (F : Own K mg x st ps) (S : FnScope N ps (defScope st)) (len : ∀ vs H Q E, sp vs H Q E → vs.length = ps.length)
    (hbody : ∀ (f : Addr) (cdv : Value) (A : Around) (outer : List Env) (s : Shared) (H : Hp) (vs : List V) (Q : VK) (E : XK), Room k (A.deeper (envOfC x (defScope st) s.heap.objs.size f cdv)) → sp vs H Q E →
      ∃ t, PSs (cxOf (L2.CX P w) P w K mg base N x (defScope st) f cdv A outer s H E) (defBody st) t ∧ t ⟨fun _ H' => Q .non H', Q, fun _ _ => False, fun _ _ => False⟩ (start N vs) H) : Cal P w K mg base (L2.CX P w) (k + 1) x ps sp := by
  obtain ⟨f, fd, F, g, b⟩ := F.ex
  exact ⟨f, fd, F.okX S len (hbody f), g, F.kp, b, fdAt_of F⟩
end
section
variable {P : Program} {w : World} {K : PySem.W.Frag} {mg : Str → Option Value} {base : Heap}
/-- a def that keeps one promise without a raise, another one with it -/
theorem Cal.or {x : Str} {ps : List Str} {k : Nat} {sp1 sp2 : Sp} (G1 : Cal P w K mg base CX0 k x ps sp1) (G2 : Cal P w K mg base (L2.CX P w) k x ps sp2) : Cal P w K mg base (L2.CX P w) k x ps (fun vs H Q E => sp1 vs H Q E ∨ sp2 vs H Q E) := by
  obtain ⟨f, fd, F, g, kp, b, l⟩ := G1.ex
  obtain ⟨f2, fd2, F2, g2, _, _, l2⟩ := G2.ex
  have e := g.symm.trans g2
  cases e
  obtain rfl := l.uniq l2
  refine ⟨f, fd, ⟨fun vs H Q E h => h.elim (F.len vs H Q E) (F2.len vs H Q E), fun A outer s H args us vs Q E hr e0 hb r h => ?_⟩, g, kp, b, l⟩
  rcases h with h | h
  · refine codeAny_mono (F.run A outer s H args us vs Q E hr e0 hb r h) fun rs s' hq => ?_
    cases rs with
    | error e => exact hq.elim
    | ok fl => cases fl <;> exact hq
  · exact F2.run A outer s H args us vs Q E hr e0 hb r h
end
/-- what a def promises that is handed the error at p: its class, its dict -/
abbrev SpE := Addr → Value → Option Addr → Sp
structure FnE (P : Program) (w : World) (K : PySem.W.Frag) (mg : Str → Option Value) (base : Heap) (k : Nat) (f : Addr) (fd : FuncData) (ps : List Str) (sp : SpE) : Prop where
  len : ∀ a cls d vs H Q E, sp a cls d vs H Q E → vs.length = ps.length
  run : ∀ (A : Around) (outer : List Env) (s : Shared) (H : Hp) (args : Args) (us : List Value) (vs : List V) (Q : VK) (E : XK) (p : Addr × Obj) (cls : Value) (d : Option Addr), L2H.RoomH k A → L2H.PinOk outer H s p → Zc cls d p.2 → (∃ vs, p.2.data = .fields vs) → Env0 P w K mg base A outer s H → BindsTo s fd args (ps.zip us) → Vals vs us → sp p.1 cls d vs H Q E →
    codeAny (model P w) A (.call (.ref f) args) (CR CX0 outer P w H s Q E) s
/-- .. that stands in the text -/
structure CalE (P : Program) (w : World) (K : PySem.W.Frag) (mg : Str → Option Value) (base : Heap) (k : Nat) (x : Str) (ps : List Str) (sp : SpE) : Prop where
  ex : ∃ f fd, FnE P w K mg base k f fd ps sp ∧ mg x = some (.ref f) ∧ PySem.W.keepIn K (.ref f) = true ∧ Binds K fd ps []
section
variable {P : Program} {w : World} {K : PySem.W.Frag} {mg : Str → Option Value} {base : Heap}
theorem Own.okE {x : Str} {st : Stmt} {N ps : List Str} {k : Nat} {sp : SpE} (O : Own K mg x st ps) (S : FnScope N ps (defScope st)) (len : ∀ a cls d vs H Q E, sp a cls d vs H Q E → vs.length = ps.length)
    (hbody : ∀ (f : Addr) (cdv : Value) (A : Around) (outer : List Env) (s : Shared) (H : Hp) (vs : List V) (Q : VK) (E : XK) (p : Addr × Obj) (cls : Value) (d : Option Addr), Zc cls d p.2 → (∃ vs, p.2.data = .fields vs) → L2H.RoomH k (A.deeper (envOfC x (defScope st) s.heap.objs.size f cdv)) → sp p.1 cls d vs H Q E →
      ∃ t, PSs (L2H.cxH CX0 P w K mg base N x (defScope st) f cdv A outer s H E p) (defBody st) t ∧ t ⟨fun _ H' => Q .non H', Q, fun _ _ => False, fun _ _ => False⟩ (start N vs) H) : CalE P w K mg base (k + 1) x ps sp := by
  obtain ⟨f, fd, F, g, b⟩ := O.ex
  refine ⟨f, fd, ?_, g, F.kp, b⟩
  obtain ⟨oc, od, kV, doc, pm, an, cdv, ct, osl, rfl, lk, hcd⟩ := F.ex
  refine ⟨len, fun A outer s H args us vs Q E p cls d hr hpin hz hf e0 hb r hsp => ?_⟩
  have hl := len _ _ _ _ _ _ _ hsp
  have KX : K.In s.heap := e0.mod.kin.keeps fun b o e => (e0.bs b o e).1
  have hkind : ∀ y ∈ ps.zip us, (defScope st).names.lookup y.1 = some .local ∨ ((defScope st).names.lookup y.1 = some .cell ∧ ((cellsFrom (s.heap.objs.size + 1) (defScope st).names []).lookup y.1).isSome = true) := fun ⟨n, v⟩ hy => by
    rcases S.par n (List.of_mem_zip hy).1 with q | q
    · exact .inl q
    · exact .inr ⟨q, PySem.W.cellsFrom_some _ _ _ (.inl q)⟩
  refine codeAny_call_function hr.depth (KX _ _ lk) rfl S.co S.gen rfl (PySem.W.codeRec_of KX hcd) (hb _ _ _ _ ?_)
  refine wpAny_newFunctionEnv_cells S.kind hkind fun env he s1 y => ?_
  subst he
  refine ⟨(e0.mod.nolimit.keeps fun b o e => (e0.bs b o e).1).keeps y.toInCall.keep, codeAny_func ?_⟩
  obtain ⟨t, ht, hq⟩ := hbody f cdv A outer s H vs Q E p cls d hz hf (hr.deeper _) hsp
  have I := L2H.inv_startH (CX := CX0) (E := E) S hpin e0 hl r y
  refine wpAny_mono (ht.run [] s1 (start N vs) H _ I hq) (fun fl s' hs => ?_) fun e s' hs => hs
  cases fl with
  | ret u =>
    obtain ⟨v, σ', H', J, rv, q⟩ := hs
    exact ⟨v, H', J.os, J.bare, J.base, J.hok, rv, q⟩
  | next =>
    obtain ⟨σ', H', J, q⟩ := hs
    exact ⟨V.non, H', J.os, J.bare, J.base, J.hok, rfl, q⟩
  | brk =>
    obtain ⟨_, _, _, q⟩ := hs
    exact q.elim
  | cont =>
    obtain ⟨_, _, _, q⟩ := hs
    exact q.elim
end
section
variable {X : Cx} {CX : CXT} {k : Nat} {ps : List Str} {sp : Sp} {spE : SpE} {x : Str} {p pos : Pos} {e : Expr} {es : List Expr} {t : TA}
/-- a call within a try -/
theorem pe_calS {E : L2.St → XK} (G : Cal X.prog X.w X.K X.mg X.base CX k x ps sp) (hr : Room k X.A) (hx : ∀ σ, PassesAt CX X σ (E σ)) (hg : Gl X x) (ha : PA X (e :: es) t) (hdb : (x == ("__debug__" : Str)) = false := by decide)
    (he : starEach (e :: es) X.env = (false, eval e X.env) :: starEach es X.env := by rfl) (hpl : (backTo pos (starEach es X.env)).any (·.1) = false := by rfl) :
    PE X (.Call (.Name x p) (e :: es) [] pos) (tCallS sp E t) := by
  obtain ⟨f, fd, F, g, kp, b, _⟩ := G.ex
  exact pe_callS F hr hg g kp b hx ha hdb he hpl
/-- a call within the suite, that is handed the error -/
theorem pe_calE {a : Addr} {oe : Obj} {cls : Value} {d : Option Addr} (G : CalE X.prog X.w X.K X.mg X.base k x ps spE) (hr : L2H.RoomH k X.A) (hq : (a, oe) ∈ X.pn) (hz : Zc cls d oe) (hf : ∃ vs, oe.data = .fields vs) (hg : Gl X x) (ha : PA X (e :: es) t) (hdb : (x == ("__debug__" : Str)) = false := by decide)
    (he : starEach (e :: es) X.env = (false, eval e X.env) :: starEach es X.env := by rfl) (hpl : (backTo pos (starEach es X.env)).any (·.1) = false := by rfl) :
    PE X (.Call (.Name x p) (e :: es) [] pos) (tCallS (spE a cls d) (fun _ => E0) t) := by
  obtain ⟨f, fd, F, g, kp, b⟩ := G.ex
  refine ⟨fun pins s σ H Q I h => ?_⟩
  refine wpAny_Call_Name_kw (ld_glob I hg g ?_ hdb)
  refine PySem.W.callWith_K (h₀ := X.base) I.ok.mod.kin kp (thn (ha.run pos pins s σ H _ I h) fun us s1 ⟨vs, H1, I1, r, hsp⟩ => ⟨I1.kIn, ?_⟩) he hpl
  have hl : us.length = ps.length := by
    rw [← r.length]
    exact F.len _ _ _ _ _ _ _ hsp
  have bd := b s1 us I1.kIn (by rw [List.append_nil]; exact hl)
  rw [List.append_nil] at bd
  have P1 := I1.pin (a, oe) (List.mem_append_left _ hq)
  have hpin : L2H.PinOk X.stack H1 s1 (a, oe) := ⟨P1.1, P1.2.1, fun hm => (List.mem_cons.mp (I1.stkSub a hm)).elim P1.2.2.1 P1.2.2.2.1, P1.2.2.2.2⟩
  refine wpAny_call (codeAny_mono (F.run X.A X.stack s1 H1 ⟨us, []⟩ us vs Q E0 (a, oe) cls d hr hpin hz hf I1.env0 bd r hsp) fun rs s' hq => ?_)
  cases rs with
  | error e => exact hq.elim
  | ok fl =>
    cases fl with
    | ret u => exact I1.after hq
    | next => exact hq.elim
    | brk => exact hq.elim
    | cont => exact hq.elim
/-- a class by its name -/
theorem pe_cls {C : Addr} {y : Str} {pos : Pos} (h : X.mg y = some (.ref C)) (hg : Gl X y) (hd : (y == ("__debug__" : Str)) = false := by decide) : PE X (.Name y pos) (tC (.ref C)) := pe_glob hg h (show RelV (.ref C) (.ref C) from rfl) hd
/-- isinstance of the error that is held -/
theorem call_isX {D : Addr} {q : Addr × Obj} (C : ExcC X.K D) (hq : q ∈ X.pn) (hz : Zc (.ref D) none q.2) (hf : ∃ vs, q.2.data = .fields vs) : CallR X (.builtin "isinstance") (rIsE X.K D q.1) := by
  intro pins s σ H xs us Q I r h
  obtain ⟨c, cv, b, rfl, hcv, e, hQ⟩ := h
  obtain ⟨u1, u2, rfl, r1, r2⟩ := vals2 r
  obtain rfl := hcv _ r2
  obtain rfl : u1 = Value.ref q.1 := r1
  obtain ⟨vs, hv⟩ := hf
  have hget := (I.pin q (List.mem_append_left _ hq)).1
  have J : PySem.W.InstAt s.heap q.1 q.2 D none := by
    obtain ⟨a, oc, od, oda, osl⟩ := q
    obtain ⟨h1, h2⟩ := hz
    dsimp only at h1 h2 hv hget
    subst h1 h2 hv
    exact ⟨hget, rfl, rfl, trivial⟩
  exact PySem.W.kia_one (PySem.W.handS_kitx_exc C.hg C.hk C.hs C.hd C.ha C.hn C.ht C.hm) I.kIn J e (fun z => nomatch z) fun tk => ⟨.bl b, H, I.kept (t' := tk) fun _ _ z => z, rfl, hQ⟩
/-- bools.count(b) -/
def rCntB (K : PySem.W.Frag) : V → List V → Hp → VK → Prop := fun x xs H Q => ∃ (p : Addr) (bs : List Bool) (b : Bool), x = .ref p ∧ xs = [.bl b] ∧ SqL K H p (bs.map V.bl) ∧ Q (.int (bs.count b : Nat)) H
theorem flat_bools : ∀ bs : List Bool, (bs.map V.bl).all flatV = true
  | [] => rfl
  | b :: r => by
    rw [List.map_cons, List.all_cons, flat_bools r]
    rfl
theorem countP_bools {b : Bool} : ∀ {bs : List Bool} {us : List Value}, Vals (bs.map V.bl) us → us.countP (eqU (.bl b)) = bs.count b
  | [], _, .nil => rfl
  | c :: r, u :: us, .cons h t => by
    have ih := countP_bools (b := b) t
    rw [List.countP_cons, List.count_cons, ih, eqU_of (x := .bl b) (y := .bl c) h rfl]
    rfl
theorem mt_lcountB : MtR X "list.count" (rCntB X.K) := by
  intro pins s σ H x xs v us Q I rx rxs h
  obtain ⟨p, bs, b, rfl, rfl, hs, q⟩ := h
  cases rx
  obtain ⟨u, rfl, ru⟩ := rxs.one
  obtain ⟨its, rv, ⟨⟨cls, dd, data, sl⟩, n, ho, hc, hdn, hd⟩, hlen⟩ := I.list hs
  simp only at hc hd
  subst hc hd
  refine call_meets PySem.F.slot_list_count ⟨_, ho, rfl⟩ PySem.F.entry_list_count (PySem.F.args_list_count_2 _ _)
    (SeqAt.list_countAt p its.toArray n dd sl u (eqU (.bl b))) ⟨ho, fun y hy => mem_eqAt ru rfl rv (flat_bools bs) y (by simpa using hy), ?_⟩
  have ec : its.toArray.toList.countP (eqU (.bl b)) = bs.count b := countP_bools rv
  refine ⟨.int (bs.count b : Nat), H, I.tok _, ⟨s.toks, ?_⟩, q⟩
  show Value.int ((its.toArray.toList.countP (eqU (.bl b)) : Nat) : Int) s.toks = Value.int ((bs.count b : Nat) : Int) s.toks
  rw [ec]
end
section
variable {σ : L2.St} {H : Hp} {K : PySem.W.Frag} {Q : VK} {t : TA}
theorem e_callS {sp : Sp} {E : L2.St → XK} (q : t σ H fun vs H1 => sp vs H1 Q (E σ)) : tCallS sp E t σ H Q := q
theorem r_indexB {p : Addr} {bs : List Bool} {j : Nat} (h : SqL K H p (bs.map V.bl)) (hj : bs[j]? = some true) (hn : ∀ m, m < j → bs[m]? ≠ some true) (q : Q (.int (j : Int)) H) : rIndex K (.ref p) [.bl true] H Q := by
  refine ⟨p, _, .bl true, j, .bl true, rfl, rfl, h, rfl, flat_bools bs, ?_, rfl, fun m z hm hz => ?_, q⟩
  · rw [List.getElem?_map, hj]
    rfl
  · rw [List.getElem?_map] at hz
    cases hb : bs[m]? with
    | none => rw [hb] at hz; cases hz
    | some b =>
      rw [hb] at hz
      obtain rfl := Option.some.inj hz
      cases b with
      | true => exact absurd hb (hn m hm)
      | false => rfl
theorem m_countB {p : Addr} {bs : List Bool} {b : Bool} (h : SqL K H p (bs.map V.bl)) (q : Q (.int ((bs.count b : Nat) : Int)) H) : rCntB K (.ref p) [.bl b] H Q := ⟨p, bs, b, rfl, rfl, h, q⟩
theorem r_isE {D a : Addr} {C : Addr} {b : Bool} (e : PySem.W.kitOne K (.ref D) (.ref C) = some b) (q : Q (.bl b) H) : rIsE K D a [.ref a, .ref C] H Q := ⟨.ref C, .ref C, b, rfl, fun u h => h, e, q⟩
theorem r_isEv {D a : Addr} {n : String} {b : Bool} (e : PySem.W.kitOne K (.ref D) (.type n) = some b) (q : Q (.bl b) H) : rIsE K D a [.ref a, .ty n] H Q := ⟨.ty n, .type n, b, rfl, fun u h => h, e, q⟩
end
/-! ### the classes of the program -/
/-- one that is raised -/
structure ClsX (K : PySem.W.Frag) (mg : Str → Option Value) (x : Str) (C S : Addr) : Prop where
  g : mg x = some (.ref C)
  x : PySem.W.excIn K C [.type "ValueError", .type "Exception", .type "BaseException", .type "object"] "ValueError.__new__" = true
  k : PySem.W.keepIn K (.ref C) = true
  b : PySem.W.subIn K (.ref C) (.type "BaseException") = some true
  t : PySem.W.typeIn K (.ref C) = some (.type "type")
  e : PySem.W.exmOne K (.ref C) (.ref S) = some true
  c : ExcC K C
  v : PySem.W.kitOne K (.ref C) (.type "ValueError") = some true
theorem ClsX.mk' {K : PySem.W.Frag} {mg : Str → Option Value} {x : Str} {C S : Addr} (g : mg x = some (.ref C)) (q : PySem.W.excIn K C [.type "ValueError", .type "Exception", .type "BaseException", .type "object"] "ValueError.__new__" = true) (k : PySem.W.keepIn K (.ref C) = true) (b : PySem.W.subIn K (.ref C) (.type "BaseException") = some true) (t : PySem.W.typeIn K (.ref C) = some (.type "type"))
    (bS : PySem.W.subIn K (.ref S) (.type "BaseException") = some true) (dS : PySem.W.hasDictIn K S = true) (tS : PySem.W.typeIn K (.ref S) = some (.type "type")) (e : PySem.W.subIn K (.ref C) (.ref S) = some true)
    (hg : PySem.W.findIn K (.ref C) "__getattribute__" = some (some (.builtin "BaseException.__getattribute__"))) (hk : PySem.W.findIn K (.ref C) "__getattr__" = some none) (hd : PySem.W.hasDictIn K C = true) (ha : PySem.W.findIn K (.ref C) "__class__" = some (some (.builtin "object.__class__")))
    (hn : PySem.W.specialIn K (.builtin "object.__class__") "__get__" = some (some (.builtin "getset_descriptor.__get__"))) (ht : PySem.W.takesIn K (.builtin "object.__class__") = some true) (hm : PySem.W.mroIn K C (.type "object") = some true) (v : PySem.W.kitOne K (.ref C) (.type "ValueError") = some true) : ClsX K mg x C S :=
  ⟨g, q, k, b, t, PySem.W.exm_ref bS dS tS e, ⟨hg, hk, b, hd, ha, hn, ht, hm⟩, v⟩
theorem ClsX.raises {X : Cx} {x : Str} {C S : Addr} (h : ClsX X.K X.mg x C S) : Raises X (.ref C) := raises_own h.b h.t
/-- the word of the i-th class -/
def wordAt (i : Nat) : Str := (["chain", "modulus", "number", "long", "note"] : List Str).getD i Str.empty
def nameAt (i : Nat) : Str := (["NoChain", "NoModulus", "NoNumber", "TooLong", "NoNote"] : List Str).getD i Str.empty
structure Kinds (K : PySem.W.Frag) (mg : Str → Option Value) (D : Nat → Addr) (S : Addr) (L : List Nat) : Prop where
  n0 : mg "NoChain" = some (.ref (D 0))
  n1 : mg "NoModulus" = some (.ref (D 1))
  n2 : mg "NoNumber" = some (.ref (D 2))
  n3 : mg "TooLong" = some (.ref (D 3))
  n4 : mg "NoNote" = some (.ref (D 4))
  s : mg "SumError" = some (.ref S)
  x : ∀ i, i ∈ L → i < 5 ∧ ClsX K mg (nameAt i) (D i) S
  kit : ∀ i, i ∈ L → ∀ j, j < 5 → PySem.W.kitOne K (.ref (D i)) (.ref (D j)) = some (decide (i = j))
theorem kit_five {K : PySem.W.Frag} {t : Value} {D : Nat → Addr} {i : Nat} (h0 : PySem.W.kitOne K t (.ref (D 0)) = some (decide (i = 0))) (h1 : PySem.W.kitOne K t (.ref (D 1)) = some (decide (i = 1))) (h2 : PySem.W.kitOne K t (.ref (D 2)) = some (decide (i = 2))) (h3 : PySem.W.kitOne K t (.ref (D 3)) = some (decide (i = 3))) (h4 : PySem.W.kitOne K t (.ref (D 4)) = some (decide (i = 4))) :
    ∀ j, j < 5 → PySem.W.kitOne K t (.ref (D j)) = some (decide (i = j))
  | 0, _ => h0
  | 1, _ => h1
  | 2, _ => h2
  | 3, _ => h3
  | 4, _ => h4
/-- _law_word_of -/
def spWordOf (D : Nat → Addr) (L : List Nat) : SpE := fun a cls d vs H Q _ => ∃ i, i ∈ L ∧ cls = .ref (D i) ∧ d = none ∧ vs = [.ref a] ∧ ∀ H', Same H H' → Q (.str (wordAt i)) H'
theorem c_word_of {D : Nat → Addr} {L : List Nat} {i : Nat} {a : Addr} {H : Hp} {Q : VK} {E : XK} (hi : i ∈ L) (q : ∀ H', Same H H' → Q (.str (wordAt i)) H') : spWordOf D L a (.ref (D i)) none [.ref a] H Q E := ⟨i, hi, rfl, rfl, rfl, q⟩
end Fs

/-! ## A list comprehension whose item is made by a def that may raise -/
namespace Fs
open PySem PySem.Spec PyProof.Rows L2
theorem note_same {v : Value} {e1 e2 : Env} (h : e1.frame = e2.frame) : noteFrame v e1 = noteFrame v e2 := by
  unfold noteFrame PySem.frameOf
  rw [h]
/-- frames, one other object changed, the ground without it -/
theorem frames_but {h h' B B' : Heap} {C : Addr} {oC : Obj} (k : ∀ b, b ≠ C → h'.get? b = h.get? b) (hC : B.get? C = some oC) (sub : ∀ b o, B'.get? b = some o → B.get? b = some o) : ∀ {l : List Env}, h.FunFrames B l → h'.FunFrames B' l
  | [], _ => trivial
  | env :: l, ⟨hk, ⟨L, o, hf, hn, ho, hd⟩, hr⟩ => by
    have hL : L ≠ C := fun z => by
      rw [z, hC] at hn
      cases hn
    refine ⟨hk, ⟨L, o, hf, ?_, (k L hL).trans ho, hd⟩, frames_but k hC sub hr⟩
    cases q : B'.get? L with
    | none => rfl
    | some o' =>
      have z := sub L o' q
      rw [hn] at z
      cases z
/-- the exception is held, one other object changed -/
theorem held_but {h h' B B' : Heap} {C a L : Addr} {oC : Obj} {l : List Env} {Z : Obj → Prop} (k : ∀ b, b ≠ C → h'.get? b = h.get? b) (hC : B.get? C = some oC) (sub : ∀ b o, B'.get? b = some o → B.get? b = some o) (hB' : B'.get? C = none) (x : HandSPX.HeldZ B l a Z L h) : HandSPX.HeldZ B' l a Z L h' := by
  obtain ⟨x1, x2, x3, oe, vs, T, oT, ts, he, hz, hd, h1, hnT, hTe, hT, hdT, h3⟩ := x
  have none' : ∀ b, B.get? b = none → B'.get? b = none := fun b hb => by
    cases q : B'.get? b with
    | none => rfl
    | some o =>
      have z := sub b o q
      rw [hb] at z
      cases z
  have ne : ∀ b, B.get? b = none → b ≠ C := fun b hb z => by
    rw [z, hC] at hb
    cases hb
  refine ⟨fun b o e => ?_, none' a x2, frames_but k hC sub x3, oe, vs, T, oT, ts, (k a (ne a x2)).trans he, hz, hd, h1, none' T hnT, hTe, (k T (ne T hnT)).trans hT, hdT, h3⟩
  have hb : b ≠ C := fun z => by
    rw [z, hB'] at e
    cases e
  exact (k b hb).trans (x1 b o (sub b o e))
section
variable {X : Cx}
/-- what the block of a comprehension hands on where a call in it raised -/
theorem blk_fails {W : WX} {EX : XK} {pins pins' : List (Addr × Obj)} {σ σ' : L2.St} {H3 H' : Hp} {s3 s5 s' : Shared} {scope : Scope} {ce : Env} {fp : List Addr} {use : Option (Value → Sem Unit)} {Qf : Value → Shared → Prop} {acc u : Value}
    (hst : X.stack = X.env :: X.outer) (hf : X.env.frame = some X.env.locals) (tk : Takes X W) (hW : ∀ cls d G, EX cls d G → W cls d σ G) (I3 : Inv X pins σ H3 s3) (f3 : ∀ b ∈ fp, FpOk X pins H3 b) (cF : ce.frame = X.env.frame) (cL : ce.locals = s3.heap.objs.size)
    (I5 : Inv (X.blk s3 H3 scope ce fp) pins' σ' H' s5) (c : CX X.prog X.w X.stack H' s5 EX u s') :
    notedBy (model X.prog X.w) X.A ce (fun e s2 => compEnds (model X.prog X.w) X.A X.xe use Qf acc ce (.error e) s2) u s' := by
  obtain ⟨a, B, G, cls, d, rfl, fl, hok, ub, na, os, ag, hE⟩ := c
  have hfr : X.A.frames = some (X.env :: X.outer) := by rw [I3.ok.frames, hst]
  -- the block's names
  obtain ⟨m, hNs, _⟩ := id I5.loc
  have hNs : s5.heap.Ns ce.locals m := hNs
  obtain ⟨oC, es, ep, hoC, hdC, hrC⟩ := id hNs
  have nC : H' ce.locals = none := I5.free
  have big : s3.heap.objs.size ≤ ce.locals := Nat.le_of_eq cL.symm
  have cst : ce.locals ∉ frs X.stack := fun hm => by
    rcases List.mem_cons.mp (I3.stkSub _ hm) with z | z
    · have := I3.lt
      rw [← z] at this
      exact absurd (Nat.lt_of_lt_of_le this big) (Nat.lt_irrefl _)
    · exact I3.nofs big z
  have hCB : B.get? ce.locals = some oC := ub.keep _ _ hoC nC cst
  have nG : G ce.locals = none := ub.free _ _ hoC nC
  have old : ∀ b o, s3.heap.get? b = some o → b ≠ ce.locals := fun b o e => fun z => by
    have := Heap.lt_size e
    rw [z] at this
    exact absurd (Nat.lt_of_lt_of_le this big) (Nat.lt_irrefl _)
  -- the ground without them
  generalize hB' : PySem.W.hideAll B [ce.locals] = B'
  have sub : ∀ b o, B'.get? b = some o → B.get? b = some o := fun b o e => by
    rw [← hB'] at e
    exact PySem.W.of_hideAll _ e
  have sup : ∀ b o, b ≠ ce.locals → B.get? b = some o → B'.get? b = some o := fun b o n e => by
    rw [← hB']
    exact PySem.W.hideAll_get _ e (by simpa using n)
  have hid : B'.get? ce.locals = none := by
    rw [← hB']
    exact PySem.W.hideAll_none _ List.mem_cons_self
  have st : B.StaysIn s'.heap := fl.1
  obtain ⟨R, g1, g2⟩ := restrict s'.heap fun b => (B'.get? b).isSome || decide (b ∈ frs X.stack)
  have gB : ∀ b o, b ≠ ce.locals → B.get? b = some o → R.get? b = some o := fun b o n e => by
    rw [g1 b (by simp [sup b o n e])]
    exact st b o e
  have gF : ∀ b, b ∈ frs X.stack → R.get? b = s'.heap.get? b := fun b hb => g1 b (by simp [hb])
  have og : ∀ b o, R.get? b = some o → s'.heap.get? b = some o ∧ ((B'.get? b).isSome = true ∨ b ∈ frs X.stack) := fun b o e => by
    cases q : ((B'.get? b).isSome || decide (b ∈ frs X.stack)) with
    | false =>
      rw [g2 b q] at e
      cases e
    | true =>
      rw [g1 b q] at e
      exact ⟨e, by simpa [Bool.or_eq_true] using q⟩
  have notC : ∀ b o, R.get? b = some o → b ≠ ce.locals := fun b o e => fun z => by
    rcases (og b o e).2 with h | h
    · rw [z, hid] at h
      cases h
    · exact cst (z ▸ h)
  -- the def's own state
  have I7 : Inv X pins σ G { s3 with heap := R, gens := s'.gens, drawn := s'.drawn, toks := s'.toks } := by
    refine I3.call (ch := fp) ⟨fun b o e n hb hx => ?_, fun b o e n hb hx => ?_, fun b o e n hx => ?_, fun b o e hx => ?_, fun b xs e => ub.tups b xs (I5.base.tups b xs e), fun b o v e => ub.frzs b o v (I5.base.frzs b o v e), fun b ps e => ?_⟩ (fun b o e => ?_) ag
      fun b hb => ⟨(f3 b hb).2.2.2.1, (f3 b hb).2.1, (f3 b hb).2.2.2.2.1, (f3 b hb).2.2.2.2.2⟩
    · exact gB b o (old b o e) (ub.keep b o (I5.base.keep b o e n hb hx) (I5.base.free b o e n hx) hb)
    · obtain ⟨sl, q⟩ := I5.base.slot b o e n hb hx
      obtain ⟨sl2, q2⟩ := ub.slot b _ q hb
      exact ⟨sl2, by rw [gF b hb]; exact q2⟩
    · obtain ⟨o', q⟩ := I5.base.there b o e hx
      exact ub.free b o' q (I5.base.free b o e n hx)
    · obtain ⟨o', q⟩ := I5.base.there b o e hx
      by_cases hb : b ∈ frs X.stack
      · obtain ⟨sl, q2⟩ := ub.slot b _ q hb
        exact ⟨_, by rw [gF b hb]; exact q2⟩
      · obtain ⟨o2, q2⟩ := ub.there b o' q hb
        exact ⟨o2, gB b o2 (old b o e) q2⟩
    · obtain ⟨p1, e1⟩ := I5.base.tbls b ps e
      obtain ⟨p2, e2⟩ := ub.tbls b _ e1
      exact ⟨p1 ++ p2, by rw [e2, Array.append_assoc]⟩
    · refine (hok b o e).stay (fun x v hx q => gB x v (fun z => ?_) q) (fun _ q => q) fun _ _ q => q
      rcases hx with y | y
      · rw [← y, z, nG] at e
        cases e
      · rw [z, nG] at y
        cases y
  -- noted in the def's frame
  show wpAny _ X.A (noteFrame (.ref a) ce) _ _ s'
  rw [note_same cF]
  refine HandSPX.looks_onZ Zc.steady hfr hf (by rw [← hst]; exact fl) fun h1 hh1 up1 => ?_
  have stays1 : B.StaysIn h1 := hh1.1
  refine ⟨m, ?_, fun h2 m2 _ sb => ?_⟩
  · exact hNs.at' fun o e => by
      rw [hoC] at e
      cases e
      exact stays1 _ _ hCB
  have hh2 := held_but (fun b n => sb.2 b n) hCB sub hid hh1
  obtain ⟨k1, k2, k3, oe, vs, T, oT, ts, he, hz, hd, hv1, hr⟩ := id hh2
  unfold PySem.passOn
  refine wpAny_bind (wpAny_field he hd hv1 ?_)
  rw [if_neg (show ¬ ((Value.ref T == Value.none) = true) from by simp)]
  have fin : wpAny (model X.prog X.w) X.A (setFlight (.ref a) ce.frame) (fun _ s4 => wpAny (model X.prog X.w) X.A (throw (.ref a) : Sem Value) (fun _ _ => False) X.xe s4) X.xe { s' with heap := h2 } := by
    rw [cF, hf]
    refine HandSPX.setFlight_onZ hh2 fun h4 hh4 up4 => wpAny_throw (tk _ _ ?_)
    refine ⟨a, B', _, pins, σ, G, cls, d, rfl, I7, fun b o e hb => ?_, fun b o e hnf => ?_, .inr (.inr (by rw [hst]; exact hh4)), na, ?_, ag, hW _ _ _ hE⟩
    · obtain ⟨e', h⟩ := og b o e
      rcases h with h | h
      · obtain ⟨o', q⟩ := Option.isSome_iff_exists.mp h
        have z := st b o' (sub b o' q)
        rw [e'] at z
        cases z
        exact q
      · exact absurd h hb
    · obtain ⟨sl, q⟩ := up1 b o (og b o e).1 hnf
      obtain ⟨sl2, q2⟩ := up4 b _ ((sb.2 b (notC b o e)).trans q) hnf
      exact ⟨sl2, q2⟩
    · show s'.os = s3.os
      rw [os]
      exact I5.os
  first
    | exact wpAny_bind (wpAny_pure (wpAny_bind fin))
    | exact wpAny_bind fin
/-- .. the whole comprehension, without tests -/
theorem lcx_core {W : WX} {EX : XK} {pins : List (Addr × Obj)} {s : Shared} {σ : L2.St} {H : Hp} {Q : VK} {elt tg iter : Expr} {scope : Scope} {own : List (Str × Nat)} {p1 p2 : Pos} {wi : TI} {g : TG} {te : TE} {use : Option (Value → Sem Unit)} {Qf : Value → Shared → Prop}
    (hst : X.stack = X.env :: X.outer) (hf : X.env.frame = some X.env.locals) (tk : Takes X W) (hW : ∀ cls d G, EX cls d G → W cls d σ G) (hc : X.calm = true) (hN : X.N.Nodup) (I : Inv X pins σ H s) (hi : PI X tg iter wi) (ok : BlkOk X.N X.env.scope scope own)
    (hg : ∀ u G C cl fp, PG (X.blk u G scope (compEnvC scope cl C X.env) fp) tg g)
    (he : ∀ u G C cl fp xe, Passes (L2.CX X.prog X.w) ((X.blk u G scope (compEnvC scope cl C X.env) fp).wish xe) EX → PE ((X.blk u G scope (compEnvC scope cl C X.env) fp).wish xe) elt te)
    (hs : ∀ x, foldedSetIterable iter X.env x = pure x) (h : tLc wi g tYes te (own.map (·.2)) σ H Q)
    (hEnd : ∀ D u m G (ce : Env), Inv X pins σ G u → Q (.ref D) G → u.heap.Ns ce.locals m → FpOk X pins G ce.locals → compEnds (model X.prog X.w) X.A X.xe use Qf (.ref D) ce (.ok .next) u) :
    wpAny (model X.prog X.w) X.A (comprehension (.ListComp elt [⟨tg, iter, [], 0⟩] scope p1) scope X.env p2 (newList []) false (eval iter X.env) use) Qf X.xe s := by
  have caught : ∀ y ∈ scope.names, y.2 = .free → ∃ c, X.env.cells.lookup y.1 = some c := fun y hy e => (ok.free y hy e).elim (fun k => I.ok.has _ (.inl k)) fun k => I.ok.has _ (.inr k)
  refine comprehension_at (use := use) rfl hs (closure_ok caught) ok.kind (fun y hy e => (ok.uniq y hy).trans (congrArg some e)) ?_
  refine thn (hi.run pins s σ H _ I h) fun v u1 hu1 => thn hu1 fun vi u2 hu2 => ?_
  obtain ⟨it, fp, tn, J, G2, rfl, I2, T, t2, fok, q⟩ := hu2
  refine wpAny_newObj_type (newEnv_comp ?_) (by show 0 ≤ sizeLine; decide)
  obtain ⟨D, hD⟩ : ∃ D, D = u2.heap.objs.size := ⟨_, rfl⟩
  have freeD : G2 D = none := I2.hok.fresh (Nat.le_of_eq hD.symm)
  obtain ⟨W2, ⟨n0, w0⟩, turn⟩ := q D freeD
  -- the state behind the new list
  obtain ⟨u3, hu3⟩ : ∃ u3 : Shared, u3 = { u2 with heap := u2.heap.push { cls := .type "list", data := .seq ([] : List Value).toArray } } := ⟨_, rfl⟩
  have heap3 : u3.heap = u2.heap.push { cls := .type "list", data := .seq ([] : List Value).toArray } := by rw [hu3]
  have I3 : Inv X pins σ (upd G2 D (.lst [])) u3 := by
    subst hu3
    refine I2.laid (t' := u2.toks) (fun _ _ e => Heap.get?_push_of_some _ e) (Nat.le_of_eq hD.symm) ⟨Nat.zero_le _, [], 0, .nil, ?_⟩
    rw [hD]
    exact Heap.get?_push_size _ rfl
  have below : ∀ b ∈ fp, b < u2.heap.objs.size := fun b hb => by
    obtain ⟨o, e, _⟩ := T.obj _ _ t2 b hb
    exact Heap.lt_size e
  have fok3 : ∀ b ∈ fp, FpOk X pins (upd G2 D (.lst [])) b := fun b hb => by
    have lt := below b hb
    refine ⟨?_, (fok b hb).2⟩
    rw [upd_ne (by rw [hD]; exact Nat.ne_of_lt lt)]
    exact (fok b hb).1
  have lt3 : ∀ b ∈ fp, b < u3.heap.objs.size := fun b hb => by
    rw [heap3, Heap.size_push]
    exact Nat.lt_succ_of_lt (below b hb)
  have t3 : tn 0 u3.heap := T.keep _ _ _ t2 fun b _ o e => by
    rw [heap3]
    exact Heap.get?_push_of_some _ e
  have I4 := block_start I3 ok hN fun b hb => ⟨fok3 b hb, lt3 b hb⟩
  suffices fin : codeAny (model X.prog X.w) X.A (.compStart (.ListComp elt [⟨tg, iter, [], 0⟩] scope p1) 0 (.ref it) (.ref D) (compEnvC scope (cellsFrom (u3.heap.objs.size + 1) scope.names (cloFrom X.env.cells scope.names [])) u3.heap.objs.size X.env))
      (compEnds (model X.prog X.w) X.A X.xe use Qf (.ref D) (compEnvC scope (cellsFrom (u3.heap.objs.size + 1) scope.names (cloFrom X.env.cells scope.names [])) u3.heap.objs.size X.env)) { u3 with heap := pushCells (u3.heap.push { cls := .type "dict", data := .dict #[] }) scope.names } by
    subst hu3
    subst hD
    exact fin
  have pg := hg u3 (upd G2 D (.lst [])) u3.heap.objs.size (cellsFrom (u3.heap.objs.size + 1) scope.names (cloFrom X.env.cells scope.names [])) fp
  have pe := he u3 (upd G2 D (.lst [])) u3.heap.objs.size (cellsFrom (u3.heap.objs.size + 1) scope.names (cloFrom X.env.cells scope.names [])) fp
  obtain ⟨ce, hce⟩ : ∃ ce, ce = compEnvC scope (cellsFrom (u3.heap.objs.size + 1) scope.names (cloFrom X.env.cells scope.names [])) u3.heap.objs.size X.env := ⟨_, rfl⟩
  rw [← hce] at I4 pg pe ⊢
  have cL : ce.locals = u3.heap.objs.size := by
    rw [hce]
    rfl
  have cF : ce.frame = X.env.frame := by
    rw [hce]
    rfl
  have free3 : ∀ b ∈ fp, upd G2 D (.lst []) b = none := fun b hb => (fok3 b hb).1
  obtain ⟨G3, hG3⟩ : ∃ G3, G3 = upd G2 D (.lst []) := ⟨_, rfl⟩
  rw [← hG3] at I3 fok3 I4 pg pe w0 free3
  obtain ⟨u4, hu4⟩ : ∃ u4 : Shared, u4 = { u3 with heap := pushCells (u3.heap.push { cls := .type "dict", data := .dict #[] }) scope.names } := ⟨_, rfl⟩
  rw [← hu4] at I4 ⊢
  have t4 : tn 0 u4.heap := T.keep _ _ _ t3 fun b _ o e => by
    rw [hu4]
    exact pushCells_keeps _ _ _ _ (Heap.get?_push_of_some _ e)
  have calmB : ∀ {ρ : L2.St} {G : Hp} {u : Shared}, Inv (X.blk u3 G3 scope ce fp) [] ρ G u → (∀ b ∈ fp, G b = none) → ∀ b ∈ fp, FpOk (X.blk u3 G3 scope ce fp) [] G b := fun {ρ G u} J' hn b hb => by
    have z := J'.ok.exf b hb
    exact ⟨hn b hb, z.1, J'.ok.exfs b hb, .inl hb, z.2, fun p hp => by simp at hp⟩
  have loop : codeAny (model X.prog X.w) X.A (.compLoop (.ListComp elt [⟨tg, iter, [], 0⟩] scope p1) 0 (.ref it) (.ref D) ce) (compEnds (model X.prog X.w) X.A X.xe use Qf (.ref D) ce) u4 := by
    refine compLoop_any (fun n u => ∃ i G, Inv (X.blk u3 G3 scope ce fp) [] (wipe σ (own.map (·.2))) G u ∧ tn i u.heap ∧ (∀ b ∈ fp, G b = none) ∧ W2 i n G) ?_ n0 ⟨0, G3, I4, t4, free3, w0⟩
    rintro n u5 ⟨i, G5, I5, t5, n5, w5⟩
    rcases turn i n G5 w5 with ⟨halt, hq⟩ | ⟨go, Nx, hNx, one⟩
    · refine thnF (T.done (X.blk u3 G3 scope ce fp) rfl rfl rfl hc i [] u5 _ G5 (fun _ _ => False) I5 (calmB I5 n5) t5 halt) fun r u6 hr6 => ?_
      obtain ⟨rfl, I6⟩ := hr6
      obtain ⟨m, hm, _⟩ := I6.loc
      refine hEnd D u6 m G5 ce (I3.call' (ch := fp) I6.os I6.base I6.hok I6.bare fun b hb => ?_) hq hm (I3.fpOk (Nat.le_of_eq cL.symm) I6.free)
      obtain ⟨_, f1, _, f3, f4, f5⟩ := fok3 b hb
      exact ⟨f3, f1, f4, f5⟩
    · refine thnF (T.item (X.blk u3 G3 scope ce fp) rfl rfl rfl hc i [] u5 _ G5 (fun _ _ => False) I5 (calmB I5 n5) t5 go) fun r u6 hr6 => ?_
      obtain ⟨v6, rfl, h6⟩ := hr6
      refine thnF h6 fun _ u7 h7 => ?_
      obtain ⟨x, G7, I7, r7, y7, t7, n7⟩ := h7
      have P7 := I7.pinned (calmB I7 n7) (T.obj _ _ t7)
      refine thnF (pg.run _ u7 _ G7 x v6 _ P7 r7 (one x G7 y7)) fun _ u8 h8 => ?_
      obtain ⟨σ8, G8, I8, same8, q8⟩ := h8
      refine wpAny_tests_nil ?_
      rw [if_pos rfl]
      have q8 : te σ8 G8 fun y G9 => ∃ acc, G9 D = some (.lst acc) ∧ acc.length < sizeLine ∧ Nx (upd G9 D (.lst (acc ++ [y]))) := q8
      -- an item that raises
      have px : Passes (L2.CX X.prog X.w) ((X.blk u3 G3 scope ce fp).wish (notedBy (model X.prog X.w) X.A ce fun e u => compEnds (model X.prog X.w) X.A X.xe use Qf (.ref D) ce (.error e) u)) EX := fun pins' ρ G u e u' J' c => blk_fails hst hf tk hW I3 fok3 cF cL J'.unwish c
      refine wpAny_mono ((pe _ px).run _ u8 σ8 G8 _ (I8.wish _) q8) (fun z u9 h9 => ?_) fun _ _ z => z
      obtain ⟨yv, G9, I9, r9, acc, hD9, hz9, nx⟩ := h9
      refine app_ok (X := X.blk u3 G3 scope ce fp) I9.unwish hD9 hz9 r9 fun u10 I10 => ?_
      obtain ⟨m', hm', w'⟩ := hNx _ nx
      have kept : ∀ b ∈ fp, ∀ o, u7.heap.get? b = some o → u10.heap.get? b = some o ∧ upd G9 D (.lst (acc ++ [yv])) b = none := fun b hb o e => by
        have z := I10.pin (b, o) (List.mem_append_right _ (List.mem_append_right _ (mem_pinsAt hb e)))
        exact ⟨z.1, z.2.1⟩
      refine ⟨m', hm', i + 1, _, (I10.unpinned (pins := [])).weak (by rw [← same8, wipe_length]) (fun j y e => ?_), T.keep _ _ _ t7 fun b hb o e => (kept b hb o e).1, fun b hb => ?_, w'⟩
      · rw [← same8] at e
        exact (wipe_some e).1
      · obtain ⟨o, e, _⟩ := T.obj _ _ t7 b hb
        exact (kept b hb o e).2
  exact codeAny_compStart_list loop (T.self X.A 0 _ _ _ t4 loop)
/-- name = [..] on one line, an item may raise -/
theorem ps_setLcX {W : WX} {EX : XK} {i : Nat} {y : Str} {py : Pos} {elt tg iter : Expr} {scope : Scope} {own : List (Str × Nat)} {p1 p2 : Pos} {wi : TI} {g : TG} {te : TE}
    (hst : X.stack = X.env :: X.outer) (hf : X.env.frame = some X.env.locals) (tk : Takes X W) (hW : ∀ cls d (σ : L2.St) G, EX cls d G → W cls d σ G) (hc : X.calm = true) (hN : X.N.Nodup) (hy : X.N[i]? = some y) (hyl : X.env.scope.names.lookup y = some .local)
    (hsw : swapsWith (.ListComp elt [⟨tg, iter, [], 0⟩] scope p1) (some (.Name y py)) p2.line X.env = pure true) (hi : PI X tg iter wi) (ok : BlkOk X.N X.env.scope scope own)
    (hg : ∀ u G C cl fp, PG (X.blk u G scope (compEnvC scope cl C X.env) fp) tg g)
    (he : ∀ u G C cl fp xe, Passes (L2.CX X.prog X.w) ((X.blk u G scope (compEnvC scope cl C X.env) fp).wish xe) EX → PE ((X.blk u G scope (compEnvC scope cl C X.env) fp).wish xe) elt te)
    (hs : ∀ x, foldedSetIterable iter X.env x = pure x := by intro _; rfl) :
    PS X (.Assign [.Name y py] (.ListComp elt [⟨tg, iter, [], 0⟩] scope p1) p2) (tAsg (tLc wi g tYes te (own.map (·.2))) (gName i)) := by
  refine ⟨fun pins s σ H N I h => ?_⟩
  have h' : tLc wi g tYes te (own.map (·.2)) σ H (fun x G => gName i x σ G N.nx) := h
  rw [exec_Assign_Name_used _ _ _ _ hsw]
  refine wpAny_bind (wpAny_standAt (wpAny_bind ?_))
  show wpAny _ X.A (do let _ ← comprehension (.ListComp elt [⟨tg, iter, [], 0⟩] scope p1) scope X.env (firstIterPos [⟨tg, iter, [], 0⟩] p1) (newList []) false (eval iter X.env) (some (assign (.Name y py) X.env))) _ _ s
  refine wpAny_bind (thn (lcx_core (Qf := fun _ u => SP X pins N .next u) hst hf tk (fun cls d G z => hW cls d σ G z) hc hN I hi ok hg he hs h' fun D u m G ce J q hn f => ?_) fun _ _ z => wpAny_pure (wpAny_pure z))
  show wpAny _ X.A (assign (.Name y py) X.env (.ref D)) _ _ u
  obtain ⟨f0, f1, f2, f3, f4, f5⟩ := f
  refine wpAny_assign_Name (store_ok2 (v := V.ref D) J hN hy (.inl hyl) rfl (fun u2 J2 z => ?_) (.inr hyl))
  obtain ⟨a, sb, ha⟩ := z
  have apart : ce.locals ≠ a := by
    cases ha with
    | inl e => rw [e]; exact f1
    | inr e => exact fun e2 => f4 y a e e2.symm
  exact ⟨m, hn.sameBut sb apart, fun h3 sb3 => ⟨_, G, J2.turned (t' := u2.toks) (fun b o hb e => (sb3.2 b hb).trans e) f0 f1 f3 f4 f5, q⟩⟩
end
end Fs

/-! ## Texts read or refused -/
namespace Fs
open PySem PySem.Spec PyProof.Rows L2
def words (z : Str) : List Str := Txt.split z blk
def vals (z : Str) : List Int := (words z).map numV
/-- what writes a chain -/
structure Note (z : Str) : Prop where
  all : ∀ w, w ∈ words z → NumW w
  ch : IsCh (vals z)
/-! ### words and their lengths -/
theorem jn_len {c : Nat} : ∀ {A : List (List Nat)}, A ≠ [] → A.length ≤ (jn c A).length + 1 ∧ ∀ a, a ∈ A → a.length ≤ (jn c A).length
  | [], h => absurd rfl h
  | [x], _ => ⟨by show 1 ≤ x.length + 1; omega, fun a ha => by
    obtain rfl : a = x := by simpa using ha
    exact Nat.le_refl _⟩
  | x :: y :: r, _ => by
    have ih := jn_len (c := c) (A := y :: r) (List.cons_ne_nil _ _)
    have e : (jn c (x :: y :: r)).length = x.length + ((jn c (y :: r)).length + 1) := by
      show (x ++ c :: jn c (y :: r)).length = _
      rw [List.length_append, List.length_cons]
    refine ⟨?_, fun a ha => ?_⟩
    · rw [e, List.length_cons]
      have := ih.1
      omega
    · rcases List.mem_cons.mp ha with rfl | h
      · omega
      · have := ih.2 a h
        omega
theorem words_jn (z : Str) : (words z).map (fun w => w.cps.toList) ≠ [] ∧ jn 32 ((words z).map fun w => w.cps.toList) = z.cps.toList := by
  have e := StrLaws.join_split z blk
  have hp := split_pos z blk
  refine ⟨fun h => ?_, ?_⟩
  · have h0 : words z = [] := by simpa using h
    unfold words at h0
    rw [h0] at hp
    exact absurd hp (by decide)
  · have e2 := congrArg (fun x : Str => x.cps.toList) e
    rw [blk_eq, join_jn, ← blk_eq] at e2
    exact e2
theorem words_count (z : Str) : (words z).length ≤ z.length + 1 := by
  obtain ⟨h0, e⟩ := words_jn z
  have := (jn_len (c := 32) h0).1
  rw [e, List.length_map, str_len] at this
  exact this
theorem word_len {z w : Str} (h : w ∈ words z) : w.length ≤ z.length := by
  obtain ⟨h0, e⟩ := words_jn z
  have := (jn_len (c := 32) h0).2 _ (List.mem_map.mpr ⟨w, h, rfl⟩)
  rw [e, str_len, str_len] at this
  exact this
theorem find_neg (x : Str) (c : Nat) : Txt.find x ⟨#[c]⟩ < 0 ↔ c ∉ x.cps.toList := by
  have h := StrLaws.found_one x c
  unfold Txt.find
  cases hx : Builtin.Str.occurrences x ⟨#[c]⟩ 0 x.length 1 with
  | nil =>
    rw [hx] at h
    have h' : decide (c ∈ x.cps.toList) = false := h.symm
    exact ⟨fun _ => of_decide_eq_false h', fun _ => (by decide : (-1 : Int) < 0)⟩
  | cons i r =>
    rw [hx] at h
    have h' : decide (c ∈ x.cps.toList) = true := h.symm
    refine ⟨fun z => absurd z ?_, fun z => absurd (of_decide_eq_true h') z⟩
    show ¬ (i : Int) < 0
    omega
theorem find_fig (c : Nat) : Txt.find (Str.ofString "0123456789") ⟨#[c]⟩ < 0 ↔ ¬ (48 ≤ c ∧ c ≤ 57) := (find_neg _ c).trans (not_congr (in_figs c))
theorem empty_len {z : Str} : z = Str.ofString "" ↔ z.length = 0 := by
  constructor
  · rintro rfl
    decide +kernel
  · intro h
    refine str_ext ?_
    have e0 : z.cps.toList = [] := List.length_eq_zero_iff.mp (by rw [str_len]; exact h)
    rw [e0]
    decide +kernel
theorem head_at {z : Str} (h : 1 ≤ z.length) : ∃ c, atI z.cps.toList 0 = some c ∧ c ∈ z.cps.toList := by
  rw [atI_zero]
  rw [← str_len] at h
  exact ⟨_, List.getElem?_eq_getElem (by omega), List.getElem_mem _⟩
/-- a chain's numbers at most double -/
theorem IsAdd.pow {ns : List Int} (h : IsAdd ns) : ∀ {i : Nat}, i < ns.length → ns.getD i 0 ≤ 2 ^ i := by
  intro i
  induction i using Nat.strongRecOn with
  | ind i ih =>
    intro hi
    by_cases h0 : i = 0
    · subst h0
      rw [h.one]
      exact Int.le_refl _
    · obtain ⟨_, a, b, ha, hb, e⟩ := h.step i (by omega) hi
      have pa := ih a ha (by omega)
      have pb := ih b hb (by omega)
      have up : ∀ j, j < i → (2 : Int) ^ j ≤ 2 ^ (i - 1) := fun j hj => by
        have := Nat.pow_le_pow_right (show 0 < 2 by decide) (show j ≤ i - 1 by omega)
        exact_mod_cast this
      have e2 : (2 : Int) ^ i = 2 ^ (i - 1) + 2 ^ (i - 1) := by
        rw [show i = (i - 1) + 1 by omega, Int.pow_succ, Nat.add_sub_cancel]
        omega
      have := up a ha
      have := up b hb
      omega
theorem small_text {ns : List Int} (h : IsAdd ns) (hl : ns.length ≤ 10) : (txt ns).length ≤ 40 := by
  have hb : ∀ n, n ∈ ns → (wd n).length ≤ 3 := fun n hn => by
    have h1 := pos_mem h n hn
    have h2 := h.pow (i := ns.length - 1) (by have := h.lo; omega)
    have h3 : (2 : Int) ^ (ns.length - 1) ≤ 2 ^ 9 := by
      have := Nat.pow_le_pow_right (show 0 < 2 by decide) (show ns.length - 1 ≤ 9 by omega)
      exact_mod_cast this
    have h4 : (2 : Int) ^ 9 = 512 := by decide
    exact wd_len (by omega) (by decide) (by show n < 10 ^ 3; omega)
  have := (txt_len hb).1
  omega
/-! ### rules by names -/
def rFind : V → List V → Hp → VK → Prop := fun x xs H Q => ∃ a b, x = .str a ∧ xs = [.str b] ∧ Q (.int (Txt.find a b)) H
theorem mt_findN {X : Cx} : MtR X "str.find" rFind := mt_find
section
variable {σ : L2.St} {H : Hp} {K : PySem.W.Frag} {Q : VK} {tl te : TE} {tt : TT} {vs : List Nat} {j : Nat}
theorem r_find {a b : Str} (q : Q (.int (Txt.find a b)) H) : rFind (.str a) [.str b] H Q := ⟨a, b, rfl, rfl, q⟩
theorem r_cutS {z : Str} {lo hi : Option Int} (h : z.length ≤ 100000) (q : Q (.str (cutS z lo hi)) H) : rSlS (.str z) lo hi H Q := ⟨z, rfl, le_line h, q⟩
theorem i_np {c : Bool} {A B : Prop} (hc : c = false) (h : A) : if (!c) = true then A else B := by
  subst hc
  exact h
/-- a comprehension over a text's signs -/
theorem e_lcS {z : Str} (R : Addr → Nat → List V → Hp → Prop) (ha : ∀ Q : VK, Q (.str z) H → tl σ H Q) (hz : z.cps.size ≤ 100000) (h0 : ∀ D, H D = none → R D 0 [] H)
    (mono : ∀ D i acc H1 H2, H D = none → But D H1 H2 → R D i acc H1 → R D i acc H2) (hw : ∀ x, wipe ((wipe σ vs).set j (some x)) vs = wipe σ vs)
    (hs : ∀ i c, z.cps[i]? = some c → LcT R H tt te ((wipe σ vs).set j (some (.str ⟨#[c]⟩))) i) (hd : ∀ D acc H', H D = none → Same H H' → H' D = some (.lst acc) → R D z.cps.size acc H' → Q (.ref D) H') : tLc (iStr tl) (gName j) tt te vs σ H Q := by
  refine ha _ ⟨z, rfl, fun D hD => ?_⟩
  refine ⟨fun i m H' => m = z.cps.size - i ∧ i ≤ z.cps.size ∧ LcW R H D i H', ⟨_, rfl, Nat.zero_le _, hD, same_new hD, [], upd_same, Nat.zero_le _, mono D 0 [] H _ hD (fun b o hb h => by rw [upd_ne hb]; exact h) (h0 D hD)⟩, ?_⟩
  rintro i m H' ⟨rfl, hi, hW⟩
  by_cases hlt : i < z.cps.size
  · refine .inr ⟨hlt, LcW R H D (i + 1), fun H2 h2 => ⟨z.cps.size - (i + 1), by omega, rfl, hlt, h2⟩, fun x H2 hy => ?_⟩
    obtain ⟨rfl, c, hc, rfl⟩ := hy
    exact ⟨hw _, lc_turn mono (by omega) (hs i c hc) hW⟩
  · obtain rfl : i = z.cps.size := by omega
    obtain ⟨_, hS, acc, hacc, _, hR⟩ := hW
    exact .inl ⟨Nat.le_refl _, hd D acc H' hD hS hacc hR⟩
/-- one of a list of texts -/
def okS (k : Nat) : V → Bool
  | .str w => decide (w.length ≤ k)
  | _ => false
theorem e_pick {p : Addr} {xs : List V} {k j : Nat} {i : Int} (h : H p = some (.lst xs)) (hx : xs.all (okS k) = true) (e : i = (j : Int)) (hj : j < xs.length) (q : ∀ w : Str, w.length ≤ k → Q (.str w) H) : rIxL K (.ref p) (.int i) H Q := by
  subst e
  have hm : xs[j] ∈ xs := List.getElem_mem hj
  have ha : atI xs (j : Int) = some xs[j] := by
    unfold atI ixN
    rw [if_pos (by omega), if_pos (by omega), Option.bind_some, Int.toNat_natCast, List.getElem?_eq_getElem hj]
  have hk := List.all_eq_true.mp hx _ hm
  generalize xs[j] = v at ha hk
  cases v with
  | str w => exact e_ixV (SqL.of h) ha (q w (of_decide_eq_true hk))
  | _ => cases hk
end
theorem cut_lo (z : Str) (i : Nat) : (cutS z none (some (i : Int))).length = min i z.length := by
  unfold cutS
  rw [HT.sIx_none, HT.sIx_nat]
  show (List.toArray _).size = _
  rw [List.size_toArray, List.length_take, List.length_drop, str_len]
  omega
theorem cut_hi (z : Str) (i : Nat) : (cutS z (some (i : Int)) none).length = z.length - i := by
  unfold cutS
  rw [HT.sIx_none, HT.sIx_nat]
  show (List.toArray _).size = _
  rw [List.size_toArray, List.length_take, List.length_drop, str_len]
  omega
/-! ### promises -/
def spNumberX (C : Addr) : Sp := fun vs H Q E => ∃ z : Str, vs = [.str z] ∧ z.length ≤ 60 ∧ (NumW z → Q (.int (numV z)) H) ∧ (¬ NumW z → ∀ H', Same H H' → E (.ref C) none H')
theorem c_numberX {C : Addr} {z : Str} {H : Hp} {Q : VK} {E : XK} (h : z.length ≤ 60) (q : NumW z → Q (.int (numV z)) H) (qE : ¬ NumW z → ∀ H', Same H H' → E (.ref C) none H') : spNumberX C [.str z] H Q E := ⟨z, rfl, h, q, qE⟩
def spReadX (C : Addr) : Sp := fun vs H Q E => ∃ z : Str, vs = [.str z] ∧ z.length ≤ 60 ∧ (Note z → ∀ p H', Same H H' → H p = none → H' p = some (.lst ((vals z).map V.int)) → Q (.ref p) H') ∧ (¬ Note z → ∀ H', Same H H' → E (.ref C) none H')
theorem c_readX {C : Addr} {z : Str} {H : Hp} {Q : VK} {E : XK} (h : z.length ≤ 60) (q : Note z → ∀ p H', Same H H' → H p = none → H' p = some (.lst ((vals z).map V.int)) → Q (.ref p) H') (qE : ¬ Note z → ∀ H', Same H H' → E (.ref C) none H') : spReadX C [.str z] H Q E := ⟨z, rfl, h, q, qE⟩
/-- what is due, what is told -/
def spDue : Sp := fun vs H Q _ => ∃ z : Str, vs = [.str z] ∧ z.length ≤ 60 ∧ (Note z → ∀ p H', Same H H' → H p = none → H' p = some (.lst ((vals z).map V.int)) → Q (.ref p) H') ∧ (¬ Note z → ∀ H', Same H H' → Q .non H')
theorem c_due {z : Str} {H : Hp} {Q : VK} {E : XK} (h : z.length ≤ 60) (q : Note z → ∀ p H', Same H H' → H p = none → H' p = some (.lst ((vals z).map V.int)) → Q (.ref p) H') (qN : ¬ Note z → ∀ H', Same H H' → Q .non H') : spDue [.str z] H Q E := ⟨z, rfl, h, q, qN⟩
def spTold13 : Sp := fun vs H Q _ => ∃ z : Str, vs = [.str z] ∧ z.length ≤ 60 ∧ (Note z → ∀ p H', Same H H' → H p = none → H' p = some (.lst ((vals z).map V.int)) → Q (.ref p) H') ∧ (¬ Note z → ∀ H', Same H H' → Q (.str (Str.ofString "note")) H')
theorem c_told13 {z : Str} {H : Hp} {Q : VK} {E : XK} (h : z.length ≤ 60) (q : Note z → ∀ p H', Same H H' → H p = none → H' p = some (.lst ((vals z).map V.int)) → Q (.ref p) H') (qN : ¬ Note z → ∀ H', Same H H' → Q (.str (Str.ofString "note")) H') : spTold13 [.str z] H Q E := ⟨z, rfl, h, q, qN⟩
def spSpoilt13 (K : PySem.W.Frag) : Sp := fun vs H Q _ => ∃ (a : Addr) (ns : List Int) (z : Str), vs = [.ref a, .str z] ∧ SqL K H a (ns.map V.int) ∧ z.length ≤ 50 ∧ ∀ (y : Str) H', y.length ≤ 55 → Same H H' → Q (.str y) H'
theorem c_spoilt13 {K : PySem.W.Frag} {a : Addr} {ns : List Int} {z : Str} {H : Hp} {Q : VK} {E : XK} (h : SqL K H a (ns.map V.int)) (hz : z.length ≤ 50) (q : ∀ (y : Str) H', y.length ≤ 55 → Same H H' → Q (.str y) H') : spSpoilt13 K [.ref a, .str z] H Q E := ⟨a, ns, z, rfl, h, hz, q⟩
end Fs

/-! ## The text by places -/
namespace Fs
open PySem PySem.Spec PyProof.Rows L2
def topS (i : Nat) : Stmt := PySem.Challenge.pw_fewsums_k13_read_or_refused.main.body.getD i (.Pass ⟨0, 0, 0, 0⟩)
/-- what the module's names hold -/
structure Nb (mg : Str → Option Value) : Prop where
  b_len : mg "len" = none
  b_range : mg "range" = none
  b_reversed : mg "reversed" = none
  b_list : mg "list" = none
  b_int : mg "int" = none
  b_str : mg "str" = none
  b_sum : mg "sum" = none
  b_sorted : mg "sorted" = none
  b_isinstance : mg "isinstance" = none
  b_bool : mg "bool" = none
  b_tuple : mg "tuple" = none
  b_min : mg "min" = none
  b_max : mg "max" = none
  b_all : mg "all" = none
  b_ValueError : mg "ValueError" = none
  c_MOST : ∃ t, mg "MOST" = some (.int 250 t)
  c_FIGURES : ∃ t, mg "FIGURES" = some (.str (Str.ofString "0123456789") t)
def spLaw (K : PySem.W.Frag) : Sp := fun vs H Q _ => ∃ (a : Addr) (ns : List Int), vs = [.ref a] ∧ SqL K H a (ns.map V.int) ∧ ns.length ≤ 63 ∧ ∀ H', Q (.bl true) H'

/-! ## Short tactics of my own, under names that the library has for its own (local to this text) -/
-- kd_adr: a fact about a heap
local macro_rules | `(tactic| kd_adr) => `(tactic| first
  | assumption
  | (with_reducible apply upd_same)
  | (with_reducible apply Same.refl)
  | ((with_reducible apply SqL.of); kd_adr)
  | ((with_reducible apply same_new); kd_adr)
  | ((with_reducible apply get_new); kd_adr; (first | assumption | ((with_reducible apply Same.free) <;> assumption)))
  | ((with_reducible apply get_ne); (first | assumption | (refine Ne.symm ?_; assumption)); kd_adr)
  | ((with_reducible apply same_get); assumption; kd_adr)
  | ((with_reducible apply Same.seq); (first | assumption | ((with_reducible apply same_new); assumption)); kd_adr)
  | ((with_reducible apply same_mut); kd_adr; kd_adr)
  | ((with_reducible apply Same.free); kd_adr; assumption)
  | ((with_reducible apply Same.trans); kd_adr; (first | assumption | ((with_reducible apply same_new); assumption))))
-- kln_le: a side condition on ints
local macro_rules | `(tactic| kln_le) => `(tactic| first
  | assumption
  | omega
  | decide
  | (refine ⟨?_, ?_⟩ <;> first | omega | decide)
  | (refine Or.inl ⟨?_, ?_⟩ <;> first | omega | decide)
  | (refine Or.inr ⟨?_, ?_⟩ <;> first | omega | decide)
  | (refine ⟨?_, ?_, ?_⟩ <;> first | omega | decide))
-- kct_strs: a reading, as far as it goes by itself (kat_tups: one step of a def's own rule)
local macro_rules | `(tactic| kct_strs) => `(tactic| repeat (first
  | with_reducible refine s_seq ?_
  | with_reducible refine s_asg ?_
  | with_reducible refine g_name ?_
  | with_reducible refine s_ret ?_
  | with_reducible refine s_drop ?_
  | with_reducible refine s_next ?_
  | ((with_reducible apply e_var); exact rfl)
  | with_reducible refine e_c ?_
  | with_reducible refine e_op ?_
  | with_reducible refine e_un ?_
  | with_reducible refine e_I0 ?_
  | with_reducible refine e_U ?_
  | with_reducible refine e_nil ?_
  | with_reducible refine e_cons ?_
  | with_reducible refine e_lst ?_
  | with_reducible refine e_tup ?_
  | with_reducible refine e_cb ?_
  | with_reducible refine e_call ?_
  | with_reducible refine e_ckw ?_
  | with_reducible refine e_callS ?_
  | with_reducible refine e_eqI ?_
  | with_reducible refine e_neI ?_
  | with_reducible refine e_eqS ?_
  | with_reducible refine e_neS ?_
  | with_reducible refine t_test ?_
  | with_reducible refine t_B ?_
  | with_reducible refine t_bl ?_
  | with_reducible refine t_bl' ?_
  | with_reducible refine e_andV ?_
  | with_reducible refine e_orV ?_
  | with_reducible refine e_notV ?_
  | with_reducible refine iteT ?_
  | with_reducible refine iteF ?_
  | with_reducible refine t_or ?_
  | with_reducible refine t_and ?_
  | with_reducible refine t_not ?_
  | with_reducible refine i_nt ?_
  | with_reducible refine i_nn (decide_eq_true rfl) ?_
  | with_reducible refine i_yes (decide_eq_true rfl) ?_
  | with_reducible refine i_nf ?_
  | with_reducible refine e_p30 ?_
  | with_reducible refine e_p12 ?_
  | with_reducible refine e_p15 ?_
  | with_reducible refine e_p39 ?_
  | ((with_reducible apply r_eqL); kd_adr; kd_adr)
  | ((with_reducible apply r_neL); kd_adr; kd_adr)
  | ((with_reducible refine e_I ?c ?_); (case c => kln_le))
  | ((with_reducible apply e_ixI); kd_adr; kln_le; kln_le)
  | ((with_reducible apply r_len); kd_adr)
  | with_reducible refine r_isN ?_
  | with_reducible refine r_notN ?_
  | with_reducible refine r_isB ?_
  | with_reducible refine r_notB ?_
  | with_reducible refine e_m1 ?_
  | with_reducible refine x_str ?_
  | with_reducible refine r_notInS ?_
  | with_reducible refine r_max ?_
  | with_reducible refine r_min ?_
  | with_reducible refine r_intB ?_
  | with_reducible refine s_dput ?_
  | with_reducible refine d_din ?_
  | with_reducible refine d_dget ?_
  | ((with_reducible apply d_put); kd_adr; kln_le)
  | with_reducible refine e_lc0 ?_
  | with_reducible refine e_yes ?_
  | with_reducible refine s_for0 ?_
  | with_reducible refine rg_ref ?_
  | with_reducible refine e_sl ?_
  | with_reducible refine e_noPart ?_
  | with_reducible refine e_part ?_
  | with_reducible refine g_sub ?_
  | ((with_reducible apply m_set); kd_adr; kln_le; kln_le)
  | with_reducible refine e_eqB ?_
  | with_reducible refine e_neB ?_
  | with_reducible refine e_bm ?_
  | with_reducible refine e_bm0 ?_
  | ((with_reducible apply m_bm); kd_adr)
  | ((with_reducible apply m_bm0); kd_adr)
  | ((with_reducible apply m_appendI); kd_adr; (try simp only [List.length_append, List.length_singleton]); kln_le)
  | ((with_reducible apply m_append); kd_adr; (try simp only [List.length_map]); kln_le)
  | ((with_reducible apply m_clear); kd_adr)
  | ((with_reducible apply m_count); kd_adr)
  | with_reducible refine rg_int ?_
  | with_reducible refine rg_ints ?_
  | with_reducible refine r_int_int ?_
  | with_reducible refine r_int_bool ?_
  | with_reducible refine r_bool_bool ?_
  | with_reducible refine r_str_str ?_
  | with_reducible refine r_str_list ?_
  | ((with_reducible apply r_list_list); kd_adr)
  | ((with_reducible apply r_tup_tup); kd_adr)
  | kat_tups))
-- kp_flats: what a test answers that leaves the heap
local macro_rules | `(tactic| kp_flats) => `(tactic| first
  | ((with_reducible apply n_or); kp_flats; (intro hf; (try simp only [decide_eq_false_iff_not, decide_eq_true_eq, Bool.not_eq_false', Bool.not_eq_true', Bool.or_eq_false_iff, Bool.and_eq_true, Bool.or_eq_true, Bool.and_eq_false_iff] at hf); kp_flats))
  | ((with_reducible apply n_and); kp_flats; (intro hf; (try simp only [decide_eq_false_iff_not, decide_eq_true_eq, Bool.not_eq_false', Bool.not_eq_true', Bool.or_eq_false_iff, Bool.and_eq_true, Bool.or_eq_true, Bool.and_eq_false_iff] at hf); kp_flats))
  | ((with_reducible apply n_not); kp_flats)
  | ((with_reducible apply n_chain); (focus (intro Qt qt; kct_strs; exact qt)); (focus (intro Qt qt; kct_strs; exact qt)); (focus (intro Qt qt; kct_strs; exact qt)); (focus (intro hf Qt qt; kct_strs; exact qt)); (focus (intro hf Qt qt; kct_strs; exact qt)))
  | ((with_reducible apply n_of); focus (intro Qt qt; kct_strs; exact qt)))
-- kpt_turns: an if by what its test answers (b = true, then b = false)
local macro_rules | `(tactic| kpt_turns) => `(tactic| ((with_reducible apply s_if); kp_flats))

/-! ## _law_cell_at -/
abbrev sLawCellAt : Stmt := topS 16
theorem scLawCellAt : FnScope ["script", "k"] ["script", "k"] (defScope sLawCellAt) := ⟨rfl, rfl, rfl, by decide +kernel, rfl, by decide +kernel, by decide +kernel⟩
section
variable {P : Program} {w : World} {K : PySem.W.Frag} {mg : Str → Option Value} {base : Heap}
theorem ok_cell_at (F : Own K mg "_law_cell_at" sLawCellAt ["script", "k"]) (B : Nb mg) : Cal P w K mg base CX0 1 "_law_cell_at" ["script", "k"] (spCellAt K) := by
  refine F.ok scLawCellAt (fun vs H Q E h => ?_) (fun f cdv A outer s H vs Q E hr h => ?_)
  · obtain ⟨a, ns, k, rfl, _⟩ := h
    rfl
  obtain ⟨a, ns, k, rfl, hS, h0, q⟩ := h
  refine ⟨_, (pss_cons (ps_if (pt_cmpR op_lt (pv 1) (pe_callB f_len (by rfl) B.b_len PySem.boot_len (pa_cons (pv 0) pa_nil)) (nomark _)) (pss_one (ps_ret (pe_ix ix_list (pv 0) (pv 1) (fun _ _ => rfl)))) pss_nil)
      (pss_one (ps_ret pe_int))), ?_⟩
  dsimp only [cxOf, Cx.nox, Cx.wish, L2.start]
  kct_strs
  kpt_turns <;> intro hb
  · have hb' := of_decide_eq_true hb
    kct_strs
    have e : cellAt ns k = gi ns k := by
      unfold cellAt
      rw [if_pos hb']
    rw [← e]
    exact q
  · have hb' := of_decide_eq_false hb
    kct_strs
    have e : cellAt ns k = 0 := by
      unfold cellAt
      rw [if_neg hb']
    rw [← e]
    exact q
end

local macro_rules | `(tactic| kat_tups) => `(tactic| first | ((with_reducible apply c_cell_at); kd_adr; kln_le))

/-! ## _law_draw -/
abbrev sLawDraw : Stmt := topS 17
theorem scLawDraw : FnScope ["cell", "k", "bound", "left", "j", "stir"] ["cell", "k", "bound"] (defScope sLawDraw) := ⟨rfl, rfl, rfl, by decide +kernel, rfl, by decide +kernel, by decide +kernel⟩
section
variable {P : Program} {w : World} {K : PySem.W.Frag} {mg : Str → Option Value} {base : Heap}
theorem ok_draw (F : Own K mg "_law_draw" sLawDraw ["cell", "k", "bound"]) (B : Nb mg) : Cal P w K mg base CX0 1 "_law_draw" ["cell", "k", "bound"] spDraw := by
  refine F.ok scLawDraw (fun vs H Q E h => ?_) (fun f cdv A outer s H vs Q E hr h => ?_)
  · obtain ⟨cell, k, bound, rfl, _⟩ := h
    rfl
  obtain ⟨cell, k, bound, rfl, ⟨hk, hk2⟩, ⟨hb, hb2⟩, q⟩ := h
  refine ⟨_, (pss_cons (ps_if (pt_cmpR op_eq (pe_op op_mod (pv 0) pe_int) pe_int (nomark _)) (pss_cons (ps_set (i := 3) scLawDraw.nd rfl (.inl rfl) (pe_op op_fdiv (pv 0) pe_int))
      (pss_cons (ps_for PassesOwn.never rfl (pi_range1 (by rfl) B.b_range (pa_cons (pv 1) pa_nil)) (pg_name (i := 4) scLawDraw.nd rfl (.inl rfl))
      (pss_one (ps_set (i := 3) scLawDraw.nd rfl (.inl rfl) (pe_op op_fdiv (pv 3) (pv 2)))))
      (pss_one (ps_ret (pe_op op_mod (pv 3) (pv 2)))))) pss_nil)
      (pss_cons (ps_set (i := 5) scLawDraw.nd rfl (.inl rfl) (pe_op op_mod (pe_op op_mul (pe_op op_add (pe_op op_add (pe_op op_mod (pv 0) pe_int) (pe_op op_mul pe_int (pv 1))) pe_int) pe_int) pe_int))
      (pss_cons (ps_set (i := 5) scLawDraw.nd rfl (.inl rfl) (pe_op op_mod (pe_op op_mul (pv 5) (pv 5)) pe_int))
      (pss_cons (ps_set (i := 5) scLawDraw.nd rfl (.inl rfl) (pe_op op_mod (pe_op op_mul (pe_op op_add (pv 5) (pe_op op_mul pe_int (pe_op op_add (pv 1) pe_int))) pe_int) pe_int))
      (pss_one (ps_ret (pe_op op_mod (pe_op op_fdiv (pv 5) pe_int) (pv 2)))))))), ?_⟩
  dsimp only [cxOf, Cx.nox, Cx.wish, L2.start]
  kct_strs
  kpt_turns <;> intro hc
  · kct_strs
    refine s_for1 (x := k) (fun i σ' H' => ∃ x y, σ' = [some (.int cell), some (.int k), some (.int bound), some (.int x), y, none] ∧ H' = H) rfl (by omega) (fun Qt qt => by kct_strs; exact qt) (by omega) ?_ ?_ ?_
    · exact ⟨_, _, rfl, rfl⟩
    · rintro i σ' H' hi ⟨x, y, rfl, rfl⟩
      kct_strs
      exact ⟨_, _, rfl, rfl⟩
    · rintro σ' H' ⟨x, y, rfl, rfl⟩
      kct_strs
      exact q _ (Int.emod_nonneg _ (by omega)) (Int.emod_lt_of_pos _ hb)
  · kct_strs
    exact q _ (Int.emod_nonneg _ (by omega)) (Int.emod_lt_of_pos _ hb)
end

/-! ## _law_chain_by -/
abbrev sLawChainBy : Stmt := topS 18
theorem scLawChainBy : FnScope ["script", "first", "most", "chain", "k", "cell", "far", "one", "total"] ["script", "first", "most"] (defScope sLawChainBy) := ⟨rfl, rfl, rfl, by decide +kernel, rfl, by decide +kernel, by decide +kernel⟩
local macro_rules | `(tactic| kat_tups) => `(tactic| ((with_reducible apply c_cell_at); kd_adr; kln_le))
section
variable {P : Program} {w : World} {K : PySem.W.Frag} {mg : Str → Option Value} {base : Heap}
theorem ok_chain_by (F : Own K mg "_law_chain_by" sLawChainBy ["script", "first", "most"]) (B : Nb mg) (GLawCellAt : Cal P w K mg base CX0 1 "_law_cell_at" ["script", "k"] (spCellAt K)) (GLawDraw : Cal P w K mg base CX0 1 "_law_draw" ["cell", "k", "bound"] spDraw) :
    Cal P w K mg base CX0 2 "_law_chain_by" ["script", "first", "most"] (spChainBy K) := by
  refine F.ok scLawChainBy (fun vs H Q E h => ?_) (fun f cdv A outer s H vs Q E hr h => ?_)
  · obtain ⟨a, ns, first, most, rfl, _⟩ := h
    rfl
  obtain ⟨a, ns, first, most, rfl, hS0, ⟨hf, hm, hm2⟩, q⟩ := h
  refine ⟨_, (pss_cons (ps_set (i := 3) scLawChainBy.nd rfl (.inl rfl) (pe_lst (pa_cons pe_int pa_nil)))
      (pss_cons (ps_for PassesOwn.never rfl (pi_range1 (by rfl) B.b_range (pa_cons (pe_op op_mod (pe_cal GLawCellAt (hr.mono (by decide)) pass0 rfl (pa_cons (pv 0) (pa_cons (pv 1) pa_nil))) (pv 2)) pa_nil)) (pg_name (i := 4) scLawChainBy.nd rfl (.inl rfl))
      (pss_cons (ps_set (i := 5) scLawChainBy.nd rfl (.inl rfl) (pe_cal GLawDraw (hr.mono (by decide)) pass0 rfl (pa_cons (pe_cal GLawCellAt (hr.mono (by decide)) pass0 rfl (pa_cons (pv 0) (pa_cons (pe_op op_add (pv 1) pe_int) pa_nil))) (pa_cons (pv 4) (pa_cons pe_int pa_nil)))))
      (pss_cons (ps_set (i := 6) scLawChainBy.nd rfl (.inl rfl) (pe_op op_sub (pe_callB f_len (by rfl) B.b_len PySem.boot_len (pa_cons (pv 3) pa_nil)) pe_int))
      (pss_mid (ps_if (pt_cmpR op_eq (pe_op op_mod (pe_op op_fdiv (pe_cal GLawCellAt (hr.mono (by decide)) pass0 rfl (pa_cons (pv 0) (pa_cons (pv 1) pa_nil))) pe_int) pe_int) pe_int (nomark _)) (pss_one (ps_set (i := 6) scLawChainBy.nd rfl (.inl rfl) (pe_op op_mod (pe_op op_fdiv (pv 5) pe_int) (pe_callB f_len (by rfl) B.b_len PySem.boot_len (pa_cons (pv 3) pa_nil))))) pss_nil)
      (pss_cons (ps_set (i := 7) scLawChainBy.nd rfl (.inl rfl) (pe_op op_mod (pv 5) (pe_callB f_len (by rfl) B.b_len PySem.boot_len (pa_cons (pv 3) pa_nil))))
      (pss_cons (ps_set (i := 8) scLawChainBy.nd rfl (.inl rfl) (pe_op op_add (pe_ix ix_list (pv 3) (pv 6) (fun _ _ => rfl)) (pe_ix ix_list (pv 3) (pv 7) (fun _ _ => rfl))))
      (pss_mid (ps_if (pt_cmpR op_le (pv 8) (pe_ix ix_list (pv 3) (pe_un un_neg pe_int) (fun _ _ => rfl)) (nomark _)) (pss_one (ps_set (i := 8) scLawChainBy.nd rfl (.inl rfl) (pe_op op_add (pe_ix ix_list (pv 3) (pe_un un_neg pe_int) (fun _ _ => rfl)) (pe_ix ix_list (pv 3) (pv 7) (fun _ _ => rfl))))) pss_nil)
      (pss_one (ps_if (pt_cmpR op_lt (pv 8) (pe_op op_pow pe_int pe_int) (nomark _)) (pss_one (ps_expr (pe_bm PySem.F.plainAttrs_list PySem.F.slot_list_append PySem.F.type_list_append mt_append (pv 3) (pa_cons (pv 8) pa_nil)))) pss_nil)))))))))
      (pss_one (ps_ret (pv 3))))), ?_⟩
  dsimp only [cxOf, Cx.nox, Cx.wish, L2.start]
  kct_strs
  refine ⟨le_one, fun p hp => ?_⟩
  kct_strs
  have hmod := Int.emod_nonneg (cellAt ns first) (show most ≠ 0 by omega)
  have hmod2 := Int.emod_lt_of_pos (cellAt ns first) (show 0 < most by omega)
  have hS1 : SqL K (upd H p (.lst [.int 1])) a (ns.map V.int) := (same_new hp).seq hS0
  refine s_for1 (x := cellAt ns first % most) (fun i σ' H' => ∃ (cs : List Int) (y1 y2 y3 y4 y5 : Option V), σ' = [some (.ref a), some (.int first), some (.int most), some (.ref p), y1, y2, y3, y4, y5] ∧ Same H H' ∧ H' p = some (.lst (cs.map V.int)) ∧ IsAdd cs ∧ cs.length ≤ i + 1 ∧ ∀ i, i < cs.length → cs.getD i 0 < 1000000000000)
    rfl (by omega) (fun Qt qt => by kct_strs; exact qt) (by omega) ⟨[1], _, _, _, _, _, rfl, same_new hp, upd_same, IsAdd.single, Nat.le_refl _, fun i hi => by
      have : i = 0 := by
        have : i < 1 := hi
        omega
      subst this
      decide⟩ ?_ ?_
  · rintro i σ' H' hi ⟨cs, y1, y2, y3, y4, y5, rfl, hS, hcs, hA, hl, hlt⟩
    have hlo := hA.lo
    have hS' : SqL K H' a (ns.map V.int) := hS.seq hS0
    kct_strs
    refine c_draw ⟨by omega, by omega⟩ ⟨by omega, by omega⟩ fun r hr0 hr1 => ?_
    kct_strs
    refine s_cut (fun σ2 H2 => ∃ (far : Nat), far < cs.length ∧ σ2 = [some (.ref a), some (.int first), some (.int most), some (.ref p), some (.int (i : Int)), some (.int r), some (.int (far : Int)), y4, y5] ∧ H' = H2) ?_ ?_
    · kpt_turns <;> intro hb
      · kct_strs
        have h1 := Int.emod_nonneg (r / 7) (show (cs.length : Int) ≠ 0 by omega)
        have h2 := Int.emod_lt_of_pos (r / 7) (show 0 < (cs.length : Int) by omega)
        refine ⟨(r / 7 % (cs.length : Int)).toNat, by omega, ?_, rfl⟩
        rw [Int.toNat_of_nonneg h1]
        rfl
      · kct_strs
        refine ⟨cs.length - 1, by omega, ?_, rfl⟩
        rw [show ((cs.length - 1 : Nat) : Int) = (cs.length : Int) - 1 by omega]
        rfl
    rintro σ2 H2 ⟨far, hfar, rfl, rfl⟩
    have h1 := Int.emod_nonneg r (show (cs.length : Int) ≠ 0 by omega)
    have h2 := Int.emod_lt_of_pos r (show 0 < (cs.length : Int) by omega)
    obtain ⟨one, hone⟩ : ∃ one : Nat, r % (cs.length : Int) = (one : Int) := ⟨(r % (cs.length : Int)).toNat, by omega⟩
    have hone2 : one < cs.length := by omega
    kct_strs
    rw [hone]
    have g1 : gi cs (far : Int) = cs.getD far 0 := gi_nat cs far
    have g2 : gi cs (one : Int) = cs.getD one 0 := gi_nat cs one
    have g3 : gi cs (-1) = cs.getD (cs.length - 1) 0 := gi_last cs (by
      intro z
      rw [z] at hlo
      exact absurd hlo (by decide))
    kct_strs
    rw [g1, g2]
    refine s_cut (fun σ2 H2 => ∃ (total : Int) (x y : Nat), x < cs.length ∧ y < cs.length ∧ total = cs.getD x 0 + cs.getD y 0 ∧ cs.getD (cs.length - 1) 0 < total ∧ σ2 = [some (.ref a), some (.int first), some (.int most), some (.ref p), some (.int (i : Int)), some (.int r), some (.int (far : Int)), some (.int (one : Int)), some (.int total)] ∧ H' = H2) ?_ ?_
    · kpt_turns <;> intro hb
      · kct_strs
        rw [g2, g3]
        have := hA.pos (show one < cs.length by omega)
        exact ⟨_, cs.length - 1, one, by omega, by omega, rfl, by omega, rfl, rfl⟩
      · have hb' := of_decide_eq_false hb
        rw [g3] at hb'
        kct_strs
        exact ⟨_, far, one, hfar, by omega, rfl, by omega, rfl, rfl⟩
    rintro σ3 H3 ⟨total, x, y, hx, hy, ht, htl, rfl, rfl⟩
    kpt_turns <;> intro hb
    · have hb' := of_decide_eq_true hb
      kct_strs
      refine ⟨cs ++ [total], _, _, _, _, _, rfl, same_mut hS hp, upd_same, hA.snoc hx hy ht htl, ?_, fun j hj => ?_⟩
      · rw [List.length_append, List.length_singleton]
        omega
      rw [List.length_append, List.length_singleton] at hj
      by_cases e : j < cs.length
      · rw [getD_snoc_lt e]
        exact hlt j e
      · obtain rfl : j = cs.length := by omega
        rw [getD_snoc_eq]
        exact hb'
    · kct_strs
      exact ⟨cs, _, _, _, _, _, rfl, hS, hcs, hA, by omega, hlt⟩
  · rintro σ' H' ⟨cs, y1, y2, y3, y4, y5, rfl, hS, hcs, hA, hl, hlt⟩
    kct_strs
    exact q cs p H' hA (by omega) hlt hS hp hcs
end

/-! ## link_of, is_chain -/
abbrev sLinkOf : Stmt := topS 9
theorem scLinkOf : FnScope ["chain", "place", "spots", "k", "rest"] ["chain", "place"] (defScope sLinkOf) := ⟨rfl, rfl, rfl, by decide +kernel, rfl, by decide +kernel, by decide +kernel⟩
abbrev sIsChain : Stmt := topS 10
theorem scIsChain : FnScope ["chain", "place"] ["chain"] (defScope sIsChain) := ⟨rfl, rfl, rfl, by decide +kernel, rfl, by decide +kernel, by decide +kernel⟩
section
variable {P : Program} {w : World} {K : PySem.W.Frag} {mg : Str → Option Value} {base : Heap}
theorem ok_link_of (F : Own K mg "link_of" sLinkOf ["chain", "place"]) (B : Nb mg) : Cal P w K mg base CX0 1 "link_of" ["chain", "place"] spLinkOf := by
  refine F.ok scLinkOf (fun vs H Q E h => ?_) (fun f cdv A outer s H vs Q E hr h => ?_)
  · obtain ⟨a, ns, p, rfl, _⟩ := h
    rfl
  obtain ⟨a, ns, p, rfl, ha, ⟨hp, hl⟩, q⟩ := h
  refine ⟨_, (pss_cons (ps_set (i := 2) scLinkOf.nd rfl (.inl rfl) pe_dnewK)
      (pss_cons (ps_for PassesOwn.never rfl (pi_range1 (by rfl) B.b_range (pa_cons (pv 1) pa_nil)) (pg_name (i := 3) scLinkOf.nd rfl (.inl rfl))
      (pss_one (ps_dput (hu_of hr) (pv 2) (pe_ix ix_list (pv 0) (pv 3) (fun _ _ => rfl)) (pv 3) rfl)))
      (pss_cons (ps_for PassesOwn.never rfl (pi_revR (by rfl) B.b_reversed (prg_1 (by rfl) B.b_range (pv 1))) (pg_name (i := 3) scLinkOf.nd rfl (.inl rfl))
      (pss_cons (ps_set (i := 4) scLinkOf.nd rfl (.inl rfl) (pe_op op_sub (pe_ix ix_list (pv 0) (pv 1) (fun _ _ => rfl)) (pe_ix ix_list (pv 0) (pv 3) (fun _ _ => rfl))))
      (pss_one (ps_if (PW.pt (pw_and (pt_cmp (pc_din (hu_of hr) (pv 4) (pv 2))) (pw_and1 (pt_cmpR op_le (pe_dget (hu_of hr) (pv 2) (pv 4) (fun _ _ => rfl)) (pv 3) (nomark _))))) (pss_one (ps_ret (pe_tup (pa_cons (pe_dget (hu_of hr) (pv 2) (pv 4) (fun _ _ => rfl)) (pa_cons (pv 3) pa_nil))))) pss_nil))))
      (pss_one (ps_ret pe_non))))), ?_⟩
  dsimp only [cxOf, Cx.nox, Cx.wish, L2.start]
  kct_strs
  refine d_new fun d hd => ?_
  kct_strs
  refine s_for1 (x := (p : Int)) (k := p) (fun i σ' H' => ∃ (y : Option V) (kvs : List (Key × V)), σ' = [some (.ref a), some (.int (p : Int)), some (.ref d), y, none] ∧ Same H H' ∧ H' d = some (.dK kvs) ∧ kvs.length ≤ i ∧ ∀ x : Int, valV kvs (Sum.inl x) = (lastIx ns i x).map fun j : Nat => V.int (j : Int))
    (by omega) (by omega) (fun Qt qt => by kct_strs; exact qt) (by omega) ⟨none, [], rfl, same_new hd, upd_same, Nat.le_refl _, fun x => rfl⟩ ?_ ?_
  · rintro i σ' H' hi ⟨y, kvs, rfl, hS, hkd, hkl, hkv⟩
    kct_strs
    refine ⟨_, _, rfl, same_mut hS hd, upd_same, Nat.le_trans (length_putK _ _ _) (by omega), fun x => ?_⟩
    rw [valV_put, gi_nat]
    unfold lastIx
    by_cases e : ns.getD i 0 = x
    · rw [if_pos e, if_pos (by rw [e])]
      rfl
    · rw [if_neg e, if_neg (fun z => e (Sum.inl.inj z).symm)]
      exact hkv x
  · rintro σ' H' ⟨y, kvs, rfl, hS, hkd, hkl, hkv⟩
    kct_strs
    refine s_forRR (a := 0) (b := (p : Int)) (k := p) (fun i σ2 H2 => ∃ (y z : Option V), σ2 = [some (.ref a), some (.int (p : Int)), some (.ref d), y, z] ∧ Same H' H2 ∧ linkOf ns p = linkGo ns p (p - i)) (by omega) (fun Qt qt => by refine prg1_of (x := 0) ?_; kct_strs; exact qt) (by omega) ⟨_, _, rfl, Same.refl _, rfl⟩ ?_ ?_
    · rintro i σ2 H2 hi ⟨y2, z2, rfl, hS2, hlk⟩
      have hk : ((0 : Int) + ((p - 1 - i : Nat) : Int)) = ((p - 1 - i : Nat) : Int) := by omega
      rw [hk]
      have hpi : p - i = (p - 1 - i) + 1 := by omega
      have hpi2 : p - (i + 1) = p - 1 - i := by omega
      rw [hpi] at hlk
      rw [hpi2]
      have hkp : p - 1 - i < p := by omega
      generalize p - 1 - i = k at *
      unfold linkGo at hlk
      kct_strs
      refine s_ifs ?_
      kct_strs
      refine d_in (by kd_adr) (hkv _) ?_
      kct_strs
      rw [gi_nat, gi_nat]
      cases hx : lastIx ns p (ns.getD p 0 - ns.getD k 0) with
      | none =>
        rw [hx] at hlk
        refine iteF (iteF ?_)
        kct_strs
        exact ⟨_, _, rfl, hS2, hlk⟩
      | some j =>
        rw [hx] at hlk
        replace hlk : linkOf ns p = if j ≤ k then some (j, k) else linkGo ns p k := hlk
        refine iteT ?_
        kct_strs
        refine d_get (by kd_adr) ((hkv _).trans (by rw [hx]; rfl)) ?_
        kct_strs
        refine ite2 (fun hc => ?_) (fun hc => ?_)
        · have hc' : j ≤ k := by
            have := of_decide_eq_true hc
            omega
          rw [if_pos hc'] at hlk
          kct_strs
          refine d_get (by kd_adr) ((hkv _).trans (by rw [hx]; rfl)) ?_
          kct_strs
          refine ⟨le_two, fun t ht => ?_⟩
          kct_strs
          refine q (.ref t) _ ((hS.trans hS2).trans (same_new ht)) ?_ (fun t' e => ?_)
          · rw [hlk]
            exact ⟨t, rfl, upd_same⟩
          · cases e
            exact (hS.trans hS2).free ht
        · have hc' : ¬ j ≤ k := fun z => hc (decide_eq_true (by omega))
          rw [if_neg hc'] at hlk
          kct_strs
          exact ⟨_, _, rfl, hS2, hlk⟩
    · rintro σ2 H2 ⟨y2, z2, rfl, hS2, hlk⟩
      rw [Nat.sub_self] at hlk
      kct_strs
      refine q .non H2 (hS.trans hS2) ?_ (fun t e => by cases e)
      rw [hlk]
      rfl
theorem ok_is_chain (F : Own K mg "is_chain" sIsChain ["chain"]) (B : Nb mg) (GLinkOf : Cal P w K mg base CX0 1 "link_of" ["chain", "place"] spLinkOf) : Cal P w K mg base CX0 2 "is_chain" ["chain"] spIsChain := by
  refine F.ok scIsChain (fun vs H Q E h => ?_) (fun f cdv A outer s H vs Q E hr h => ?_)
  · obtain ⟨a, ns, rfl, _⟩ := h
    rfl
  obtain ⟨a, ns, rfl, ha, hl, q⟩ := h
  refine ⟨_, (pss_cons (ps_if (PW.pt (pw_or (pt_cmpR op_lt (pe_callB f_len (by rfl) B.b_len PySem.boot_len (pa_cons (pv 0) pa_nil)) pe_int (nomark _)) (pw_or (pt_cmpR op_gt (pe_callB f_len (by rfl) B.b_len PySem.boot_len (pa_cons (pv 0) pa_nil)) (pe_const B.c_MOST rfl) (nomark _)) (pw_or1 (pt_cmpR op_ne (pe_ix ix_list (pv 0) pe_int (fun _ _ => rfl)) pe_int (nomark _)))))) (pss_one (ps_ret pe_bl)) pss_nil)
      (pss_cons (ps_for PassesOwn.never rfl (pi_range2 (by rfl) B.b_range (pa_cons pe_int (pa_cons (pe_callB f_len (by rfl) B.b_len PySem.boot_len (pa_cons (pv 0) pa_nil)) pa_nil))) (pg_name (i := 1) scIsChain.nd rfl (.inl rfl))
      (pss_one (ps_if (PW.pt (pw_or (pt_cmpR op_le (pe_ix ix_list (pv 0) (pv 1) (fun _ _ => rfl)) (pe_ix ix_list (pv 0) (pe_op op_sub (pv 1) pe_int) (fun _ _ => rfl)) (nomark _)) (pw_or1 (pt_cmpR op_isN1 (pe_cal GLinkOf (hr.mono (by decide)) pass0 rfl (pa_cons (pv 0) (pa_cons (pv 1) pa_nil))) pe_non (nomark _))))) (pss_one (ps_ret pe_bl)) pss_nil)))
      (pss_one (ps_ret pe_bl)))), ?_⟩
  dsimp only [cxOf, Cx.nox, Cx.wish, L2.start]
  kct_strs
  kpt_turns <;> intro hb
  · kct_strs
    refine q false H (Same.refl _) ⟨(fun z => nomatch z), fun h => ?_⟩
    have h1 := h.lo
    have h2 := h.hi
    have h3 := h.one
    simp only [Bool.or_eq_true, decide_eq_true_eq, Bool.not_eq_true', decide_eq_false_iff_not] at hb
    rcases hb with hb | hb | hb
    · omega
    · omega
    · exact absurd h3 hb
  simp only [Bool.or_eq_false_iff, decide_eq_false_iff_not, Bool.not_eq_false', decide_eq_true_eq] at hb
  obtain ⟨hb1, hb2, hb3⟩ := hb
  have hb3' : ns.getD 0 0 = 1 := hb3
  kct_strs
  refine s_for2 (a := 1) (b := (ns.length : Int)) (k := ns.length - 1) (fun i σ' H' => ∃ y : Option V, σ' = [some (.ref a), y] ∧ Same H H' ∧ ∀ p, 1 ≤ p → p < 1 + i → stepOk ns p = true) (by omega) (fun Qt qt => by kct_strs; exact qt) (by omega) ⟨_, rfl, Same.refl _, fun p h1 h2 => by omega⟩ ?_ ?_
  · rintro i σ' H' hi ⟨y, rfl, hS, hst⟩
    have hk : (1 : Int) + (i : Int) = ((1 + i : Nat) : Int) := by omega
    rw [hk]
    have hne : ∀ (b : Bool), stepOk ns (1 + i) = false → (b = true ↔ IsCh ns) → b = false := fun b h1 h2 => by
      cases b with
      | false => rfl
      | true =>
        have := (h2.mp rfl).step (1 + i) (by omega) (by omega)
        rw [h1] at this
        cases this
    have hfalse : stepOk ns (1 + i) = false → (false = true ↔ IsCh ns) := fun h1 => ⟨(fun z => nomatch z), fun h2 => by
      have := h2.step (1 + i) (by omega) (by omega)
      rw [h1] at this
      cases this⟩
    kct_strs
    refine s_ifs ?_
    kct_strs
    have e1 : gi ns ((1 + i : Nat) : Int) = ns.getD (1 + i) 0 := gi_nat ns (1 + i)
    have e2 : gi ns (((1 + i : Nat) : Int) - 1) = ns.getD (1 + i - 1) 0 := by
      rw [gi_nn (by omega)]
      congr 1
      omega
    rw [e1, e2]
    refine ite2 (fun hc => ?_) (fun hc => ?_)
    · have hc' := of_decide_eq_true hc
      refine iteT ?_
      kct_strs
      refine q false H' hS (hfalse ?_)
      unfold stepOk
      rw [decide_eq_false (by omega)]
      rfl
    · have hc' : ¬ ns.getD (1 + i) 0 ≤ ns.getD (1 + i - 1) 0 := fun z => hc (decide_eq_true z)
      kct_strs
      refine c_link_of (p := 1 + i) rfl (by kd_adr) ⟨by omega, hl⟩ fun v H2 e hv hf => ?_
      kct_strs
      cases hlk : linkOf ns (1 + i) with
      | none =>
        rw [hlk] at hv
        subst hv
        refine i_yes (decide_eq_true rfl) ?_
        kct_strs
        refine q false H2 (hS.trans e) (hfalse ?_)
        unfold stepOk
        rw [hlk, Bool.and_comm]
        rfl
      | some jk =>
        rw [hlk] at hv
        obtain ⟨t, rfl, ht⟩ := hv
        refine i_no (decide_eq_false (by intro z; cases z)) ?_
        kct_strs
        refine ⟨_, rfl, hS.trans e, fun p h1 h2 => ?_⟩
        by_cases hp : p < 1 + i
        · exact hst p h1 hp
        · obtain rfl : p = 1 + i := by omega
          unfold stepOk
          rw [hlk, decide_eq_true (by omega)]
          rfl
  · rintro σ' H' ⟨y, rfl, hS, hst⟩
    kct_strs
    exact q true H' hS ⟨fun _ => ⟨by omega, by omega, hb3', fun p h1 h2 => hst p h1 (by omega)⟩, fun _ => rfl⟩
end

/-! ## _law_is_chain -/
abbrev sLawIsChain : Stmt := topS 19
theorem scLawIsChain : FnScope ["chain", "known", "place", "one"] ["chain"] (defScope sLawIsChain) := ⟨rfl, rfl, rfl, by decide +kernel, rfl, by decide +kernel, by decide +kernel⟩
section
variable {P : Program} {w : World} {K : PySem.W.Frag} {mg : Str → Option Value} {base : Heap}
theorem ok_law_is_chain (F : Own K mg "_law_is_chain" sLawIsChain ["chain"]) (B : Nb mg) : Cal P w K mg base CX0 1 "_law_is_chain" ["chain"] spLawIsChain := by
  refine F.ok scLawIsChain (fun vs H Q E h => ?_) (fun f cdv A outer s H vs Q E hr h => ?_)
  · obtain ⟨a, ns, rfl, _⟩ := h
    rfl
  obtain ⟨a, ns, rfl, ha, hl, q⟩ := h
  refine ⟨_, (pss_cons (ps_if (PW.pt (pw_or (pt_not (pt_chain op_le op_le pe_int (pe_callB f_len (by rfl) B.b_len PySem.boot_len (pa_cons (pv 0) pa_nil)) pe_int)) (pw_or1 (pt_cmpR op_ne (pe_ix ix_list (pv 0) pe_int (fun _ _ => rfl)) pe_int (nomark _))))) (pss_one (ps_ret pe_bl)) pss_nil)
      (pss_cons (ps_set (i := 1) scLawIsChain.nd rfl (.inr rfl) (pe_disp (pps_cons pe_int pe_bl pps_nil) (by rfl) (by rfl) (fun z => by cases z) (by decide)))
      (pss_cons (ps_for PassesOwn.never rfl (pi_range2 (by rfl) B.b_range (pa_cons pe_int (pa_cons (pe_callB f_len (by rfl) B.b_len PySem.boot_len (pa_cons (pv 0) pa_nil)) pa_nil))) (pg_name (i := 2) scLawIsChain.nd rfl (.inr rfl))
      (pss_cons (ps_if (pt_cmpR op_le (pe_ix ix_list (pv 0) (pv 2) (fun _ _ => rfl)) (pe_ix ix_list (pv 0) (pe_op op_sub (pv 2) pe_int) (fun _ _ => rfl)) (nomark _)) (pss_one (ps_ret pe_bl)) pss_nil)
      (pss_cons (ps_if (pt_cmpR op_eq (pe_callB f_len (by rfl) B.b_len PySem.boot_len (pa_cons (pe_lc (own := [("one", 3)]) (g := gName 3) rfl scLawIsChain.nd (pi_list (pe_slice sl_list (pv 0) po_none (po_some (pv 2)))) (blkOk_by (N := ["chain", "known", "place", "one"]) (sc := defScope sLawIsChain) (by decide +kernel)) (fun _ _ _ _ _ => pg_name (i := 3) scLawIsChain.nd rfl (Or.inl rfl)) (fun _ _ _ _ _ => (pts_one (pt_cmp (pc_din (hu_of hr) (pe_op op_sub (pe_ix (ix_at (K := K)) (pv 0) (pv 2) (fun _ _ => rfl)) (pv 3)) (pv 1))))) (fun _ _ _ _ _ => (pv 3))) pa_nil)) pe_int (nomark _)) (pss_one (ps_ret pe_bl)) pss_nil)
      (pss_one (ps_dput (hu_of hr) (pv 1) (pe_ix ix_list (pv 0) (pv 2) (fun _ _ => rfl)) pe_bl rfl)))))
      (pss_one (ps_ret pe_bl))))), ?_⟩
  dsimp only [cxOf, Cx.nox, Cx.wish, L2.start]
  kct_strs
  kpt_turns <;> intro hb
  · kct_strs
    refine q false H (Same.refl _) ⟨(fun z => nomatch z), fun h => ?_⟩
    have h1 := h.lo
    have h2 := h.hi
    have h3 := h.one
    simp only [Bool.or_eq_true, Bool.and_eq_false_iff, decide_eq_true_eq, Bool.not_eq_true', decide_eq_false_iff_not] at hb
    rcases hb with hb | hb
    · omega
    · exact absurd h3 hb
  simp only [Bool.or_eq_false_iff, decide_eq_false_iff_not, Bool.not_eq_false', decide_eq_true_eq, Bool.and_eq_true] at hb
  obtain ⟨⟨hb1, hb2⟩, hb3⟩ := hb
  have hb3' : ns.getD 0 0 = 1 := hb3
  kct_strs
  refine d_disp1 fun d hd => ?_
  kct_strs
  refine s_for2 (a := 1) (b := (ns.length : Int)) (k := ns.length - 1) (fun i σ' H' => ∃ (y z : Option V) (kvs : List (Key × V)), σ' = [some (.ref a), some (.ref d), y, z] ∧ Same H H' ∧ H' d = some (.dK kvs) ∧ kvs.length ≤ 1 + i ∧ (∀ x : Int, (valV kvs (Sum.inl x)).isSome = true ↔ ∃ j, j < 1 + i ∧ ns.getD j 0 = x) ∧
      ∀ p, 1 ≤ p → p < 1 + i → ns.getD (p - 1) 0 < ns.getD p 0 ∧ ∃ i j, i < p ∧ j < p ∧ ns.getD p 0 = ns.getD i 0 + ns.getD j 0) (by omega) (fun Qt qt => by kct_strs; exact qt) (by omega) ⟨_, _, _, rfl, same_new hd, upd_same, Nat.le_refl _, fun x => ?_, fun p h1 h2 => by omega⟩ ?_ ?_
  · constructor
    · intro h
      refine ⟨0, by omega, ?_⟩
      rw [hb3']
      by_cases e : (Sum.inl 1 : Key) = Sum.inl x
      · exact Sum.inl.inj e
      · rw [valV_neg e] at h
        cases h
    · rintro ⟨j, hj, e⟩
      obtain rfl : j = 0 := by omega
      rw [valV_pos (by rw [← e, hb3'])]
      rfl
  · rintro i σ' H' hi ⟨y, z, kvs, rfl, hS, hkd, hkl, hkv, hst⟩
    have hk : (1 : Int) + (i : Int) = ((1 + i : Nat) : Int) := by omega
    rw [hk]
    have e1 : gi ns ((1 + i : Nat) : Int) = ns.getD (1 + i) 0 := gi_nat ns (1 + i)
    have e2 : gi ns (((1 + i : Nat) : Int) - 1) = ns.getD (1 + i - 1) 0 := by
      rw [gi_nn (by omega)]
      congr 1
      omega
    have hfalse : ¬ (ns.getD (1 + i - 1) 0 < ns.getD (1 + i) 0 ∧ ∃ m j, m < 1 + i ∧ j < 1 + i ∧ ns.getD (1 + i) 0 = ns.getD m 0 + ns.getD j 0) → (false = true ↔ IsCh ns) := fun h1 => ⟨(fun z => nomatch z), fun h2 => absurd (((ch_iff ns).mp h2).1.step (1 + i) (by omega) (by omega)) h1⟩
    kct_strs
    kpt_turns <;> intro hc
    · have hc' := of_decide_eq_true hc
      rw [e1, e2] at hc'
      kct_strs
      exact q false H' hS (hfalse fun h => by omega)
    have hc' := of_decide_eq_false hc
    rw [e1, e2] at hc'
    kct_strs
    refine s_ifs ?_
    kct_strs
    refine r_take (by kd_adr) (by omega) fun p hp => ?_
    kct_strs
    refine e_lcL (xs := (ns.take ((1 + i : Nat) : Int).toNat).map V.int) (fun D m acc H2 => ∃ os : List Int, acc = os.map V.int ∧ Hid (os ≠ [] ↔ ∃ j, j < m ∧ ∃ l, l < 1 + i ∧ ns.getD l 0 = ns.getD (1 + i) 0 - ns.getD j 0)) (by kd_adr) ?_ (fun D _ => ⟨[], rfl, ⟨⟨fun h => absurd rfl h, fun ⟨j, hj, _⟩ => absurd hj (Nat.not_lt_zero _)⟩⟩⟩) (fun _ _ _ _ _ _ _ h => h) (fun _ => rfl) (fun m x hx => ?_) (fun D acc H2 hD hS2 hacc hR => ?_)
    · rw [List.length_map, List.length_take]
      omega
    · intro D acc H2 K1 K0 hD hS2 hacc hR k1 k0
      obtain ⟨os, rfl, hos⟩ := hR
      have hm : m < 1 + i := by
        have := (List.getElem?_eq_some_iff.mp hx).1
        rw [List.length_map, List.length_take] at this
        omega
      have hxv : x = V.int (ns.getD m 0) := by
        rw [List.getElem?_map, List.getElem?_take_of_lt (by omega), getD_get 0 (by omega)] at hx
        exact (Option.some.inj hx).symm
      subst hxv
      have hkd2 : H2 d = some (.dK kvs) := hS2 _ _ (get_new hkd hp)
      have ha2 : H2 a = some (.lst (ns.map V.int)) := hS2 _ _ (get_new (hS _ _ ha) hp)
      kct_strs
      refine d_in hkd2 rfl ?_
      rw [e1]
      kct_strs
      refine ite2 (fun h => ?_) (fun h => ?_)
      · obtain ⟨l, hl1, hl2⟩ := (hkv _).mp h
        kct_strs
        exact k1 _ H2 (Same.refl _) ⟨os ++ [ns.getD m 0], by rw [List.map_append]; rfl, ⟨⟨fun _ => ⟨m, Nat.lt_succ_self _, l, hl1, hl2⟩, fun _ => by simp⟩⟩⟩
      · refine k0 H2 (Same.refl _) ⟨os, rfl, ⟨hos.out.trans ⟨?_, ?_⟩⟩⟩
        · rintro ⟨j, hj, hx⟩
          exact ⟨j, by omega, hx⟩
        · rintro ⟨j, hj, l, hl1, hl2⟩
          by_cases e : j = m
          · subst e
            exact absurd ((hkv _).mpr ⟨l, hl1, hl2⟩) h
          · exact ⟨j, by omega, l, hl1, hl2⟩
    · obtain ⟨os, rfl, hos⟩ := hR
      rw [List.length_map, List.length_take, show min ((1 + i : Nat) : Int).toNat ns.length = 1 + i by omega] at hos
      kct_strs
      have hSS : Same H H2 := hS.trans ((same_new hp).trans hS2)
      have hkd2 : H2 d = some (.dK kvs) := hS2 _ _ (get_new hkd hp)
      have ha2 : H2 a = some (.lst (ns.map V.int)) := hS2 _ _ (get_new (hS _ _ ha) hp)
      refine ite2 (fun h => ?_) (fun h => ?_)
      · have h0 : os = [] := List.length_eq_zero_iff.mp (by have := of_decide_eq_true h; omega)
        kct_strs
        refine q false H2 hSS (hfalse fun h2 => ?_)
        obtain ⟨_, m, j, hm, hj, e⟩ := h2
        exact (hos.out.mpr ⟨j, hj, m, hm, by omega⟩) h0
      · have h0 : os ≠ [] := fun e => h (decide_eq_true (by rw [e]; rfl))
        obtain ⟨j, hj, l, hl1, hl2⟩ := hos.out.mp h0
        kct_strs
        rw [e1]
        refine ⟨_, _, _, rfl, same_mut hSS hd, upd_same, Nat.le_trans (length_putK _ _ _) (by omega), fun x => ?_, fun p h1 h2 => ?_⟩
        · rw [valV_put]
          by_cases e : x = ns.getD (1 + i) 0
          · rw [if_pos (by rw [e])]
            exact ⟨fun _ => ⟨1 + i, by omega, e.symm⟩, fun _ => rfl⟩
          · rw [if_neg (fun z => e (Sum.inl.inj z))]
            refine (hkv x).trans ⟨?_, ?_⟩
            · rintro ⟨j, hj, hx⟩
              exact ⟨j, by omega, hx⟩
            · rintro ⟨j, hj, hx⟩
              by_cases e2 : j = 1 + i
              · subst e2
                exact absurd hx.symm e
              · exact ⟨j, by omega, hx⟩
        · by_cases hp : p < 1 + i
          · exact hst p h1 hp
          · obtain rfl : p = 1 + i := by omega
            exact ⟨by omega, l, j, hl1, hj, by omega⟩
  · rintro σ' H' ⟨y, z, kvs, rfl, hS, hkd, hkl, hkv, hst⟩
    kct_strs
    exact q true H' hS ⟨fun _ => (ch_iff ns).mpr ⟨⟨by omega, hb3', fun p h1 h2 => hst p h1 (by omega)⟩, by omega⟩, fun _ => rfl⟩
end

/-! ## _law_word_of: a caught error's word -/
abbrev sLawWordOf : Stmt := topS 20
theorem scLawWordOf : FnScope ["e", "kinds"] ["e"] (defScope sLawWordOf) := ⟨rfl, rfl, rfl, by decide +kernel, rfl, by decide +kernel, by decide +kernel⟩
section
variable {P : Program} {w : World} {K : PySem.W.Frag} {mg : Str → Option Value} {base : Heap}
theorem three_le {x y z : V} : [x, y, z].length ≤ 100000 := (by decide : 3 ≤ 100000)
theorem five_le {x y z u v : V} : [x, y, z].length + [u, v].length ≤ 100000 := (by decide : 5 ≤ 100000)
theorem five_get : ∀ i : Nat, i < 5 → ([decide (i = 0), decide (i = 1), decide (i = 2)] ++ [decide (i = 3), decide (i = 4)])[i]? = some true := by decide
theorem five_no : ∀ i : Nat, i < 5 → ∀ m, m < i → ([decide (i = 0), decide (i = 1), decide (i = 2)] ++ [decide (i = 3), decide (i = 4)])[m]? ≠ some true := by decide
theorem five_word : ∀ i : Nat, i < 5 → atI [V.str (Str.ofString "chain"), V.str (Str.ofString "modulus"), V.str (Str.ofString "number"), V.str (Str.ofString "long"), V.str (Str.ofString "note")] (i : Int) = some (.str (wordAt i))
  | 0, _ => rfl
  | 1, _ => rfl
  | 2, _ => rfl
  | 3, _ => rfl
  | 4, _ => rfl
theorem five_count : ∀ i : Nat, i < 5 → ([decide (i = 0), decide (i = 1), decide (i = 2)] ++ [decide (i = 3), decide (i = 4)]).count true = 1 := by decide
theorem ok_word_of {D : Nat → Addr} {S : Addr} {L : List Nat} (F : Own K mg "_law_word_of" sLawWordOf ["e"]) (B : Nb mg) (Kd : Kinds K mg D S L) : CalE P w K mg base 1 "_law_word_of" ["e"] (spWordOf D L) := by
  refine F.okE scLawWordOf (fun a cls d vs H Q E h => ?_) (fun f cdv A outer s H vs Q E p cls d hz hf hr h => ?_)
  · obtain ⟨i, _, _, _, rfl, _⟩ := h
    rfl
  obtain ⟨i, hi, rfl, rfl, rfl, q⟩ := h
  have hk := Kd.kit i hi
  have hX := (Kd.x i hi).2
  have h5 := (Kd.x i hi).1
  refine ⟨_, (pss_cons (ps_set (i := 1) scLawWordOf.nd rfl (.inl rfl) (pe_lst (pa_cons (pe_callB (call_isX (q := p) hX.c List.mem_cons_self hz hf) (by rfl) B.b_isinstance (by decide +kernel) (pa_cons (pv 0) (pa_cons (pe_cls Kd.n0 rfl) pa_nil))) (pa_cons (pe_callB (call_isX (q := p) hX.c List.mem_cons_self hz hf) (by rfl) B.b_isinstance (by decide +kernel) (pa_cons (pv 0) (pa_cons (pe_cls Kd.n1 rfl) pa_nil))) (pa_cons (pe_callB (call_isX (q := p) hX.c List.mem_cons_self hz hf) (by rfl) B.b_isinstance (by decide +kernel) (pa_cons (pv 0) (pa_cons (pe_cls Kd.n2 rfl) pa_nil))) pa_nil)))))
      (pss_cons (ps_set (i := 1) scLawWordOf.nd rfl (.inl rfl) (pe_op op_cat (pv 1) (pe_lst (pa_cons (pe_callB (call_isX (q := p) hX.c List.mem_cons_self hz hf) (by rfl) B.b_isinstance (by decide +kernel) (pa_cons (pv 0) (pa_cons (pe_cls Kd.n3 rfl) pa_nil))) (pa_cons (pe_callB (call_isX (q := p) hX.c List.mem_cons_self hz hf) (by rfl) B.b_isinstance (by decide +kernel) (pa_cons (pv 0) (pa_cons (pe_cls Kd.n4 rfl) pa_nil))) pa_nil)))))
      (pss_cons (ps_if (PW.pt (pw_or (pt_cmpR op_ne (pe_bm PySem.F.plainAttrs_list PySem.F.slot_list_count PySem.F.type_list_count mt_lcountB (pv 1) (pa_cons pe_bl pa_nil)) pe_int (nomark _)) (pw_or1 (pt_not (pt_val (pe_callB (call_isX (q := p) hX.c List.mem_cons_self hz hf) (by rfl) B.b_isinstance (by decide +kernel) (pa_cons (pv 0) (pa_cons (pe_bltn (v := .ty "ValueError") rfl B.b_ValueError (by decide +kernel) rfl) pa_nil)))))))) (pss_one (ps_ret pe_str)) pss_nil)
      (pss_one (ps_ret (pe_ix ix_list (pe_lst (pa_cons pe_str (pa_cons pe_str (pa_cons pe_str (pa_cons pe_str (pa_cons pe_str pa_nil)))))) (pe_bm PySem.F.plainAttrs_list PySem.F.slot_list_index PySem.F.type_list_index mt_index (pv 1) (pa_cons pe_bl pa_nil)) (fun _ _ => rfl))))))), ?_⟩
  dsimp only [L2H.cxH, cxOf, Cx.nox, Cx.wish, L2.start]
  kct_strs
  refine r_isE (hk 0 (by decide)) ?_
  kct_strs
  refine r_isE (hk 1 (by decide)) ?_
  kct_strs
  refine r_isE (hk 2 (by decide)) ?_
  kct_strs
  refine n_lst three_le fun p1 H1 hp1 e1 h1 => ?_
  kct_strs
  refine r_isE (hk 3 (by decide)) ?_
  kct_strs
  refine r_isE (hk 4 (by decide)) ?_
  kct_strs
  refine n_lst le_2 fun p2 H2 hp2 e2 h2 => ?_
  kct_strs
  refine r_cat (e2 _ _ h1) h2 (le_line five_le) fun p3 hp3 => ?_
  have h3 : upd H2 p3 (.lst ([V.bl (decide (i = 0)), .bl (decide (i = 1)), .bl (decide (i = 2))] ++ [.bl (decide (i = 3)), .bl (decide (i = 4))])) p3 = _ := upd_same
  have e3 := e1.trans (e2.trans (same_new (o := .lst ([V.bl (decide (i = 0)), .bl (decide (i = 1)), .bl (decide (i = 2))] ++ [.bl (decide (i = 3)), .bl (decide (i = 4))])) hp3))
  generalize upd H2 p3 (.lst ([V.bl (decide (i = 0)), .bl (decide (i = 1)), .bl (decide (i = 2))] ++ [.bl (decide (i = 3)), .bl (decide (i = 4))])) = H3 at *
  kct_strs
  refine s_ifs ?_
  kct_strs
  refine m_countB (bs := [decide (i = 0), decide (i = 1), decide (i = 2)] ++ [decide (i = 3), decide (i = 4)]) (SqL.of h3) ?_
  rw [five_count i h5]
  kct_strs
  refine r_isEv hX.v ?_
  kct_strs
  refine n_lst (by decide) fun p4 H4 hp4 e4 h4 => ?_
  have h34 := e4 _ _ h3
  kct_strs
  refine r_indexB (bs := [decide (i = 0), decide (i = 1), decide (i = 2)] ++ [decide (i = 3), decide (i = 4)]) (j := i) (SqL.of h34) (five_get i h5) (five_no i h5) ?_
  exact e_ixV (SqL.of h4) (five_word i h5) (q H4 (e3.trans e4))
end

/-! ## number_of, read: of any text; _law_due; _law_told; _law_spoilt -/
abbrev sNumberOf : Stmt := topS 13
theorem scNumberOf : FnScope ["word", "sign"] ["word"] (defScope sNumberOf) := ⟨rfl, rfl, rfl, by decide +kernel, rfl, by decide +kernel, by decide +kernel⟩
abbrev sRead : Stmt := topS 14
theorem scRead : FnScope ["text", "chain", "word"] ["text"] (defScope sRead) := ⟨rfl, rfl, rfl, by decide +kernel, rfl, by decide +kernel, by decide +kernel⟩
abbrev sLawDue : Stmt := topS 21
theorem scLawDue : FnScope ["text", "chain", "word", "sign"] ["text"] (defScope sLawDue) := ⟨rfl, rfl, rfl, by decide +kernel, rfl, by decide +kernel, by decide +kernel⟩
abbrev sLawTold : Stmt := topS 22
theorem scLawTold : FnScope ["text", "e"] ["text"] (defScope sLawTold) := ⟨rfl, rfl, rfl, by decide +kernel, rfl, by decide +kernel, by decide +kernel⟩
abbrev sLawSpoilt : Stmt := topS 23
theorem scLawSpoilt : FnScope ["script", "text", "some", "sign", "at", "way", "odd"] ["script", "text"] (defScope sLawSpoilt) := ⟨rfl, rfl, rfl, by decide +kernel, rfl, by decide +kernel, by decide +kernel⟩
section
variable {P : Program} {w : World} {K : PySem.W.Frag} {mg : Str → Option Value} {base : Heap} {D : Nat → Addr} {S : Addr}
theorem ok_numberX (F : Own K mg "number_of" sNumberOf ["word"]) (B : Nb mg) (XNoNote : ClsX K mg "NoNote" (D 4) S) : Cal P w K mg base (L2.CX P w) 1 "number_of" ["word"] (spNumberX (D 4)) := by
  refine F.okX scNumberOf (fun vs H Q E h => ?_) (fun f cdv A outer s H vs Q E hr h => ?_)
  · obtain ⟨z, rfl, _⟩ := h
    rfl
  obtain ⟨z, rfl, hz, q, qE⟩ := h
  refine ⟨_, (pss_cons (ps_if (PW.pt (pw_or (pt_not (pt_chain op_le op_le pe_int (pe_callB f_lenS (by rfl) B.b_len PySem.boot_len (pa_cons (pv 0) pa_nil)) pe_int)) (pw_or1 (pt_cmpR op_eq (pe_ix ix_str (pv 0) pe_int (fun _ _ => rfl)) pe_str (nomark _))))) (pss_one (ps_raise rfl (takes_of rfl rfl rfl rfl) (pmk_own PySem.F.excBase_ValueError XNoNote.x XNoNote.g XNoNote.k XNoNote.raises rfl))) pss_nil)
      (pss_cons (ps_for (passes_of rfl) rfl (pi_str (pv 0)) (pg_name (i := 1) scNumberOf.nd rfl (.inl rfl))
      (pss_one (ps_if (pt_cmpR op_notInS (pv 1) (pe_constS B.c_FIGURES rfl) rfl) (pss_one (ps_raise rfl (takes_of rfl rfl rfl rfl) (pmk_own PySem.F.excBase_ValueError XNoNote.x XNoNote.g XNoNote.k XNoNote.raises rfl))) pss_nil)))
      (pss_one (ps_ret (pe_callTy f_intS (by rfl) B.b_int (by decide +kernel) (pa_cons (pv 0) pa_nil)))))), ?_⟩
  dsimp only [cxOf, Cx.nox, Cx.wish, L2.start]
  kct_strs
  refine s_ifs ?_
  kct_strs
  refine e_chain ?_
  kct_strs
  refine r_lenS (z := z) (le_line (by omega)) ?_
  kct_strs
  by_cases h1 : 1 ≤ z.length
  · refine i_yes (decide_eq_true (by omega)) ?_
    kct_strs
    refine i_nn (decide_eq_true (by omega)) ?_
    obtain ⟨c0, hc0, hm0⟩ := head_at h1
    kct_strs
    refine e_ixS (z := z) (by omega) hc0 ?_
    kct_strs
    rw [zero_eq]
    by_cases hn0 : c0 = 48
    · refine i_yes (decide_eq_true (one_sign.mpr hn0)) ?_
      kct_strs
      exact qE (fun hN => hN.head (by rw [hc0, hn0])) H (Same.refl _)
    refine i_no (decide_eq_false (fun e => hn0 (one_sign.mp e))) ?_
    kct_strs
    refine s_forS (z := z) (fun i σ' H' => ∃ y : Option V, σ' = [some (.str z), y] ∧ H' = H ∧ ∀ k c, k < i → z.cps[k]? = some c → 48 ≤ c ∧ c ≤ 57) (fun Qt qt => by kct_strs; exact qt) ⟨_, rfl, rfl, fun k c hk => absurd hk (Nat.not_lt_zero _)⟩ ?_ ?_
    · rintro i c σ' H' hc ⟨y, rfl, rfl, hb⟩
      kct_strs
      refine s_ifs ?_
      kct_strs
      by_cases hf : 48 ≤ c ∧ c ≤ 57
      · refine i_nn (decide_eq_true ((in_figs c).mpr hf)) ?_
        kct_strs
        refine ⟨_, rfl, rfl, fun k d hk hd => ?_⟩
        by_cases e : k < i
        · exact hb k d e hd
        · obtain rfl : k = i := by omega
          rw [hc] at hd
          obtain rfl := Option.some.inj hd
          exact hf
      · refine i_np (decide_eq_false (fun h => hf ((in_figs c).mp h))) ?_
        kct_strs
        exact qE (fun hN => hf (hN.figs c (Array.mem_toList_iff.mpr (Array.mem_of_getElem? hc)))) H' (Same.refl _)
    · rintro σ' H' ⟨y, rfl, rfl, hb⟩
      have hN : NumW z := by
        refine ⟨h1, by omega, fun h => ?_, fun c hc => ?_⟩
        · rw [hc0] at h
          exact hn0 (Option.some.inj h)
        · obtain ⟨k, hk⟩ := List.mem_iff_getElem?.mp hc
          rw [Array.getElem?_toList] at hk
          exact hb k c (Array.getElem?_eq_some_iff.mp hk).1 hk
      kct_strs
      exact r_intS hN.reads (by omega) (q hN)
  · refine i_no (decide_eq_false (by omega)) ?_
    kct_strs
    exact qE (fun hN => h1 hN.lo) H (Same.refl _)
theorem ok_readX (F : Own K mg "read" sRead ["text"]) (B : Nb mg) (XNoNote : ClsX K mg "NoNote" (D 4) S) (GIsChain : Cal P w K mg base CX0 2 "is_chain" ["chain"] spIsChain) (GNumberX : Cal P w K mg base (L2.CX P w) 1 "number_of" ["word"] (spNumberX (D 4))) : Cal P w K mg base (L2.CX P w) 3 "read" ["text"] (spReadX (D 4)) := by
  refine F.okX scRead (fun vs H Q E h => ?_) (fun f cdv A outer s H vs Q E hr h => ?_)
  · obtain ⟨z, rfl, _⟩ := h
    rfl
  obtain ⟨z, rfl, hz, q, qE⟩ := h
  refine ⟨_, (pss_cons (ps_setLcX (i := 1) (own := [("word", 2)]) (g := gName 2) rfl rfl (takes_of rfl rfl rfl rfl) (fun _ _ _ _ h => h) rfl scRead.nd rfl rfl (sw_true rfl rfl rfl (by decide +kernel)) (pi_list (pe_m1 PySem.F.slot_str_split PySem.F.type_str_split mt_splitN' (pv 0) pe_str)) (blkOk_by (N := ["text", "chain", "word"]) (sc := defScope sRead) (by decide +kernel)) (fun _ _ _ _ _ => pg_name (i := 2) scRead.nd rfl (Or.inl rfl)) (fun _ _ _ _ _ _ px => (pe_cal GNumberX (hr.mono (by decide)) px rfl (pa_cons (pv 2) pa_nil))))
      (pss_cons (ps_if (pt_not (pt_val (pe_cal GIsChain (hr.mono (by decide)) pass0 rfl (pa_cons (pv 1) pa_nil)))) (pss_one (ps_raise rfl (takes_of rfl rfl rfl rfl) (pmk_own PySem.F.excBase_ValueError XNoNote.x XNoNote.g XNoNote.k XNoNote.raises rfl))) pss_nil)
      (pss_one (ps_ret (pv 1))))), ?_⟩
  dsimp only [cxOf, Cx.nox, Cx.wish, L2.start]
  have hcnt := words_count z
  kct_strs
  refine r_split (by decide +kernel) (by omega) fun p1 H1 hp1 e1 h1 => ?_
  replace h1 : H1 p1 = some (.lst ((words z).map V.str)) := h1
  kct_strs
  refine e_lcL (xs := (words z).map V.str) (fun _ i acc _ => acc = (((words z).take i).map numV).map V.int ∧ ∀ w, w ∈ (words z).take i → NumW w) (SqL.of h1) (by rw [List.length_map]; omega) (fun _ _ => ⟨rfl, fun w hw => by simp at hw⟩) (fun _ _ _ _ _ _ _ h => h) (fun _ => rfl) (fun i x hx => ?_) (fun D2 acc H2 hD e2 hacc hR => ?_)
  · rw [List.getElem?_map] at hx
    obtain ⟨w0, hw0, rfl⟩ := Option.map_eq_some_iff.mp hx
    have hwm : w0 ∈ words z := List.mem_of_getElem? hw0
    intro D3 acc H3 K1 K0 hD3 e3 hacc3 hR3 k1 k0
    obtain ⟨rfl, hall⟩ := hR3
    kct_strs
    refine c_numberX (Nat.le_trans (word_len hwm) hz) (fun hN => ?_) (fun hN H4 e4 => ?_)
    · refine k1 _ H3 (Same.refl _) ⟨?_, fun w hw => ?_⟩
      · rw [List.take_add_one, hw0, List.map_append, List.map_append]
        rfl
      · rw [List.take_add_one, hw0] at hw
        rcases List.mem_append.mp hw with h | h
        · exact hall w h
        · obtain rfl : w = w0 := by simpa using h
          exact hN
    · exact qE (fun hz2 => hN (hz2.all w0 hwm)) H4 (e1.trans (e3.trans e4))
  · rw [List.length_map, List.take_length] at hR
    obtain ⟨rfl, hall⟩ := hR
    kct_strs
    refine s_ifs ?_
    kct_strs
    refine c_is_chain (ns := vals z) hacc (by unfold vals; rw [List.length_map]; omega) fun b H3 e3 hb => ?_
    cases b with
    | true =>
      kct_strs
      exact q ⟨hall, hb.mp rfl⟩ D2 H3 (e1.trans (e2.trans e3)) (e1.free hD) (e3 _ _ hacc)
    | false =>
      kct_strs
      exact qE (fun hn => nomatch hb.mpr hn.ch) H3 (e1.trans (e2.trans e3))
theorem ok_due (F : Own K mg "_law_due" sLawDue ["text"]) (B : Nb mg) (GLawIsChain : Cal P w K mg base CX0 1 "_law_is_chain" ["chain"] spLawIsChain) : Cal P w K mg base CX0 2 "_law_due" ["text"] spDue := by
  refine F.ok scLawDue (fun vs H Q E h => ?_) (fun f cdv A outer s H vs Q E hr h => ?_)
  · obtain ⟨z, rfl, _⟩ := h
    rfl
  obtain ⟨z, rfl, hz, q, qN⟩ := h
  refine ⟨_, (pss_cons (ps_set (i := 1) scLawDue.nd rfl (.inl rfl) (pe_lst pa_nil))
      (pss_cons (ps_for PassesOwn.never rfl (pi_list (pe_m1 PySem.F.slot_str_split PySem.F.type_str_split mt_splitN' (pv 0) pe_str)) (pg_name (i := 2) scLawDue.nd rfl (.inl rfl))
      (pss_cons (ps_if (PW.pt (pw_or (pt_cmpR op_eq (pv 2) pe_str (nomark _)) (pw_or (pt_cmpR op_gt (pe_callB f_lenS (by rfl) B.b_len PySem.boot_len (pa_cons (pv 2) pa_nil)) pe_int (nomark _)) (pw_or1 (pt_cmpR op_eq (pe_ix ix_str (pv 2) pe_int (fun _ _ => rfl)) pe_str (nomark _)))))) (pss_one (ps_ret pe_non)) pss_nil)
      (pss_cons (ps_if (pt_cmpR op_gt (pe_callB f_len (by rfl) B.b_len PySem.boot_len (pa_cons (pe_lc (own := [("sign", 3)]) (g := gName 3) rfl scLawDue.nd (pi_str (pv 2)) (blkOk_by (N := ["text", "chain", "word", "sign"]) (sc := defScope sLawDue) (by decide +kernel)) (fun _ _ _ _ _ => pg_name (i := 3) scLawDue.nd rfl (Or.inl rfl)) (fun _ _ _ _ _ => (pts_one (pt_cmpR op_lt (pe_m1 PySem.F.slot_str_find PySem.F.type_str_find mt_findN pe_str (pv 3)) pe_int (nomark _)))) (fun _ _ _ _ _ => (pv 3))) pa_nil)) pe_int (nomark _)) (pss_one (ps_ret pe_non)) pss_nil)
      (pss_one (ps_expr (pe_bm PySem.F.plainAttrs_list PySem.F.slot_list_append PySem.F.type_list_append mt_append (pv 1) (pa_cons (pe_callTy f_intS (by rfl) B.b_int (by decide +kernel) (pa_cons (pv 2) pa_nil)) pa_nil)))))))
      (pss_cons (ps_if (pt_not (pt_val (pe_cal GLawIsChain (hr.mono (by decide)) pass0 rfl (pa_cons (pv 1) pa_nil)))) (pss_one (ps_ret pe_non)) pss_nil)
      (pss_one (ps_ret (pv 1)))))), ?_⟩
  dsimp only [cxOf, Cx.nox, Cx.wish, L2.start]
  have hcnt := words_count z
  kct_strs
  refine n_lst (by decide) fun p H0 hp e0 h0 => ?_
  kct_strs
  refine r_split (by decide +kernel) (by omega) fun p1 H1 hp1 e1 h1 => ?_
  replace h1 : H1 p1 = some (.lst ((words z).map V.str)) := h1
  have np : p1 ≠ p := fun e => by
    rw [e, h0] at hp1
    cases hp1
  kct_strs
  refine s_forL (xs := (words z).map V.str) (fun i σ' H' => ∃ y u : Option V, σ' = [some (.str z), some (.ref p), y, u] ∧ Same H H' ∧ H' p = some (.lst ((((words z).take i).map numV).map V.int)) ∧ H' p1 = some (.lst ((words z).map V.str)) ∧ ∀ w, w ∈ (words z).take i → NumW w) (SqL.of h1) ⟨_, _, rfl, e0.trans e1, e1 _ _ h0, h1, fun w hw => by simp at hw⟩ (fun i σ' H' hP => ?_) (fun i x σ' H' hx hP => ?_) (fun σ' H' hP => ?_)
  · obtain ⟨y, u, rfl, _, _, h, _⟩ := hP
    exact SqL.of h
  · obtain ⟨y, u, rfl, eS, hacc, h1', hall⟩ := hP
    rw [List.getElem?_map] at hx
    obtain ⟨w0, hw0, rfl⟩ := Option.map_eq_some_iff.mp hx
    have hwm : w0 ∈ words z := List.mem_of_getElem? hw0
    have hwl := word_len hwm
    have hil := (List.getElem?_eq_some_iff.mp hw0).1
    kct_strs
    refine s_ifs ?_
    kct_strs
    by_cases hne : w0 = Str.ofString ""
    · refine i_yes (decide_eq_true hne) ?_
      kct_strs
      refine qN (fun hn => ?_) H' eS
      have := (hn.all w0 hwm).lo
      have := empty_len.mp hne
      omega
    refine i_no (decide_eq_false hne) ?_
    have hw1 : 1 ≤ w0.length := by
      by_cases e : w0.length = 0
      · exact absurd (empty_len.mpr e) hne
      · omega
    obtain ⟨c0, hc0, hm0⟩ := head_at hw1
    kct_strs
    refine r_lenS (z := w0) (le_line (by omega)) ?_
    kct_strs
    refine i_no (decide_eq_false (by omega)) ?_
    kct_strs
    refine e_ixS (z := w0) (by omega) hc0 ?_
    kct_strs
    rw [zero_eq]
    by_cases hn0 : c0 = 48
    · refine i_yes (decide_eq_true (one_sign.mpr hn0)) ?_
      kct_strs
      exact qN (fun hn => (hn.all w0 hwm).head (by rw [hc0, hn0])) H' eS
    refine i_no (decide_eq_false (fun e => hn0 (one_sign.mp e))) ?_
    kct_strs
    refine s_ifs ?_
    kct_strs
    refine e_lcS (z := w0) (fun _ i acc _ => acc ≠ [] ↔ ∃ k c, k < i ∧ w0.cps[k]? = some c ∧ ¬ (48 ≤ c ∧ c ≤ 57)) (fun Qt qt => by kct_strs; exact qt) (by show w0.length ≤ 100000; omega) (fun _ _ => ⟨fun h => absurd rfl h, fun ⟨k, c, hk, _⟩ => absurd hk (Nat.not_lt_zero _)⟩) (fun _ _ _ _ _ _ _ h => h) (fun _ => rfl) (fun i2 c hc => ?_) (fun D2 acc H2 hD e2 hacc2 hR => ?_)
    · intro D3 acc H3 K1 K0 hD3 e3 hacc3 hR3 k1 k0
      kct_strs
      refine r_find ?_
      kct_strs
      by_cases hf : 48 ≤ c ∧ c ≤ 57
      · refine i_no (decide_eq_false (fun h => (find_fig c).mp h hf)) ?_
        refine k0 H3 (Same.refl _) (hR3.trans ⟨?_, ?_⟩)
        · rintro ⟨k, d, hk, hd, hn⟩
          exact ⟨k, d, by omega, hd, hn⟩
        · rintro ⟨k, d, hk, hd, hn⟩
          by_cases e : k < i2
          · exact ⟨k, d, e, hd, hn⟩
          · obtain rfl : k = i2 := by omega
            rw [hc] at hd
            obtain rfl := Option.some.inj hd
            exact absurd hf hn
      · refine i_yes (decide_eq_true ((find_fig c).mpr hf)) ?_
        kct_strs
        exact k1 _ H3 (Same.refl _) ⟨fun _ => ⟨i2, c, Nat.lt_succ_self _, hc, hf⟩, fun _ => by simp⟩
    kct_strs
    refine r_lenV (SqL.of hacc2) ?_
    kct_strs
    by_cases hbad : acc = []
    · refine i_no (decide_eq_false (by rw [hbad]; decide)) ?_
      have hN : NumW w0 := by
        refine ⟨hw1, by omega, fun h => ?_, fun c hc => ?_⟩
        · rw [hc0] at h
          exact hn0 (Option.some.inj h)
        · obtain ⟨k, hk⟩ := List.mem_iff_getElem?.mp hc
          rw [Array.getElem?_toList] at hk
          by_cases hf : 48 ≤ c ∧ c ≤ 57
          · exact hf
          · exact absurd hbad (hR.mpr ⟨k, c, (Array.getElem?_eq_some_iff.mp hk).1, hk, hf⟩)
      have htl : ((words z).take i).length ≤ 61 := by
        rw [List.length_take]
        omega
      kct_strs
      refine r_intS hN.reads (by omega) ?_
      refine e_nil ?_
      refine m_appendI (e2 _ _ hacc) (by rw [List.length_map]; omega) ?_
      kct_strs
      refine ⟨_, _, rfl, same_mut (eS.trans e2) hp, ?_, get_ne np (e2 _ _ h1'), fun w hw => ?_⟩
      · rw [upd_same, List.take_add_one, hw0, List.map_append (f := V.int), List.map_append (f := numV), List.map_append (f := V.int)]
        rfl
      · rw [List.take_add_one, hw0] at hw
        rcases List.mem_append.mp hw with h | h
        · exact hall w h
        · obtain rfl : w = w0 := by simpa using h
          exact hN
    · have hpos : 0 < acc.length := List.length_pos_iff.mpr hbad
      refine i_yes (decide_eq_true (by omega)) ?_
      kct_strs
      refine qN (fun hn => ?_) H2 (eS.trans e2)
      obtain ⟨k, c, _, hc, hf⟩ := hR.mp hbad
      exact hf ((hn.all w0 hwm).figs c (Array.mem_toList_iff.mpr (Array.mem_of_getElem? hc)))
  · obtain ⟨y, u, rfl, eS, hacc, h1', hall⟩ := hP
    rw [List.length_map, List.take_length] at hacc hall
    kct_strs
    refine s_ifs ?_
    kct_strs
    refine c_law_is_chain (ns := vals z) hacc (by unfold vals; rw [List.length_map]; omega) fun b H3 e3 hb => ?_
    cases b with
    | true =>
      kct_strs
      exact q ⟨hall, hb.mp rfl⟩ p H3 (eS.trans e3) hp (e3 _ _ hacc)
    | false =>
      kct_strs
      exact qN (fun hn => nomatch hb.mpr hn.ch) H3 (eS.trans e3)
theorem ok_told13 (F : Own K mg "_law_told" sLawTold ["text"]) (B : Nb mg) (Kd : Kinds K mg D S [4]) (GReadX : Cal P w K mg base (L2.CX P w) 3 "read" ["text"] (spReadX (D 4))) (GLawWordOf : CalE P w K mg base 1 "_law_word_of" ["e"] (spWordOf D [4])) : Cal P w K mg base CX0 4 "_law_told" ["text"] spTold13 := by
  have XNoNote : ClsX K mg "NoNote" (D 4) S := (Kd.x 4 (List.mem_singleton.mpr rfl)).2
  refine F.ok scLawTold (fun vs H Q E h => ?_) (fun f cdv A outer s H vs Q E hr h => ?_)
  · obtain ⟨z, rfl, _⟩ := h
    rfl
  obtain ⟨z, rfl, hz, q, qN⟩ := h
  refine ⟨_, (pss_one (ps_try_as (i := 1) rfl rfl scLawTold.nd rfl rfl ⟨rfl, by decide, Or.inl Kd.s⟩ takes0
      (fun W pn xe tk _ => (pss_one (ps_ret (pe_calS GReadX hr (fun σ => passAt tk σ) rfl (pa_cons (pv 0) pa_nil)))))
      (fun a oe cls d pn hz hf => (pss_one (ps_ret (pe_calE (a := a) (oe := oe) GLawWordOf (L2H.RoomH.mk (hr.mono (by decide : 1 ≤ 3)).dp (hr.mono (by decide : 1 ≤ 3)).un) List.mem_cons_self hz hf rfl (pa_cons (pv 1) pa_nil))))))), ?_⟩
  dsimp only [cxOf, Cx.nox, Cx.wish, L2.start]
  kct_strs
  refine c_readX hz q fun hn H1 e1 => ?_
  refine ⟨true, XNoNote.e, fun _ x hx => ?_, fun z => nomatch z⟩
  kct_strs
  exact c_word_of (List.mem_singleton.mpr rfl) fun H2 e2 => qN hn H2 (e1.trans e2)
theorem ok_spoilt13 (F : Own K mg "_law_spoilt" sLawSpoilt ["script", "text"]) (B : Nb mg) (GLawCellAt : Cal P w K mg base CX0 1 "_law_cell_at" ["script", "k"] (spCellAt K)) : Cal P w K mg base CX0 2 "_law_spoilt" ["script", "text"] (spSpoilt13 K) := by
  refine F.ok scLawSpoilt (fun vs H Q E h => ?_) (fun f cdv A outer s H vs Q E hr h => ?_)
  · obtain ⟨a, ns, z, rfl, _⟩ := h
    rfl
  obtain ⟨a, ns, z, rfl, hS0, hz, q⟩ := h
  refine ⟨_, (pss_cons (ps_set (i := 2) scLawSpoilt.nd rfl (.inl rfl) (pe_lst (pa_cons pe_str (pa_cons pe_str (pa_cons pe_str (pa_cons pe_str (pa_cons pe_str (pa_cons pe_str (pa_cons pe_str (pa_cons pe_str (pa_cons pe_str (pa_cons pe_str (pa_cons pe_str (pa_cons pe_str (pa_cons pe_str (pa_cons pe_str (pa_cons pe_str (pa_cons pe_str pa_nil))))))))))))))))))
      (pss_cons (ps_set (i := 3) scLawSpoilt.nd rfl (.inl rfl) (pe_ix ix_list (pv 2) (pe_op op_mod (pe_cal GLawCellAt (hr.mono (by decide)) pass0 rfl (pa_cons (pv 0) (pa_cons pe_int pa_nil))) pe_int) (fun _ _ => rfl)))
      (pss_cons (ps_set (i := 4) scLawSpoilt.nd rfl (.inl rfl) (pe_op op_mod (pe_cal GLawCellAt (hr.mono (by decide)) pass0 rfl (pa_cons (pv 0) (pa_cons pe_int pa_nil))) (pe_op op_add (pe_callB f_lenS (by rfl) B.b_len PySem.boot_len (pa_cons (pv 1) pa_nil)) pe_int)))
      (pss_cons (ps_set (i := 5) scLawSpoilt.nd rfl (.inl rfl) (pe_op op_mod (pe_cal GLawCellAt (hr.mono (by decide)) pass0 rfl (pa_cons (pv 0) (pa_cons pe_int pa_nil))) pe_int))
      (pss_cons (ps_if (pt_cmpR op_eq (pv 5) pe_int (nomark _)) (pss_one (ps_ret (pe_op op_addS (pe_op op_addS (pe_slice sl_str (pv 1) po_none (po_some (pv 4))) (pv 3)) (pe_slice sl_str (pv 1) (po_some (pv 4)) po_none)))) pss_nil)
      (pss_cons (ps_if (pt_cmpR op_eq (pv 5) pe_int (nomark _)) (pss_one (ps_ret (pe_op op_addS (pe_slice sl_str (pv 1) po_none (po_some (pv 4))) (pe_slice sl_str (pv 1) (po_some (pe_op op_add (pv 4) pe_int)) po_none)))) pss_nil)
      (pss_cons (ps_if (pt_cmpR op_eq (pv 5) pe_int (nomark _)) (pss_one (ps_ret (pe_op op_addS (pe_op op_addS (pe_slice sl_str (pv 1) po_none (po_some (pv 4))) (pv 3)) (pe_slice sl_str (pv 1) (po_some (pe_op op_add (pv 4) pe_int)) po_none)))) pss_nil)
      (pss_cons (ps_set (i := 6) scLawSpoilt.nd rfl (.inl rfl) (pe_lst (pa_cons pe_str (pa_cons pe_str (pa_cons pe_str (pa_cons pe_str (pa_cons pe_str (pa_cons pe_str (pa_cons pe_str (pa_cons pe_str (pa_cons pe_str (pa_cons pe_str pa_nil))))))))))))
      (pss_cons (ps_set (i := 6) scLawSpoilt.nd rfl (.inl rfl) (pe_op op_cat (pv 6) (pe_lst (pa_cons pe_str (pa_cons pe_str (pa_cons pe_str (pa_cons pe_str (pa_cons pe_str (pa_cons pe_str (pa_cons pe_str pa_nil))))))))))
      (pss_one (ps_ret (pe_ix ix_list (pv 6) (pe_op op_mod (pe_cal GLawCellAt (hr.mono (by decide)) pass0 rfl (pa_cons (pv 0) (pa_cons pe_int pa_nil))) pe_int) (fun _ _ => rfl))))))))))))), ?_⟩
  dsimp only [cxOf, Cx.nox, Cx.wish, L2.start]
  kct_strs
  refine n_lst (by show 16 ≤ 100000; decide) fun p1 H1 hp1 e1 h1 => ?_
  have hS1 := e1.seq hS0
  kct_strs
  refine e_pick (k := 1) (j := (cellAt ns 4 % 16).toNat) h1 (by decide +kernel) (by omega) (by show _ < 16; omega) fun sg hsg => ?_
  kct_strs
  refine r_lenS (z := z) (le_line (by omega)) ?_
  kct_strs
  have m1 := Int.emod_nonneg (cellAt ns 5) (show ((z.length : Int) + 1) ≠ 0 by omega)
  have m2 := Int.emod_lt_of_pos (cellAt ns 5) (show 0 < (z.length : Int) + 1 by omega)
  obtain ⟨at', hat⟩ : ∃ k : Nat, cellAt ns 5 % ((z.length : Int) + 1) = (k : Int) := ⟨(cellAt ns 5 % ((z.length : Int) + 1)).toNat, by omega⟩
  rw [hat] at m1 m2 ⊢
  have l1 := cut_lo z at'
  have l2 := cut_hi z at'
  have l3 := cut_hi z (at' + 1)
  have ea : ((at' + 1 : Nat) : Int) = (at' : Int) + 1 := by omega
  rw [ea] at l3
  kpt_turns <;> intro hb
  · kct_strs
    refine r_cutS (z := z) (by omega) ?_
    kct_strs
    refine r_addS (by omega) ?_
    kct_strs
    refine r_cutS (z := z) (by omega) ?_
    refine r_addS (by rw [Str.length_append]; omega) ?_
    exact q _ H1 (by rw [Str.length_append, Str.length_append]; omega) e1
  kct_strs
  kpt_turns <;> intro hb
  · kct_strs
    refine r_cutS (z := z) (by omega) ?_
    kct_strs
    refine r_cutS (z := z) (by omega) ?_
    refine r_addS (by omega) ?_
    exact q _ H1 (by rw [Str.length_append]; omega) e1
  kct_strs
  kpt_turns <;> intro hb
  · kct_strs
    refine r_cutS (z := z) (by omega) ?_
    kct_strs
    refine r_addS (by omega) ?_
    kct_strs
    refine r_cutS (z := z) (by omega) ?_
    refine r_addS (by rw [Str.length_append]; omega) ?_
    exact q _ H1 (by rw [Str.length_append, Str.length_append]; omega) e1
  kct_strs
  refine n_lst (by show 10 ≤ 100000; decide) fun p2 H2 hp2 e2 h2 => ?_
  have hS2 := e2.seq hS1
  kct_strs
  refine n_lst (by show 7 ≤ 100000; decide) fun p3 H3 hp3 e3 h3 => ?_
  have hS3 := e3.seq hS2
  refine r_cat (e3 _ _ h2) h3 (le_line (by show 17 ≤ 100000; decide)) fun p4 hp4 => ?_
  have e4 : ∀ o, Same H3 (upd H3 p4 o) := fun o => same_new hp4
  kct_strs
  refine e_pick (k := 7) (j := (cellAt ns 7 % 17).toNat) upd_same (by decide +kernel) (by omega) (by show _ < 17; omega) fun y hy => ?_
  exact q y _ (by omega) (e1.trans (e2.trans (e3.trans (e4 _))))
end

/-! ## law -/
abbrev sLaw : Stmt := topS 24
theorem scLaw : FnScope ["script", "chain", "text", "due", "found", "number"] ["script"] (defScope sLaw) := ⟨rfl, rfl, rfl, by decide +kernel, rfl, by decide +kernel, by decide +kernel⟩
section
variable {P : Program} {w : World} {K : PySem.W.Frag} {mg : Str → Option Value} {base : Heap}
theorem all_law {D : Nat → Addr} {S : Addr} {f : Addr} {fd : FuncData} (F : Fun K "law" "law" sLaw f fd) (B : Nb mg) (Kd : Kinds K mg D S [4]) (OLinkOf : Own K mg "link_of" sLinkOf ["chain", "place"]) (OIsChain : Own K mg "is_chain" sIsChain ["chain"]) (ONumberOf : Own K mg "number_of" sNumberOf ["word"]) (ORead : Own K mg "read" sRead ["text"]) (OLawCellAt : Own K mg "_law_cell_at" sLawCellAt ["script", "k"]) (OLawDraw : Own K mg "_law_draw" sLawDraw ["cell", "k", "bound"]) (OLawChainBy : Own K mg "_law_chain_by" sLawChainBy ["script", "first", "most"]) (OLawIsChain : Own K mg "_law_is_chain" sLawIsChain ["chain"]) (OLawWordOf : Own K mg "_law_word_of" sLawWordOf ["e"]) (OLawDue : Own K mg "_law_due" sLawDue ["text"]) (OLawTold : Own K mg "_law_told" sLawTold ["text"]) (OLawSpoilt : Own K mg "_law_spoilt" sLawSpoilt ["script", "text"]) :
    FnOk P w K mg base CX0 5 f fd ["script"] (spLaw K) := by
  have XNoNote : ClsX K mg "NoNote" (D 4) S := (Kd.x 4 (List.mem_singleton.mpr rfl)).2
  have GLinkOf : Cal P w K mg base CX0 1 "link_of" _ spLinkOf := ok_link_of OLinkOf B
  have GIsChain : Cal P w K mg base CX0 2 "is_chain" _ spIsChain := ok_is_chain OIsChain B GLinkOf
  have GNumberX : Cal P w K mg base (L2.CX P w) 1 "number_of" _ (spNumberX (D 4)) := ok_numberX ONumberOf B XNoNote
  have GReadX : Cal P w K mg base (L2.CX P w) 3 "read" _ (spReadX (D 4)) := ok_readX ORead B XNoNote GIsChain GNumberX
  have GLawCellAt : Cal P w K mg base CX0 1 "_law_cell_at" _ (spCellAt K) := ok_cell_at OLawCellAt B
  have GLawDraw : Cal P w K mg base CX0 1 "_law_draw" _ spDraw := ok_draw OLawDraw B
  have GLawChainBy : Cal P w K mg base CX0 2 "_law_chain_by" _ (spChainBy K) := ok_chain_by OLawChainBy B GLawCellAt GLawDraw
  have GLawIsChain : Cal P w K mg base CX0 1 "_law_is_chain" _ spLawIsChain := ok_law_is_chain OLawIsChain B
  have GLawWordOf : CalE P w K mg base 1 "_law_word_of" _ (spWordOf D [4]) := ok_word_of OLawWordOf B Kd
  have GLawDue : Cal P w K mg base CX0 2 "_law_due" _ spDue := ok_due OLawDue B GLawIsChain
  have GLawTold : Cal P w K mg base CX0 4 "_law_told" _ spTold13 := ok_told13 OLawTold B Kd GReadX GLawWordOf
  have GLawSpoilt : Cal P w K mg base CX0 2 "_law_spoilt" _ (spSpoilt13 K) := ok_spoilt13 OLawSpoilt B GLawCellAt
  refine F.ok scLaw (fun vs H Q E h => ?_) (fun cdv A outer s H vs Q E hr h => ?_)
  · obtain ⟨a, ns, rfl, _⟩ := h
    rfl
  obtain ⟨a, ns, rfl, hS0, hlen, q⟩ := h
  refine ⟨_, (pss_cons (ps_set (i := 1) scLaw.nd rfl (.inl rfl) (pe_cal GLawChainBy (hr.mono (by decide)) pass0 rfl (pa_cons (pv 0) (pa_cons pe_int (pa_cons pe_int pa_nil)))))
      (pss_cons (ps_set (i := 2) scLaw.nd rfl (.inl rfl) (pe_m1 PySem.F.slot_str_join PySem.F.type_str_join mt_joinN pe_str (pe_lc (own := [("number", 5)]) (g := gName 5) rfl scLaw.nd (pi_list (pv 1)) (blkOk_by (N := ["script", "chain", "text", "due", "found", "number"]) (sc := defScope sLaw) (by decide +kernel)) (fun _ _ _ _ _ => pg_name (i := 5) scLaw.nd rfl (Or.inl rfl)) (fun _ _ _ _ _ => pts_nil) (fun _ _ _ _ _ => (pe_callTy f_str (by rfl) B.b_str (by decide +kernel) (pa_cons (pv 5) pa_nil))))))
      (pss_mid (ps_if (pt_cmpR op_gt (pe_op op_mod (pe_cal GLawCellAt (hr.mono (by decide)) pass0 rfl (pa_cons (pv 0) (pa_cons pe_int pa_nil))) pe_int) pe_int (nomark _)) (pss_one (ps_set (i := 2) scLaw.nd rfl (.inl rfl) (pe_cal GLawSpoilt (hr.mono (by decide)) pass0 rfl (pa_cons (pv 0) (pa_cons (pv 2) pa_nil))))) pss_nil)
      (pss_cons (ps_set (i := 3) scLaw.nd rfl (.inl rfl) (pe_cal GLawDue (hr.mono (by decide)) pass0 rfl (pa_cons (pv 2) pa_nil)))
      (pss_cons (ps_set (i := 4) scLaw.nd rfl (.inl rfl) (pe_cal GLawTold (hr.mono (by decide)) pass0 rfl (pa_cons (pv 2) pa_nil)))
      (pss_cons (ps_if (pt_cmpR op_isN1 (pv 3) pe_non (nomark _)) (pss_one (ps_ret (pe_cmpR (op_eqD hr.units) (pv 4) pe_str (nomark _)))) pss_nil)
      (pss_one (ps_ret (pe_and (pe_callB call_isi (by rfl) B.b_isinstance (by decide +kernel) (pa_cons (pv 4) (pa_cons (pe_bltn (v := .ty "list") rfl B.b_list (by decide +kernel) rfl) pa_nil))) (pe_one (pe_cmpR (op_eqD hr.units) (pv 4) (pv 3) (nomark _)))))))))))), ?_⟩
  dsimp only [cxOf, Cx.nox, Cx.wish, L2.start]
  kct_strs
  refine c_chain_by (by kd_adr) (by omega) fun cs p H1 hA hl hlt e1 hp h1 => ?_
  have hS1 := e1.seq hS0
  have hst := small_text hA (by omega)
  have hbn : ∀ n, n ∈ cs → 1 ≤ n ∧ n < 10 ^ 100 := fun n hn => by
    have h2 := pos_mem hA n hn
    have h3 := hlt (cs.length - 1) (by have := hA.lo; omega)
    exact ⟨h2.1, by omega⟩
  kct_strs
  refine e_lcMapG V.int (fun n => V.str (wd n)) (l := cs) (SqL.of h1) (by omega) (fun _ => rfl) (fun i n H2 K1 hn e2 k1 => ?_) (fun D2 H2 hD e2 hacc => ?_)
  · have := hbn n (List.mem_of_getElem? hn)
    kct_strs
    exact r_wd (wd_ok (by omega) this.2) k1
  have hS2 := e2.seq hS1
  kct_strs
  refine r_join (ys := cs.map wd) (by rw [List.map_map]; exact hacc) ?_ ?_
  · have := (txt_len (ns := cs) (k := 100) fun n hn => wd_len (Int.le_trans (by decide) (hbn n hn).1) (by decide) (hbn n hn).2).2
    exact Nat.le_trans this (by omega)
  show gName _ (V.str (txt cs)) _ _ _
  kct_strs
  refine s_cut (fun σ3 H3 => ∃ z : Str, σ3 = [some (.ref a), some (.ref p), some (.str z), none, none, none] ∧ z.length ≤ 60) ?_ ?_
  · kpt_turns <;> intro hb
    · kct_strs
      refine c_spoilt13 hS2 (by omega) fun y H3 hy e3 => ?_
      kct_strs
      exact ⟨y, rfl, by omega⟩
    · kct_strs
      exact ⟨_, rfl, by omega⟩
  rintro σ3 H3 ⟨z, rfl, hz⟩
  kct_strs
  refine c_due hz (fun hn p4 H4 e4 hp4 h4 => ?_) (fun hn H4 e4 => ?_)
  · kct_strs
    refine c_told13 hz (fun _ p5 H5 e5 hp5 h5 => ?_) (fun hn2 => absurd hn hn2)
    have h45 := e5 _ _ h4
    kct_strs
    refine s_ifs ?_
    kct_strs
    refine i_no (decide_eq_false (fun z => nomatch z)) ?_
    kct_strs
    rw [decide_eq_true rfl]
    exact q _
  · kct_strs
    refine c_told13 hz (fun hn2 => absurd hn2 hn) (fun _ H5 e5 => ?_)
    kct_strs
    refine s_ifs ?_
    kct_strs
    refine r_eqS (by decide +kernel) (by decide +kernel) ?_
    rw [decide_eq_true rfl]
    exact q _
end

/-! ## The end: what the top has written -/
theorem all_mk {l : PySem.W.OpenLaw} {w : World} {K : PySem.W.Frag} {h : Heap} {mg : Str → Option Value} {fa : Addr} (X : K.In h) (G : h.Ns mainGlobals mg) (hfa : mg "law" = some (.ref fa))
    {f0 : Addr} {od0 an0 : Option Addr} {sl0 : Array (Option Value)} {oc0 kV0 dc0 pm0 cd0 ct0 : Value}
    {f1 : Addr} {od1 an1 : Option Addr} {sl1 : Array (Option Value)} {oc1 kV1 dc1 pm1 cd1 ct1 : Value}
    {f2 : Addr} {od2 an2 : Option Addr} {sl2 : Array (Option Value)} {oc2 kV2 dc2 pm2 cd2 ct2 : Value}
    {f3 : Addr} {od3 an3 : Option Addr} {sl3 : Array (Option Value)} {oc3 kV3 dc3 pm3 cd3 ct3 : Value}
    {f4 : Addr} {od4 an4 : Option Addr} {sl4 : Array (Option Value)} {oc4 kV4 dc4 pm4 cd4 ct4 : Value}
    {f5 : Addr} {od5 an5 : Option Addr} {sl5 : Array (Option Value)} {oc5 kV5 dc5 pm5 cd5 ct5 : Value}
    {f6 : Addr} {od6 an6 : Option Addr} {sl6 : Array (Option Value)} {oc6 kV6 dc6 pm6 cd6 ct6 : Value}
    {f7 : Addr} {od7 an7 : Option Addr} {sl7 : Array (Option Value)} {oc7 kV7 dc7 pm7 cd7 ct7 : Value}
    {f8 : Addr} {od8 an8 : Option Addr} {sl8 : Array (Option Value)} {oc8 kV8 dc8 pm8 cd8 ct8 : Value}
    {f9 : Addr} {od9 an9 : Option Addr} {sl9 : Array (Option Value)} {oc9 kV9 dc9 pm9 cd9 ct9 : Value}
    {f10 : Addr} {od10 an10 : Option Addr} {sl10 : Array (Option Value)} {oc10 kV10 dc10 pm10 cd10 ct10 : Value}
    {f11 : Addr} {od11 an11 : Option Addr} {sl11 : Array (Option Value)} {oc11 kV11 dc11 pm11 cd11 ct11 : Value}
    {f12 : Addr} {od12 an12 : Option Addr} {sl12 : Array (Option Value)} {oc12 kV12 dc12 pm12 cd12 ct12 : Value}
    {t_MOST : Tok}
    {t_FIGURES : Tok}
    {eD0 eD1 eD2 eD3 eD4 eS : Addr}
    (a0 : PySem.W.nsIn K mainGlobals "link_of" = some (some (.ref f0))) (l0 : K.lookup f0 = some ⟨oc0, od0, .func (PySem.W.fnOf "link_of" "link_of" (defArgs sLinkOf) (defBody sLinkOf) (defScope sLinkOf) .none kV0 dc0 pm0 an0 cd0 ct0), sl0⟩) (c0 : PySem.W.codeIn K cd0 "link_of" = true) (k0 : PySem.W.keepIn K (.ref f0) = true)
    (a1 : PySem.W.nsIn K mainGlobals "is_chain" = some (some (.ref f1))) (l1 : K.lookup f1 = some ⟨oc1, od1, .func (PySem.W.fnOf "is_chain" "is_chain" (defArgs sIsChain) (defBody sIsChain) (defScope sIsChain) .none kV1 dc1 pm1 an1 cd1 ct1), sl1⟩) (c1 : PySem.W.codeIn K cd1 "is_chain" = true) (k1 : PySem.W.keepIn K (.ref f1) = true)
    (a2 : PySem.W.nsIn K mainGlobals "number_of" = some (some (.ref f2))) (l2 : K.lookup f2 = some ⟨oc2, od2, .func (PySem.W.fnOf "number_of" "number_of" (defArgs sNumberOf) (defBody sNumberOf) (defScope sNumberOf) .none kV2 dc2 pm2 an2 cd2 ct2), sl2⟩) (c2 : PySem.W.codeIn K cd2 "number_of" = true) (k2 : PySem.W.keepIn K (.ref f2) = true)
    (a3 : PySem.W.nsIn K mainGlobals "read" = some (some (.ref f3))) (l3 : K.lookup f3 = some ⟨oc3, od3, .func (PySem.W.fnOf "read" "read" (defArgs sRead) (defBody sRead) (defScope sRead) .none kV3 dc3 pm3 an3 cd3 ct3), sl3⟩) (c3 : PySem.W.codeIn K cd3 "read" = true) (k3 : PySem.W.keepIn K (.ref f3) = true)
    (a4 : PySem.W.nsIn K mainGlobals "_law_cell_at" = some (some (.ref f4))) (l4 : K.lookup f4 = some ⟨oc4, od4, .func (PySem.W.fnOf "_law_cell_at" "_law_cell_at" (defArgs sLawCellAt) (defBody sLawCellAt) (defScope sLawCellAt) .none kV4 dc4 pm4 an4 cd4 ct4), sl4⟩) (c4 : PySem.W.codeIn K cd4 "_law_cell_at" = true) (k4 : PySem.W.keepIn K (.ref f4) = true)
    (a5 : PySem.W.nsIn K mainGlobals "_law_draw" = some (some (.ref f5))) (l5 : K.lookup f5 = some ⟨oc5, od5, .func (PySem.W.fnOf "_law_draw" "_law_draw" (defArgs sLawDraw) (defBody sLawDraw) (defScope sLawDraw) .none kV5 dc5 pm5 an5 cd5 ct5), sl5⟩) (c5 : PySem.W.codeIn K cd5 "_law_draw" = true) (k5 : PySem.W.keepIn K (.ref f5) = true)
    (a6 : PySem.W.nsIn K mainGlobals "_law_chain_by" = some (some (.ref f6))) (l6 : K.lookup f6 = some ⟨oc6, od6, .func (PySem.W.fnOf "_law_chain_by" "_law_chain_by" (defArgs sLawChainBy) (defBody sLawChainBy) (defScope sLawChainBy) .none kV6 dc6 pm6 an6 cd6 ct6), sl6⟩) (c6 : PySem.W.codeIn K cd6 "_law_chain_by" = true) (k6 : PySem.W.keepIn K (.ref f6) = true)
    (a7 : PySem.W.nsIn K mainGlobals "_law_is_chain" = some (some (.ref f7))) (l7 : K.lookup f7 = some ⟨oc7, od7, .func (PySem.W.fnOf "_law_is_chain" "_law_is_chain" (defArgs sLawIsChain) (defBody sLawIsChain) (defScope sLawIsChain) .none kV7 dc7 pm7 an7 cd7 ct7), sl7⟩) (c7 : PySem.W.codeIn K cd7 "_law_is_chain" = true) (k7 : PySem.W.keepIn K (.ref f7) = true)
    (a8 : PySem.W.nsIn K mainGlobals "_law_word_of" = some (some (.ref f8))) (l8 : K.lookup f8 = some ⟨oc8, od8, .func (PySem.W.fnOf "_law_word_of" "_law_word_of" (defArgs sLawWordOf) (defBody sLawWordOf) (defScope sLawWordOf) .none kV8 dc8 pm8 an8 cd8 ct8), sl8⟩) (c8 : PySem.W.codeIn K cd8 "_law_word_of" = true) (k8 : PySem.W.keepIn K (.ref f8) = true)
    (a9 : PySem.W.nsIn K mainGlobals "_law_due" = some (some (.ref f9))) (l9 : K.lookup f9 = some ⟨oc9, od9, .func (PySem.W.fnOf "_law_due" "_law_due" (defArgs sLawDue) (defBody sLawDue) (defScope sLawDue) .none kV9 dc9 pm9 an9 cd9 ct9), sl9⟩) (c9 : PySem.W.codeIn K cd9 "_law_due" = true) (k9 : PySem.W.keepIn K (.ref f9) = true)
    (a10 : PySem.W.nsIn K mainGlobals "_law_told" = some (some (.ref f10))) (l10 : K.lookup f10 = some ⟨oc10, od10, .func (PySem.W.fnOf "_law_told" "_law_told" (defArgs sLawTold) (defBody sLawTold) (defScope sLawTold) .none kV10 dc10 pm10 an10 cd10 ct10), sl10⟩) (c10 : PySem.W.codeIn K cd10 "_law_told" = true) (k10 : PySem.W.keepIn K (.ref f10) = true)
    (a11 : PySem.W.nsIn K mainGlobals "_law_spoilt" = some (some (.ref f11))) (l11 : K.lookup f11 = some ⟨oc11, od11, .func (PySem.W.fnOf "_law_spoilt" "_law_spoilt" (defArgs sLawSpoilt) (defBody sLawSpoilt) (defScope sLawSpoilt) .none kV11 dc11 pm11 an11 cd11 ct11), sl11⟩) (c11 : PySem.W.codeIn K cd11 "_law_spoilt" = true) (k11 : PySem.W.keepIn K (.ref f11) = true)
    (a12 : PySem.W.nsIn K mainGlobals "law" = some (some (.ref f12))) (l12 : K.lookup f12 = some ⟨oc12, od12, .func (PySem.W.fnOf "law" "law" (defArgs sLaw) (defBody sLaw) (defScope sLaw) .none kV12 dc12 pm12 an12 cd12 ct12), sl12⟩) (c12 : PySem.W.codeIn K cd12 "law" = true) (k12 : PySem.W.keepIn K (.ref f12) = true)
    (z_len : PySem.W.nsIn K mainGlobals "len" = some none)
    (z_range : PySem.W.nsIn K mainGlobals "range" = some none)
    (z_reversed : PySem.W.nsIn K mainGlobals "reversed" = some none)
    (z_list : PySem.W.nsIn K mainGlobals "list" = some none)
    (z_int : PySem.W.nsIn K mainGlobals "int" = some none)
    (z_str : PySem.W.nsIn K mainGlobals "str" = some none)
    (z_sum : PySem.W.nsIn K mainGlobals "sum" = some none)
    (z_sorted : PySem.W.nsIn K mainGlobals "sorted" = some none)
    (z_isinstance : PySem.W.nsIn K mainGlobals "isinstance" = some none)
    (z_bool : PySem.W.nsIn K mainGlobals "bool" = some none)
    (z_tuple : PySem.W.nsIn K mainGlobals "tuple" = some none)
    (z_min : PySem.W.nsIn K mainGlobals "min" = some none)
    (z_max : PySem.W.nsIn K mainGlobals "max" = some none)
    (z_all : PySem.W.nsIn K mainGlobals "all" = some none)
    (z_ValueError : PySem.W.nsIn K mainGlobals "ValueError" = some none)
    (g_MOST : PySem.W.nsIn K mainGlobals "MOST" = some (some (.int 250 t_MOST)))
    (g_FIGURES : PySem.W.nsIn K mainGlobals "FIGURES" = some (some (.str (Str.ofString "0123456789") t_FIGURES)))
    (xg0 : PySem.W.nsIn K mainGlobals "NoChain" = some (some (.ref eD0)))
    (xg1 : PySem.W.nsIn K mainGlobals "NoModulus" = some (some (.ref eD1)))
    (xg2 : PySem.W.nsIn K mainGlobals "NoNumber" = some (some (.ref eD2)))
    (xg3 : PySem.W.nsIn K mainGlobals "TooLong" = some (some (.ref eD3)))
    (xg4 : PySem.W.nsIn K mainGlobals "NoNote" = some (some (.ref eD4)))
    (xgS : PySem.W.nsIn K mainGlobals "SumError" = some (some (.ref eS)))
    (xbS : PySem.W.subIn K (.ref eS) (.type "BaseException") = some true)
    (xdS : PySem.W.hasDictIn K eS = true)
    (xtS : PySem.W.typeIn K (.ref eS) = some (.type "type"))
    (xn : PySem.W.specialIn K (.builtin "object.__class__") "__get__" = some (some (.builtin "getset_descriptor.__get__")))
    (xt : PySem.W.takesIn K (.builtin "object.__class__") = some true)
    (xx4 : PySem.W.excIn K eD4 [.type "ValueError", .type "Exception", .type "BaseException", .type "object"] "ValueError.__new__" = true)
    (xk4 : PySem.W.keepIn K (.ref eD4) = true)
    (xb4 : PySem.W.subIn K (.ref eD4) (.type "BaseException") = some true)
    (xt4 : PySem.W.typeIn K (.ref eD4) = some (.type "type"))
    (xe4 : PySem.W.subIn K (.ref eD4) (.ref eS) = some true)
    (xhg4 : PySem.W.findIn K (.ref eD4) "__getattribute__" = some (some (.builtin "BaseException.__getattribute__")))
    (xhk4 : PySem.W.findIn K (.ref eD4) "__getattr__" = some none)
    (xhd4 : PySem.W.hasDictIn K eD4 = true)
    (xha4 : PySem.W.findIn K (.ref eD4) "__class__" = some (some (.builtin "object.__class__")))
    (xhm4 : PySem.W.mroIn K eD4 (.type "object") = some true)
    (xv4 : PySem.W.kitOne K (.ref eD4) (.type "ValueError") = some true)
    (xq40 : PySem.W.kitOne K (.ref eD4) (.ref eD0) = some false)
    (xq41 : PySem.W.kitOne K (.ref eD4) (.ref eD1) = some false)
    (xq42 : PySem.W.kitOne K (.ref eD4) (.ref eD2) = some false)
    (xq43 : PySem.W.kitOne K (.ref eD4) (.ref eD3) = some false)
    (xq44 : PySem.W.kitOne K (.ref eD4) (.ref eD4) = some true)
    : ∃ fd : FuncData, (∀ (s : Shared) (v : Value), BindsTo s fd ⟨[v], []⟩ [("script", v)]) ∧ ∀ base : Heap, K.In base → base.Ns mainGlobals mg → FnOk l.prog w K mg base CX0 5 fa fd ["script"] (spLaw K) := by
  have e := hfa.symm.trans (PySem.W.mg_of X G a12)
  cases e
  have B : Nb mg := { b_len := PySem.W.mg_none_of X G z_len, b_range := PySem.W.mg_none_of X G z_range, b_reversed := PySem.W.mg_none_of X G z_reversed, b_list := PySem.W.mg_none_of X G z_list, b_int := PySem.W.mg_none_of X G z_int, b_str := PySem.W.mg_none_of X G z_str, b_sum := PySem.W.mg_none_of X G z_sum, b_sorted := PySem.W.mg_none_of X G z_sorted, b_isinstance := PySem.W.mg_none_of X G z_isinstance, b_bool := PySem.W.mg_none_of X G z_bool, b_tuple := PySem.W.mg_none_of X G z_tuple, b_min := PySem.W.mg_none_of X G z_min, b_max := PySem.W.mg_none_of X G z_max, b_all := PySem.W.mg_none_of X G z_all, b_ValueError := PySem.W.mg_none_of X G z_ValueError, c_MOST := ⟨_, PySem.W.mg_of X G g_MOST⟩, c_FIGURES := ⟨_, PySem.W.mg_of X G g_FIGURES⟩ }
  have F0 := fun_mk (st := sLinkOf) l0 c0 k0
  have OLinkOf : Own K mg "link_of" sLinkOf ["chain", "place"] := Own.mk' F0 (PySem.W.mg_of X G a0) (F0.binds (ps := ["chain", "place"]) fun _ _ _ _ _ _ us hl => match us, hl with | [_, _], _ => rfl)
  have F1 := fun_mk (st := sIsChain) l1 c1 k1
  have OIsChain : Own K mg "is_chain" sIsChain ["chain"] := Own.mk' F1 (PySem.W.mg_of X G a1) (F1.binds (ps := ["chain"]) fun _ _ _ _ _ _ us hl => match us, hl with | [_], _ => rfl)
  have F2 := fun_mk (st := sNumberOf) l2 c2 k2
  have ONumberOf : Own K mg "number_of" sNumberOf ["word"] := Own.mk' F2 (PySem.W.mg_of X G a2) (F2.binds (ps := ["word"]) fun _ _ _ _ _ _ us hl => match us, hl with | [_], _ => rfl)
  have F3 := fun_mk (st := sRead) l3 c3 k3
  have ORead : Own K mg "read" sRead ["text"] := Own.mk' F3 (PySem.W.mg_of X G a3) (F3.binds (ps := ["text"]) fun _ _ _ _ _ _ us hl => match us, hl with | [_], _ => rfl)
  have F4 := fun_mk (st := sLawCellAt) l4 c4 k4
  have OLawCellAt : Own K mg "_law_cell_at" sLawCellAt ["script", "k"] := Own.mk' F4 (PySem.W.mg_of X G a4) (F4.binds (ps := ["script", "k"]) fun _ _ _ _ _ _ us hl => match us, hl with | [_, _], _ => rfl)
  have F5 := fun_mk (st := sLawDraw) l5 c5 k5
  have OLawDraw : Own K mg "_law_draw" sLawDraw ["cell", "k", "bound"] := Own.mk' F5 (PySem.W.mg_of X G a5) (F5.binds (ps := ["cell", "k", "bound"]) fun _ _ _ _ _ _ us hl => match us, hl with | [_, _, _], _ => rfl)
  have F6 := fun_mk (st := sLawChainBy) l6 c6 k6
  have OLawChainBy : Own K mg "_law_chain_by" sLawChainBy ["script", "first", "most"] := Own.mk' F6 (PySem.W.mg_of X G a6) (F6.binds (ps := ["script", "first", "most"]) fun _ _ _ _ _ _ us hl => match us, hl with | [_, _, _], _ => rfl)
  have F7 := fun_mk (st := sLawIsChain) l7 c7 k7
  have OLawIsChain : Own K mg "_law_is_chain" sLawIsChain ["chain"] := Own.mk' F7 (PySem.W.mg_of X G a7) (F7.binds (ps := ["chain"]) fun _ _ _ _ _ _ us hl => match us, hl with | [_], _ => rfl)
  have F8 := fun_mk (st := sLawWordOf) l8 c8 k8
  have OLawWordOf : Own K mg "_law_word_of" sLawWordOf ["e"] := Own.mk' F8 (PySem.W.mg_of X G a8) (F8.binds (ps := ["e"]) fun _ _ _ _ _ _ us hl => match us, hl with | [_], _ => rfl)
  have F9 := fun_mk (st := sLawDue) l9 c9 k9
  have OLawDue : Own K mg "_law_due" sLawDue ["text"] := Own.mk' F9 (PySem.W.mg_of X G a9) (F9.binds (ps := ["text"]) fun _ _ _ _ _ _ us hl => match us, hl with | [_], _ => rfl)
  have F10 := fun_mk (st := sLawTold) l10 c10 k10
  have OLawTold : Own K mg "_law_told" sLawTold ["text"] := Own.mk' F10 (PySem.W.mg_of X G a10) (F10.binds (ps := ["text"]) fun _ _ _ _ _ _ us hl => match us, hl with | [_], _ => rfl)
  have F11 := fun_mk (st := sLawSpoilt) l11 c11 k11
  have OLawSpoilt : Own K mg "_law_spoilt" sLawSpoilt ["script", "text"] := Own.mk' F11 (PySem.W.mg_of X G a11) (F11.binds (ps := ["script", "text"]) fun _ _ _ _ _ _ us hl => match us, hl with | [_, _], _ => rfl)
  have F12 := fun_mk (st := sLaw) l12 c12 k12
  have Kd : Kinds K mg (fun i => [eD0, eD1, eD2, eD3, eD4].getD i 0) eS [4] := by
    refine ⟨PySem.W.mg_of X G xg0, PySem.W.mg_of X G xg1, PySem.W.mg_of X G xg2, PySem.W.mg_of X G xg3, PySem.W.mg_of X G xg4, PySem.W.mg_of X G xgS, fun i hi => ?_, fun i hi => ?_⟩
    · simp only [List.mem_cons, List.not_mem_nil, or_false] at hi
      rcases hi with rfl
      · exact ⟨by decide, ClsX.mk' (PySem.W.mg_of X G xg4) xx4 xk4 xb4 xt4 xbS xdS xtS xe4 xhg4 xhk4 xhd4 xha4 xn xt xhm4 xv4⟩
    · simp only [List.mem_cons, List.not_mem_nil, or_false] at hi
      rcases hi with rfl
      · exact kit_five (i := 4) xq40 xq41 xq42 xq43 xq44
  exact ⟨PySem.W.fnOf "law" "law" (defArgs sLaw) (defBody sLaw) (defScope sLaw) .none kV12 dc12 pm12 an12 cd12 ct12, fun s v => .of_eq rfl, fun base _ _ => all_law F12 B Kd OLinkOf OIsChain ONumberOf ORead OLawCellAt OLawDraw OLawChainBy OLawIsChain OLawWordOf OLawDue OLawTold OLawSpoilt⟩
end Fs
open PySem PySem.W PyProof.Rows
set_option maxHeartbeats 0 in
theorem PySem.Challenge.cw_fewsums_k13_read_or_refused_holds : PySem.Challenge.rw_fewsums_k13_read_or_refused.Holds := by
  w_on; o_law; k_head; (case hw => w_witness2)
  k_fill
  refine L2.walk_of (l := PySem.Challenge.rw_fewsums_k13_read_or_refused) (n := 63) (k := 5) (x := "script") (CX := fun _ => L2.CX0) (sp := fun w => Fs.spLaw _) rfl (by decide) rfl ⟨rfl, by decide, by decide⟩ (fun w h Y => PySem.W.kIn_of Y) ?F (fun _ _ a ns hl _ hS => ⟨a, ns, rfl, hS, hl, fun _ => rfl⟩) (fun _ _ _ _ _ h => h)
  case F =>
    intro w mg fa h KX G hmg
    refine' Fs.all_mk KX G hmg ?a0 ?l0 ?c0 ?k0 ?a1 ?l1 ?c1 ?k1 ?a2 ?l2 ?c2 ?k2 ?a3 ?l3 ?c3 ?k3 ?a4 ?l4 ?c4 ?k4 ?a5 ?l5 ?c5 ?k5 ?a6 ?l6 ?c6 ?k6 ?a7 ?l7 ?c7 ?k7 ?a8 ?l8 ?c8 ?k8 ?a9 ?l9 ?c9 ?k9 ?a10 ?l10 ?c10 ?k10 ?a11 ?l11 ?c11 ?k11 ?a12 ?l12 ?c12 ?k12 ?z_len ?z_range ?z_reversed ?z_list ?z_int ?z_str ?z_sum ?z_sorted ?z_isinstance ?z_bool ?z_tuple ?z_min ?z_max ?z_all ?z_ValueError ?g_MOST ?g_FIGURES ?xg0 ?xg1 ?xg2 ?xg3 ?xg4 ?xgS ?xbS ?xdS ?xtS ?xn ?xt ?xx4 ?xk4 ?xb4 ?xt4 ?xe4 ?xhg4 ?xhk4 ?xhd4 ?xha4 ?xhm4 ?xv4 ?xq40 ?xq41 ?xq42 ?xq43 ?xq44
    (case a0 => k_is)
    (case l0 => k_is)
    (case c0 => k_is)
    (case k0 => k_is)
    (case a1 => k_is)
    (case l1 => k_is)
    (case c1 => k_is)
    (case k1 => k_is)
    (case a2 => k_is)
    (case l2 => k_is)
    (case c2 => k_is)
    (case k2 => k_is)
    (case a3 => k_is)
    (case l3 => k_is)
    (case c3 => k_is)
    (case k3 => k_is)
    (case a4 => k_is)
    (case l4 => k_is)
    (case c4 => k_is)
    (case k4 => k_is)
    (case a5 => k_is)
    (case l5 => k_is)
    (case c5 => k_is)
    (case k5 => k_is)
    (case a6 => k_is)
    (case l6 => k_is)
    (case c6 => k_is)
    (case k6 => k_is)
    (case a7 => k_is)
    (case l7 => k_is)
    (case c7 => k_is)
    (case k7 => k_is)
    (case a8 => k_is)
    (case l8 => k_is)
    (case c8 => k_is)
    (case k8 => k_is)
    (case a9 => k_is)
    (case l9 => k_is)
    (case c9 => k_is)
    (case k9 => k_is)
    (case a10 => k_is)
    (case l10 => k_is)
    (case c10 => k_is)
    (case k10 => k_is)
    (case a11 => k_is)
    (case l11 => k_is)
    (case c11 => k_is)
    (case k11 => k_is)
    (case a12 => k_is)
    (case l12 => k_is)
    (case c12 => k_is)
    (case k12 => k_is)
    (case z_len => k_is)
    (case z_range => k_is)
    (case z_reversed => k_is)
    (case z_list => k_is)
    (case z_int => k_is)
    (case z_str => k_is)
    (case z_sum => k_is)
    (case z_sorted => k_is)
    (case z_isinstance => k_is)
    (case z_bool => k_is)
    (case z_tuple => k_is)
    (case z_min => k_is)
    (case z_max => k_is)
    (case z_all => k_is)
    (case z_ValueError => k_is)
    (case g_MOST => k_is)
    (case g_FIGURES => k_is)
    (case xg0 => k_is)
    (case xg1 => k_is)
    (case xg2 => k_is)
    (case xg3 => k_is)
    (case xg4 => k_is)
    (case xgS => k_is)
    (case xbS => k_is)
    (case xdS => k_is)
    (case xtS => k_is)
    (case xn => k_is)
    (case xt => k_is)
    (case xx4 => k_exc)
    (case xk4 => k_is)
    (case xb4 => k_is)
    (case xt4 => k_is)
    (case xe4 => k_is)
    (case xhg4 => k_is)
    (case xhk4 => k_is)
    (case xhd4 => k_is)
    (case xha4 => k_is)
    (case xhm4 => k_is)
    (case xv4 => kit_is)
    (case xq40 => first | kit_is | (unfold PySem.W.kitOne; rfl) | rfl | k_is)
    (case xq41 => first | kit_is | (unfold PySem.W.kitOne; rfl) | rfl | k_is)
    (case xq42 => first | kit_is | (unfold PySem.W.kitOne; rfl) | rfl | k_is)
    (case xq43 => first | kit_is | (unfold PySem.W.kitOne; rfl) | rfl | k_is)
    (case xq44 => first | kit_is | (unfold PySem.W.kitOne; rfl) | rfl | k_is)

