import PyProof.Rows.All
import Wide.All
import OpenK.AllK
import Wide.FinOn
import HandS.ForMost
import HandS.Steps
import HandS.Wide
import HandS.IsInst
import HandS.RevRange
import HandS.Rev
import PySem.Challenge.RW_fewsums_k05_doubling
set_option Elab.async false
set_option linter.all false
set_option maxRecDepth 100000
set_option maxHeartbeats 4000000
/-! ## Words of my own over the hand layer: readings step by step (conclusion: the reading; premises: what is left) -/
namespace Fs
open PySem PySem.Spec PyProof.Rows L2

/-! ### heaps -/
theorem same_new {H : Hp} {p : Addr} {o : HO} (h : H p = none) : Same H (upd H p o) := fun b u q => by rw [upd_ne (ne_of_none q h)]; exact q
theorem same_mut {H H' : Hp} {p : Addr} {o : HO} (e : Same H H') (h : H p = none) : Same H (upd H' p o) := fun a u ha => by
  rw [upd_ne (ne_of_none ha h)]
  exact e a u ha
theorem same_get {H H' : Hp} {a : Addr} {o : HO} (e : Same H H') (h : H a = some o) : H' a = some o := e a o h
theorem get_new {H : Hp} {a p : Addr} {o u : HO} (h : H a = some o) (hp : H p = none) : upd H p u a = some o := by
  rw [upd_ne (ne_of_none h hp)]; exact h
theorem get_ne {H : Hp} {a p : Addr} {o u : HO} (n : a ≠ p) (h : H a = some o) : upd H p u a = some o := by
  rw [upd_ne n]; exact h
theorem none_ne {H : Hp} {a p : Addr} {u : HO} (n : a ≠ p) (h : H a = none) : upd H p u a = none := by
  rw [upd_ne n]; exact h

/-! ### values of lists of ints, by place -/
/-- ns[i] as Python reads it -/
def gi (ns : List Int) (i : Int) : Int := if 0 ≤ i then ns.getD i.toNat 0 else ns.getD (i + ns.length).toNat 0
theorem gi_nat (ns : List Int) (i : Nat) : gi ns (i : Int) = ns.getD i 0 := by
  unfold gi
  rw [if_pos (by omega), Int.toNat_natCast]
theorem gi_nn {ns : List Int} {i : Int} (h : 0 ≤ i) : gi ns i = ns.getD i.toNat 0 := by
  unfold gi
  rw [if_pos h]
theorem gi_last (ns : List Int) (h : ns ≠ []) : gi ns (-1) = ns.getD (ns.length - 1) 0 := by
  have hl : 0 < ns.length := List.length_pos_iff.mpr h
  unfold gi
  rw [if_neg (by omega), show (-1 + (ns.length : Int)).toNat = ns.length - 1 by omega]
theorem getD_get {α : Type} {ns : List α} {i : Nat} (d : α) (h : i < ns.length) : ns[i]? = some (ns.getD i d) := by
  rw [List.getD_eq_getElem?_getD, List.getElem?_eq_getElem h]
  rfl
theorem atI_gi {ns : List Int} {i : Int} (h1 : -(ns.length : Int) ≤ i) (h2 : i < ns.length) : atI (ns.map V.int) i = some (.int (gi ns i)) := by
  unfold atI ixN gi
  rw [List.length_map]
  by_cases h : 0 ≤ i
  · rw [if_pos h, if_pos h2, if_pos h, Option.bind_some, List.getElem?_map, getD_get 0 (by omega)]
    rfl
  · rw [if_neg h, if_pos h1, if_neg h, Option.bind_some, List.getElem?_map, getD_get 0 (by omega)]
    rfl

section
variable {σ : L2.St} {H : Hp} {Q : VK} {K : PySem.W.Frag} {ta tb tc te : TE} {t : TA} {r r' : R2} {tt tu : TT} {QB : Bool → Hp → Prop} {QA : List V → Hp → Prop}
/-! ### expressions -/
theorem e_var {i : Nat} {v : V} (h : σ[i]? = some (some v)) (q : Q v H) : tVar i σ H Q := ⟨v, h, q⟩
theorem e_c {v : V} (q : Q v H) : tC v σ H Q := q
theorem e_op (q : ta σ H fun x H1 => tb σ H1 fun y H2 => r x y H2 Q) : tOp r ta tb σ H Q := q
theorem e_un {g : V → Hp → VK → Prop} (q : ta σ H fun x H1 => g x H1 Q) : tUn g ta σ H Q := q
theorem e_I0 {g : Int → Int → V} {i j : Int} (q : Q (g i j) H) : rI0 g (.int i) (.int j) H Q := ⟨i, j, rfl, rfl, q⟩
theorem e_I {C : Int → Int → Prop} {g : Int → Int → V} {i j : Int} (c : C i j) (q : Q (g i j) H) : rI C g (.int i) (.int j) H Q := ⟨i, j, rfl, rfl, c, q⟩
theorem e_U {g : Int → V} {i : Int} (q : Q (g i) H) : rU g (.int i) H Q := ⟨i, rfl, q⟩
theorem e_eqI {i j : Int} (q : Q (.bl (decide (i = j))) H) : rEq (.int i) (.int j) H Q := ⟨rfl, by
  rw [dec_int, Bool.beq_eq_decide_eq]
  exact q⟩
theorem e_neI {i j : Int} (q : Q (.bl (!decide (i = j))) H) : rNe (.int i) (.int j) H Q := ⟨rfl, by
  rw [dec_int, Bool.beq_eq_decide_eq]
  exact q⟩
theorem e_eqS {i j : Str} (q : Q (.bl (decide (i = j))) H) : rEq (.str i) (.str j) H Q := ⟨rfl, by
  rw [dec_str, Bool.beq_eq_decide_eq]
  exact q⟩
theorem e_neS {i j : Str} (q : Q (.bl (!decide (i = j))) H) : rNe (.str i) (.str j) H Q := ⟨rfl, by
  rw [dec_str, Bool.beq_eq_decide_eq]
  exact q⟩
theorem e_ixI {p : Addr} {ns : List Int} {i : Int} (h : SqL K H p (ns.map V.int)) (h1 : -(ns.length : Int) ≤ i) (h2 : i < ns.length) (q : Q (.int (gi ns i)) H) : rIxL K (.ref p) (.int i) H Q :=
  ⟨p, _, i, _, rfl, rfl, h, atI_gi h1 h2, q⟩
theorem e_ixV {p : Addr} {xs : List V} {i : Int} {v : V} (h : SqL K H p xs) (ha : atI xs i = some v) (q : Q v H) : rIxL K (.ref p) (.int i) H Q := ⟨p, xs, i, v, rfl, rfl, h, ha, q⟩
theorem e_ixT {p : Addr} {xs : List V} {i : Int} {v : V} (h : SqT K H p xs) (ha : atI xs i = some v) (q : Q v H) : rIxT K (.ref p) (.int i) H Q := ⟨p, xs, i, v, rfl, rfl, h, ha, q⟩
theorem e_nil (q : QA [] H) : tNil σ H QA := q
theorem e_cons (q : ta σ H fun x H1 => t σ H1 fun xs H2 => QA (x :: xs) H2) : tCons ta t σ H QA := q
theorem e_lst (q : t σ H fun xs H1 => xs.length ≤ sizeLine ∧ ∀ p, H1 p = none → Q (.ref p) (upd H1 p (.lst xs))) : tLst t σ H Q := q
theorem e_tup (q : t σ H fun xs H1 => xs.length ≤ sizeLine ∧ ∀ p, H1 p = none → Q (.ref p) (upd H1 p (.tup xs))) : tTup t σ H Q := q
theorem e_cb {g : List V → Hp → VK → Prop} (q : t σ H fun vs H1 => g vs H1 Q) : tCB g t σ H Q := q
theorem e_call {sp : Sp} {E : XK} (q : t σ H fun vs H1 => sp vs H1 Q E) : tCall sp [] E t σ H Q := by
  have e : (fun (vs : List V) (H1 : Hp) => sp (vs ++ []) H1 Q E) = fun vs H1 => sp vs H1 Q E := by
    funext vs H1
    rw [List.append_nil]
  show t σ H fun vs H1 => sp (vs ++ []) H1 Q E
  rw [e]
  exact q
theorem e_bm {T : String} {g : V → List V → Hp → VK → Prop} (q : ta σ H fun x H1 => tyV K T x H1 ∧ t σ H1 fun xs H2 => g x xs H2 Q) : tBM K T g ta t σ H Q := q
theorem e_ifx (q : tt σ H fun c H1 => if c = true then ta σ H1 Q else tb σ H1 Q) : tIf tt ta tb σ H Q := q
/-- the library's rules by names -/
def rLn (K : PySem.W.Frag) : List V → Hp → VK → Prop := fun xs H Q => ∃ p ys, xs = [.ref p] ∧ (SqL K H p ys ∨ SqT K H p ys) ∧ Q (.int ys.length) H
theorem f_len {X : Cx} : CallR X (.builtin "len") (rLn X.K) := call_len_seq
def rLnS : List V → Hp → VK → Prop := fun xs H Q => ∃ z, xs = [.str z] ∧ z.length ≤ sizeLine ∧ Q (.int z.length) H
theorem f_lenS {X : Cx} : CallR X (.builtin "len") rLnS := call_len_str
def rLs (K : PySem.W.Frag) : List V → Hp → VK → Prop := fun xs H Q => ∃ p ys, xs = [.ref p] ∧ (SqL K H p ys ∨ SqT K H p ys) ∧ ∀ l, H l = none → Q (.ref l) (upd H l (.lst ys))
theorem f_list {X : Cx} : CallR X (.type "list") (rLs X.K) := call_list_of
def rInt1 : List V → Hp → VK → Prop := fun xs H Q => (∃ i, xs = [.int i] ∧ Q (.int i) H) ∨ ∃ k, xs = [.bl k] ∧ Q (.int (if k then 1 else 0)) H
theorem f_int {X : Cx} : CallR X (.type "int") rInt1 := call_int1
def rStrI : List V → Hp → VK → Prop := fun xs H Q => ∃ i : Int, xs = [.int i] ∧ i.natAbs.log2 < 1920 ∧ Q (.str (toString i)) H
theorem f_str {X : Cx} : CallR X (.type "str") rStrI := call_str_int
def rIntS : List V → Hp → VK → Prop := fun xs H Q => ∃ a n, xs = [.str a] ∧ PySem.intText? a = some n ∧ a.length ≤ 640 ∧ Q (.int n) H
theorem f_intS {X : Cx} : CallR X (.type "int") rIntS := call_int_str
def rMx : List V → Hp → VK → Prop := fun xs H Q => ∃ i j : Int, xs = [.int i, .int j] ∧ Q (.int (if j > i then j else i)) H
theorem f_max {X : Cx} (hc : X.calm = true) : CallR X (.builtin "max") rMx := call_max2 hc
def rMn : List V → Hp → VK → Prop := fun xs H Q => ∃ i j : Int, xs = [.int i, .int j] ∧ Q (.int (if j < i then j else i)) H
theorem f_min {X : Cx} (hc : X.calm = true) : CallR X (.builtin "min") rMn := call_min2 hc
theorem r_len {p : Addr} {ns : List Int} (h : SqL K H p (ns.map V.int)) (q : Q (.int (ns.length : Int)) H) : rLn K [.ref p] H Q :=
  ⟨p, _, rfl, .inl h, by
    rw [List.length_map]
    exact q⟩
theorem r_lenV {p : Addr} {xs : List V} (h : SqL K H p xs) (q : Q (.int (xs.length : Int)) H) : rLn K [.ref p] H Q := ⟨p, _, rfl, .inl h, q⟩
theorem r_lenT {p : Addr} {xs : List V} (h : SqT K H p xs) (q : Q (.int (xs.length : Int)) H) : rLn K [.ref p] H Q := ⟨p, _, rfl, .inr h, q⟩
theorem r_lenS {z : Str} (h : z.length ≤ sizeLine) (q : Q (.int (z.length : Int)) H) : rLnS [.str z] H Q := ⟨z, rfl, h, q⟩
theorem r_list {p : Addr} {xs : List V} (h : SqL K H p xs) (q : ∀ l, H l = none → Q (.ref l) (upd H l (.lst xs))) : rLs K [.ref p] H Q := ⟨p, _, rfl, .inl h, q⟩
theorem r_intB {b : Bool} (q : Q (.int (if b then 1 else 0)) H) : rInt1 [.bl b] H Q := .inr ⟨b, rfl, q⟩
theorem r_str {i : Int} (h : i.natAbs.log2 < 1920) (q : Q (.str (toString i)) H) : rStrI [.int i] H Q := ⟨i, rfl, h, q⟩
theorem r_intS {a : Str} {n : Int} (h : PySem.intText? a = some n) (hl : a.length ≤ 640) (q : Q (.int n) H) : rIntS [.str a] H Q := ⟨a, n, rfl, h, hl, q⟩
theorem r_max {i j : Int} (q : Q (.int (if j > i then j else i)) H) : rMx [.int i, .int j] H Q := ⟨i, j, rfl, q⟩
theorem r_min {i j : Int} (q : Q (.int (if j < i then j else i)) H) : rMn [.int i, .int j] H Q := ⟨i, j, rfl, q⟩
theorem r_isN {x : V} (q : Q (.bl (decide (x = .non))) H) : rIsN x .non H Q := ⟨rfl, q⟩
theorem r_notN {x : V} (q : Q (.bl (!decide (x = .non))) H) : rNotN x .non H Q := ⟨rfl, q⟩
/-! ### tests -/
theorem t_test (q : te σ H fun x H1 => ∃ k, x = .bl k ∧ QB k H1) : tTest te σ H QB := q
theorem t_B (q : te σ H fun x H1 => ∃ k, x = .bl k ∧ QB k H1) : tB te σ H QB := q
theorem t_bl {b : Bool} (q : QB b H) : ∃ k, V.bl b = .bl k ∧ QB k H := ⟨b, rfl, q⟩
theorem t_bl' {b : Bool} {R : Bool → Prop} (q : R b) : ∃ k, V.bl b = .bl k ∧ R k := ⟨b, rfl, q⟩
theorem e_andV (q : ta σ H fun x H1 => ∃ c, x = .bl c ∧ if c = true then tb σ H1 Q else Q (.bl false) H1) : tAndV ta tb σ H Q := q
theorem e_orV (q : ta σ H fun x H1 => ∃ c, x = .bl c ∧ if c = true then Q (.bl true) H1 else tb σ H1 Q) : tOrV ta tb σ H Q := q
theorem e_notV (q : ta σ H fun x H1 => ∃ c, x = .bl c ∧ Q (.bl (!c)) H1) : tNotV ta σ H Q := q
theorem e_chain (q : ta σ H fun x H1 => tb σ H1 fun y H2 => r x y H2 fun z H3 => ∃ k, z = .bl k ∧ (if k = true then tc σ H3 fun w' H4 => r' y w' H4 Q else Q (.bl false) H3)) : tChain r r' ta tb tc σ H Q := q
/-- a test that leaves the heap -/
theorem n_or {a b : Bool} (h1 : Ans tt σ H a) (h2 : a = false → Ans tu σ H b) : Ans (tOr tt tu) σ H (a || b) := by
  cases a with
  | true => exact ans_or1 h1
  | false => exact ans_or h1 (h2 rfl)
theorem n_and {a b : Bool} (h1 : Ans tt σ H a) (h2 : a = true → Ans tu σ H b) : Ans (tAnd tt tu) σ H (a && b) := by
  cases a with
  | true => exact ans_and h1 (h2 rfl)
  | false => exact ans_and0 h1
theorem n_not {a : Bool} (h1 : Ans tt σ H a) : Ans (tNot tt) σ H (!a) := ans_not h1
theorem n_of {b : Bool} (h : ∀ Q : Bool → Hp → Prop, Q b H → tt σ H Q) : Ans tt σ H b := h
/-- a < b < c, as a test that leaves the heap -/
theorem n_chain {x y z : V} {a b : Bool} (ha : Val ta σ H x) (hb : Val tb σ H y) (hr : ∀ Q : VK, Q (.bl a) H → r x y H Q) (hc : a = true → Val tc σ H z) (hr' : a = true → ∀ Q : VK, Q (.bl b) H → r' y z H Q) : Ans (tTest (tChain r r' ta tb tc)) σ H (a && b) := by
  intro Q q
  refine ha _ (hb _ (hr _ ⟨a, rfl, ?_⟩))
  cases a with
  | true =>
    show tc σ H _
    exact hc rfl _ (hr' rfl _ ⟨b, rfl, q⟩)
  | false =>
    show ∃ k, V.bl false = .bl k ∧ Q k H
    exact ⟨false, rfl, q⟩

/-! ### statements: what follows is a written record -/
variable {n bk ct : L2.St → Hp → Prop} {rt : VK} {u w : TS} {g : TG}
theorem s_seq {s1 : TS} (q : s1 ⟨u ⟨n, rt, bk, ct⟩, rt, bk, ct⟩ σ H) : tSeq s1 u ⟨n, rt, bk, ct⟩ σ H := q
theorem s_asg (q : te σ H fun x H1 => g x σ H1 n) : tAsg te g ⟨n, rt, bk, ct⟩ σ H := q
theorem g_name {i : Nat} {v : V} {Q : L2.St → Hp → Prop} (q : Q (σ.set i (some v)) H) : gName i v σ H Q := q
theorem g_sub {ta tb : TE} {t : TSet} {v : V} {Q : L2.St → Hp → Prop} (q : ta σ H fun o H1 => tb σ H1 fun i H2 => t o i v H2 fun H3 => Q σ H3) : gSub ta tb t v σ H Q := q
theorem s_ret (q : te σ H rt) : tRet te ⟨n, rt, bk, ct⟩ σ H := q
theorem s_drop (q : te σ H fun _ H1 => n σ H1) : tDrop te ⟨n, rt, bk, ct⟩ σ H := q
theorem s_next (q : n σ H) : tNext ⟨n, rt, bk, ct⟩ σ H := q
theorem s_ifs (q : tt σ H fun b H1 => if b = true then u ⟨n, rt, bk, ct⟩ σ H1 else w ⟨n, rt, bk, ct⟩ σ H1) : tIfS tt u w ⟨n, rt, bk, ct⟩ σ H := q
/-- an if whose test leaves the heap -/
theorem s_if {b : Bool} (h : Ans tt σ H b) (h1 : b = true → u ⟨n, rt, bk, ct⟩ σ H) (h2 : b = false → w ⟨n, rt, bk, ct⟩ σ H) : tIfS tt u w ⟨n, rt, bk, ct⟩ σ H := by
  refine h _ ?_
  cases b with
  | true => exact h1 rfl
  | false => exact h2 rfl
/-- a statement, then the rest, with a word between them -/
def tMid (t u : TS) : TS := fun D σ H => ∃ M : L2.St → Hp → Prop, t { D with nx := M } σ H ∧ ∀ σ2 H2, M σ2 H2 → u D σ2 H2
theorem s_cut {s1 : TS} (Mid : L2.St → Hp → Prop) (h1 : s1 ⟨Mid, rt, bk, ct⟩ σ H) (h2 : ∀ σ' H', Mid σ' H' → u ⟨n, rt, bk, ct⟩ σ' H') : tMid s1 u ⟨n, rt, bk, ct⟩ σ H := ⟨Mid, h1, h2⟩
theorem s_for1 {x : Int} {k : Nat} (Pv : Nat → L2.St → Hp → Prop) (hk : x.toNat = k) (hb : x < 2 ^ 62) (ht : ∀ Q : List V → Hp → Prop, Q [.int x] H → t σ H Q) (hx : -(2 ^ 62) ≤ x) (h0 : Pv 0 σ H)
    (hs : ∀ (i : Nat) σ' H', i < k → Pv i σ' H' → g (.int (i : Int)) σ' H' fun σ2 H2 => u ⟨Pv (i + 1), rt, n, Pv (i + 1)⟩ σ2 H2) (hd : ∀ σ' H', Pv k σ' H' → n σ' H') : tFor (iRng1 t) g u ⟨n, rt, bk, ct⟩ σ H := by
  subst hk
  refine ht _ ⟨x, rfl, hx, hb, ?_⟩
  refine for_range (lo := 0) Pv h0 (fun i σ' H' hi hp => ?_) hd
  have q := hs i σ' H' hi hp
  rw [show (i : Int) = 0 + (i : Int) by omega] at q
  exact q
theorem s_for2 {a b : Int} {k : Nat} (Pv : Nat → L2.St → Hp → Prop) (hk : (b - a).toNat = k) (ht : ∀ Q : List V → Hp → Prop, Q [.int a, .int b] H → t σ H Q) (hb : (-(2 ^ 62) ≤ a ∧ a < 2 ^ 62) ∧ -(2 ^ 62) ≤ b ∧ b < 2 ^ 62) (h0 : Pv 0 σ H)
    (hs : ∀ (i : Nat) σ' H', i < k → Pv i σ' H' → g (.int (a + (i : Int))) σ' H' fun σ2 H2 => u ⟨Pv (i + 1), rt, n, Pv (i + 1)⟩ σ2 H2) (hd : ∀ σ' H', Pv k σ' H' → n σ' H') : tFor (iRng2 t) g u ⟨n, rt, bk, ct⟩ σ H := by
  subst hk
  refine ht _ ⟨a, b, rfl, ⟨hb.1.1, hb.1.2, hb.2.1, hb.2.2⟩, ?_⟩
  exact for_range (lo := a) Pv h0 hs hd
end

/-! ### defs -/
/-- a def of the text as it stands behind the top -/
structure Own (K : PySem.W.Frag) (mg : Str → Option Value) (x : Str) (st : Stmt) (ps : List Str) : Prop where
  ex : ∃ f fd, Fun K x x st f fd ∧ mg x = some (.ref f) ∧ Binds K fd ps []
/-- a def that keeps its promise -/
structure Cal (P : Program) (w : World) (K : PySem.W.Frag) (mg : Str → Option Value) (base : Heap) (CX : CXT) (k : Nat) (x : Str) (ps : List Str) (sp : Sp) : Prop where
  ex : ∃ f fd, FnOk P w K mg base CX k f fd ps sp ∧ mg x = some (.ref f) ∧ PySem.W.keepIn K (.ref f) = true ∧ Binds K fd ps []
theorem Own.mk' {K : PySem.W.Frag} {mg : Str → Option Value} {x : Str} {st : Stmt} {ps : List Str} {f : Addr} {fd : FuncData} (F : Fun K x x st f fd) (g : mg x = some (.ref f)) (b : Binds K fd ps []) : Own K mg x st ps := ⟨f, fd, F, g, b⟩
theorem Cal.mono {P : Program} {w : World} {K : PySem.W.Frag} {mg : Str → Option Value} {base : Heap} {CX : CXT} {j k : Nat} {x : Str} {ps : List Str} {sp : Sp} (G : Cal P w K mg base CX j x ps sp) (h : j ≤ k) : Cal P w K mg base CX k x ps sp := by
  obtain ⟨f, fd, F, g, kp, b⟩ := G.ex
  exact ⟨f, fd, F.mono h, g, kp, b⟩
theorem Cal.imp {P : Program} {w : World} {K : PySem.W.Frag} {mg : Str → Option Value} {base : Heap} {CX : CXT} {k : Nat} {x : Str} {ps : List Str} {sp sp' : Sp} (G : Cal P w K mg base CX k x ps sp) (h : ∀ vs H Q E, sp' vs H Q E → sp vs H Q E) : Cal P w K mg base CX k x ps sp' := by
  obtain ⟨f, fd, F, g, kp, b⟩ := G.ex
  exact ⟨f, fd, F.imp h, g, kp, b⟩
section
variable {P : Program} {w : World} {K : PySem.W.Frag} {mg : Str → Option Value} {base : Heap}
theorem Own.ok {x : Str} {st : Stmt} {N ps : List Str} {k : Nat} {sp : Sp} (F : Own K mg x st ps) (S : FnScope N ps (defScope st)) (len : ∀ vs H Q E, sp vs H Q E → vs.length = ps.length)
    (hbody : ∀ (f : Addr) (cdv : Value) (A : Around) (outer : List Env) (s : Shared) (H : Hp) (vs : List V) (Q : VK) (E : XK), Room k (A.deeper (envOfC x (defScope st) s.heap.objs.size f cdv)) → sp vs H Q E →
      ∃ t, PSs (cxOf CX0 P w K mg base N x (defScope st) f cdv A outer s H E).nox (defBody st) t ∧ t ⟨fun _ H' => Q .non H', Q, fun _ _ => False, fun _ _ => False⟩ (start N vs) H) : Cal P w K mg base CX0 (k + 1) x ps sp := by
  obtain ⟨f, fd, F, g, b⟩ := F.ex
  exact ⟨f, fd, F.ok S len (hbody f), g, F.kp, b⟩
end
section
variable {X : Cx} {CX : CXT} {k : Nat} {ps : List Str} {sp : Sp} {E : XK} {x : Str} {p pos : Pos} {e : Expr} {es : List Expr} {t : TA}
theorem pe_cal (G : Cal X.prog X.w X.K X.mg X.base CX k x ps sp) (hr : Room k X.A) (hx : Passes CX X E) (hg : Gl X x) (ha : PA X (e :: es) t) (hdb : (x == ("__debug__" : Str)) = false := by decide)
    (he : starEach (e :: es) X.env = (false, eval e X.env) :: starEach es X.env := by rfl) (hpl : (backTo pos (starEach es X.env)).any (·.1) = false := by rfl) :
    PE X (.Call (.Name x p) (e :: es) [] pos) (tCall sp [] E t) := by
  obtain ⟨f, fd, F, g, kp, b⟩ := G.ex
  exact pe_call F hr hg g kp b .nil hx ha hdb he hpl
theorem pe_const {x : Str} {v : Int} {pos : Pos} (h : ∃ t, X.mg x = some (.int v t)) (hg : Gl X x) (hd : (x == ("__debug__" : Str)) = false := by decide) : PE X (.Name x pos) (tC (.int v)) := by
  obtain ⟨t, e⟩ := h
  exact pe_glob hg e ⟨t, rfl⟩ hd
theorem pe_constS {x v : Str} {pos : Pos} (h : ∃ t, X.mg x = some (.str v t)) (hg : Gl X x) (hd : (x == ("__debug__" : Str)) = false := by decide) : PE X (.Name x pos) (tC (.str v)) := by
  obtain ⟨t, e⟩ := h
  exact pe_glob hg e ⟨t, rfl⟩ hd
/-- a statement, then the rest, what holds between them told -/
theorem pss_mid {st : Stmt} {rest : List Stmt} {t u : TS} (h1 : PS X st t) (h2 : PSs X rest u) : PSs X (st :: rest) (tMid t u) := by
  refine ⟨fun pins s σ H D I h => ?_⟩
  obtain ⟨M, hm, hu⟩ := h
  refine wpAny_execs_cons (thn (h1.run pins s σ H ⟨M, D.rt, D.bk, D.ct⟩ I hm) fun fl s1 q => ?_)
  cases fl with
  | next =>
    obtain ⟨σ2, H2, I2, q2⟩ := q
    exact h2.run pins s1 σ2 H2 D I2 (hu σ2 H2 q2)
  | brk => exact q
  | cont => exact q
  | ret v => exact q
end
end Fs
/-! ## list comprehensions, by what the list holds after so many turns -/
namespace Fs
open PySem PySem.Spec PyProof.Rows L2
/-- as it was, but at one place -/
def But (D : Addr) (H H' : Hp) : Prop := ∀ b o, b ≠ D → H b = some o → H' b = some o
theorem But.of {D : Addr} {H H' : Hp} (e : Same H H') : But D H H' := fun b o _ h => e b o h
theorem small5 {n : Nat} (h : n ≤ 100000) : n < sizeLine := Nat.lt_of_le_of_lt h (by decide)
section
variable {σ : L2.St} {H : Hp} {Q : VK} {K : PySem.W.Frag} {tl te : TE} {ta : TA} {tt : TT} {vs : List Nat} {j : Nat}
/-- the turns of a comprehension whose list holds what R says -/
def LcW (R : Addr → Nat → List V → Hp → Prop) (H : Hp) (D : Addr) (i : Nat) (H' : Hp) : Prop := H D = none ∧ Same H H' ∧ ∃ acc, H' D = some (.lst acc) ∧ acc.length ≤ i ∧ R D i acc H'
/-- one turn -/
def LcT (R : Addr → Nat → List V → Hp → Prop) (H : Hp) (tt : TT) (te : TE) (σ : L2.St) (i : Nat) : Prop := ∀ (D : Addr) (acc : List V) (H' : Hp) (K1 : VK) (K0 : Hp → Prop), H D = none → Same H H' → H' D = some (.lst acc) → R D i acc H' →
  (∀ y H2, Same H' H2 → R D (i + 1) (acc ++ [y]) H2 → K1 y H2) → (∀ H2, Same H' H2 → R D (i + 1) acc H2 → K0 H2) → tt σ H' fun b H3 => if b = true then te σ H3 K1 else K0 H3
theorem lc_turn {R : Addr → Nat → List V → Hp → Prop} (mono : ∀ D i acc H1 H2, H D = none → But D H1 H2 → R D i acc H1 → R D i acc H2) {D : Addr} {i : Nat} {H' : Hp} (hi : i < 100000) (hT : LcT R H tt te σ i) (hW : LcW R H D i H') :
    tt σ H' fun b H3 => if b = true then te σ H3 fun y H4 => ∃ acc, H4 D = some (.lst acc) ∧ acc.length < sizeLine ∧ LcW R H D (i + 1) (upd H4 D (.lst (acc ++ [y]))) else LcW R H D (i + 1) H3 := by
  obtain ⟨hD, hS, acc, hacc, hlen, hR⟩ := hW
  refine hT D acc H' (fun y H4 => ∃ acc, H4 D = some (.lst acc) ∧ acc.length < sizeLine ∧ LcW R H D (i + 1) (upd H4 D (.lst (acc ++ [y])))) (LcW R H D (i + 1)) hD hS hacc hR (fun y H2 e hR2 => ?_) (fun H2 e hR2 => ?_)
  · refine ⟨acc, e _ _ hacc, small5 (by omega), hD, same_mut (hS.trans e) hD, acc ++ [y], upd_same, ?_, ?_⟩
    · rw [List.length_append, List.length_singleton]
      omega
    · exact mono D (i + 1) (acc ++ [y]) H2 _ hD (fun b o hb h => by rw [upd_ne hb]; exact h) hR2
  · exact ⟨hD, hS.trans e, acc, e _ _ hacc, by omega, hR2⟩
theorem e_lcL {a : Addr} {xs : List V} (R : Addr → Nat → List V → Hp → Prop) (ha : ∀ Q : VK, Q (.ref a) H → tl σ H Q) (hx : SqL K H a xs) (hz : xs.length ≤ 100000) (h0 : ∀ D, H D = none → R D 0 [] H)
    (mono : ∀ D i acc H1 H2, H D = none → But D H1 H2 → R D i acc H1 → R D i acc H2) (hw : ∀ x, wipe ((wipe σ vs).set j (some x)) vs = wipe σ vs)
    (hs : ∀ i x, xs[i]? = some x → LcT R H tt te ((wipe σ vs).set j (some x)) i) (hd : ∀ D acc H', H D = none → Same H H' → H' D = some (.lst acc) → R D xs.length acc H' → Q (.ref D) H') : tLc (iList K tl) (gName j) tt te vs σ H Q := by
  refine ha _ ⟨a, rfl, ⟨xs, hx⟩, fun D hD => ?_⟩
  refine lc_list (xs := xs) (LcW R H D) ⟨hD, same_new hD, [], upd_same, Nat.zero_le _, mono D 0 [] H _ hD (fun b o hb h => by rw [upd_ne hb]; exact h) (h0 D hD)⟩ (fun i H' _ hW => hW.2.1.seq hx) (fun i x H' hi hW => ⟨hw x, ?_⟩) (fun H' hW => ?_)
  · have hl := (List.getElem?_eq_some_iff.mp hi).1
    exact lc_turn mono (by omega) (hs i x hi) hW
  · obtain ⟨_, hS, acc, hacc, _, hR⟩ := hW
    exact hd D acc H' hD hS hacc hR
theorem e_lcR1 {n : Int} {k : Nat} (R : Addr → Nat → List V → Hp → Prop) (hk : n.toNat = k) (ha : ∀ Q : List V → Hp → Prop, Q [.int n] H → ta σ H Q) (hz : -100000 ≤ n ∧ n ≤ 100000) (h0 : ∀ D, H D = none → R D 0 [] H)
    (mono : ∀ D i acc H1 H2, H D = none → But D H1 H2 → R D i acc H1 → R D i acc H2) (hw : ∀ x, wipe ((wipe σ vs).set j (some x)) vs = wipe σ vs)
    (hs : ∀ i : Nat, i < k → LcT R H tt te ((wipe σ vs).set j (some (.int (i : Int)))) i) (hd : ∀ D acc H', H D = none → Same H H' → H' D = some (.lst acc) → R D k acc H' → Q (.ref D) H') : tLc (iRng1 ta) (gName j) tt te vs σ H Q := by
  subst hk
  refine ha _ ⟨n, rfl, by omega, by omega, fun D hD => ?_⟩
  refine lc_range (lo := 0) (LcW R H D) ⟨hD, same_new hD, [], upd_same, Nat.zero_le _, mono D 0 [] H _ hD (fun b o hb h => by rw [upd_ne hb]; exact h) (h0 D hD)⟩ (fun i H' hi hW => ?_) (fun H' hW => ?_)
  · rw [show (0 : Int) + (i : Int) = (i : Int) by omega]
    exact ⟨hw _, lc_turn mono (by omega) (hs i hi) hW⟩
  · obtain ⟨_, hS, acc, hacc, _, hR⟩ := hW
    exact hd D acc H' hD hS hacc hR
theorem e_lcR2 {a b : Int} {k : Nat} (R : Addr → Nat → List V → Hp → Prop) (hk : (b - a).toNat = k) (ha : ∀ Q : List V → Hp → Prop, Q [.int a, .int b] H → ta σ H Q) (hz : (-100000 ≤ a ∧ a ≤ 100000) ∧ -100000 ≤ b ∧ b ≤ 100000) (hk1 : k ≤ 100000) (h0 : ∀ D, H D = none → R D 0 [] H)
    (mono : ∀ D i acc H1 H2, H D = none → But D H1 H2 → R D i acc H1 → R D i acc H2) (hw : ∀ x, wipe ((wipe σ vs).set j (some x)) vs = wipe σ vs)
    (hs : ∀ i : Nat, i < k → LcT R H tt te ((wipe σ vs).set j (some (.int (a + (i : Int))))) i) (hd : ∀ D acc H', H D = none → Same H H' → H' D = some (.lst acc) → R D k acc H' → Q (.ref D) H') : tLc (iRng2 ta) (gName j) tt te vs σ H Q := by
  subst hk
  refine ha _ ⟨a, b, rfl, ⟨by omega, by omega, by omega, by omega⟩, fun D hD => ?_⟩
  refine lc_range (lo := a) (LcW R H D) ⟨hD, same_new hD, [], upd_same, Nat.zero_le _, mono D 0 [] H _ hD (fun b o hb h => by rw [upd_ne hb]; exact h) (h0 D hD)⟩ (fun i H' hi hW => ⟨hw _, lc_turn mono (by omega) (hs i hi) hW⟩) (fun H' hW => ?_)
  obtain ⟨_, hS, acc, hacc, _, hR⟩ := hW
  exact hd D acc H' hD hS hacc hR
/-! the list is told ahead: after i turns it holds G i -/
def LcG (G : Nat → List V) : Addr → Nat → List V → Hp → Prop := fun _ i acc _ => acc = G i
theorem lcg_mono {G : Nat → List V} : ∀ D i acc H1 H2, H D = none → But D H1 H2 → LcG G D i acc H1 → LcG G D i acc H2 := fun _ _ _ _ _ _ _ h => h
/-- a turn that keeps its item always -/
theorem lct_yes {G : Nat → List V} {i : Nat} {y : V} (hG : G (i + 1) = G i ++ [y]) (h : ∀ H' (K1 : VK), Same H H' → (∀ H2, Same H' H2 → K1 y H2) → te σ H' K1) : LcT (LcG G) H tYes te σ i := fun D acc H' K1 K0 hD hS hacc hR k1 k0 => by
  show if true = true then te σ H' K1 else K0 H'
  rw [if_pos rfl]
  exact h H' K1 hS fun H2 e => k1 y H2 e (by rw [show acc = G i from hR]; exact hG.symm)
end
end Fs
/-! ## loops, by a word of the turn; a while by a word and a number that falls -/
namespace Fs
open PySem PySem.Spec PyProof.Rows L2
section
variable {σ : L2.St} {H : Hp} {K : PySem.W.Frag} {tl ta tb : TE} {t : TA} {tt : TT} {n bk ct : L2.St → Hp → Prop} {rt : VK} {u : TS} {g : TG}
theorem s_forL {a : Addr} {xs : List V} (Pv : Nat → L2.St → Hp → Prop) (ha : ∀ Q : VK, Q (.ref a) H → tl σ H Q) (hx : SqL K H a xs) (h0 : Pv 0 σ H) (hl : ∀ i σ' H', Pv i σ' H' → SqL K H' a xs)
    (hs : ∀ (i : Nat) x σ' H', xs[i]? = some x → Pv i σ' H' → g x σ' H' fun σ2 H2 => u ⟨Pv (i + 1), rt, n, Pv (i + 1)⟩ σ2 H2) (hd : ∀ σ' H', Pv xs.length σ' H' → n σ' H') : tFor (iList K tl) g u ⟨n, rt, bk, ct⟩ σ H :=
  ha _ ⟨a, rfl, ⟨xs, hx⟩, for_list Pv h0 (fun i σ' H' _ h => hl i σ' H' h) hs hd⟩
theorem s_forRev {a : Addr} {xs : List V} (Pv : Nat → L2.St → Hp → Prop) (ha : ∀ Q : List V → Hp → Prop, Q [.ref a] H → t σ H Q) (hx : SqL K H a xs) (h0 : Pv 0 σ H) (hl : ∀ i σ' H', Pv i σ' H' → SqL K H' a xs)
    (hs : ∀ (i : Nat) x σ' H', i < xs.length → xs[xs.length - 1 - i]? = some x → Pv i σ' H' → g x σ' H' fun σ2 H2 => u ⟨Pv (i + 1), rt, n, Pv (i + 1)⟩ σ2 H2) (hd : ∀ σ' H', Pv xs.length σ' H' → n σ' H') : tFor (iRev K t) g u ⟨n, rt, bk, ct⟩ σ H :=
  ha _ ⟨a, xs, rfl, hx, RT.for_Itv Pv h0 hl hs hd⟩
theorem s_forRR {tr : L2.St → Hp → (Int → Int → Hp → Prop) → Prop} {a b : Int} {k : Nat} (Pv : Nat → L2.St → Hp → Prop) (hk : (b - a).toNat = k) (ha : ∀ Q : Int → Int → Hp → Prop, Q a b H → tr σ H Q) (hb : (-100000 ≤ a ∧ a ≤ 100000) ∧ -100000 ≤ b ∧ b ≤ 100000) (h0 : Pv 0 σ H)
    (hs : ∀ (i : Nat) σ' H', i < k → Pv i σ' H' → g (.int (a + ((k - 1 - i : Nat) : Int))) σ' H' fun σ2 H2 => u ⟨Pv (i + 1), rt, n, Pv (i + 1)⟩ σ2 H2) (hd : ∀ σ' H', Pv k σ' H' → n σ' H') : tFor (iRevR tr) g u ⟨n, rt, bk, ct⟩ σ H := by
  subst hk
  refine ha _ ⟨by omega, by omega, by omega, by omega, ?_⟩
  refine for_rangeC Pv h0 (fun i σ' H' hi hp => ?_) hd
  have q := hs i σ' H' hi hp
  rw [show a + (((b - a).toNat - 1 - i : Nat) : Int) = a + (((b - a).toNat : Nat) : Int) - 1 + (i : Nat) * (-1) by omega] at q
  exact q
theorem prg1_of {x : Int} {Q : Int → Int → Hp → Prop} (h : ta σ H fun v H1 => ∃ m, v = .int m ∧ Q 0 m H1) : tRg1 ta σ H Q := h
theorem prg2_of {Q : Int → Int → Hp → Prop} (h : ta σ H fun x H1 => tb σ H1 fun y H2 => ∃ i j, x = .int i ∧ y = .int j ∧ Q i j H2) : tRg2 ta tb σ H Q := h
theorem rg_int {i : Int} {R : Int → Prop} (q : R i) : ∃ m, V.int i = .int m ∧ R m := ⟨i, rfl, q⟩
theorem rg_ints {i j : Int} {R : Int → Int → Prop} (q : R i j) : ∃ a b, V.int i = .int a ∧ V.int j = .int b ∧ R a b := ⟨i, j, rfl, rfl, q⟩
theorem s_forS {z : Str} (Pv : Nat → L2.St → Hp → Prop) (ha : ∀ Q : VK, Q (.str z) H → tl σ H Q) (h0 : Pv 0 σ H)
    (hs : ∀ (i : Nat) c σ' H', z.cps[i]? = some c → Pv i σ' H' → g (.str ⟨#[c]⟩) σ' H' fun σ2 H2 => u ⟨Pv (i + 1), rt, n, Pv (i + 1)⟩ σ2 H2) (hd : ∀ σ' H', Pv z.cps.size σ' H' → n σ' H') : tFor (iStr tl) g u ⟨n, rt, bk, ct⟩ σ H := by
  refine ha _ ⟨z, rfl, fun i m σ' H' => m = z.cps.size - i ∧ i ≤ z.cps.size ∧ Pv i σ' H', ⟨z.cps.size, rfl, Nat.zero_le _, h0⟩, ?_⟩
  rintro i m σ' H' ⟨rfl, hi, hp⟩
  by_cases hlt : i < z.cps.size
  · refine .inr ⟨hlt, Pv (i + 1), fun σ2 H2 hp2 => ⟨z.cps.size - (i + 1), by omega, rfl, hlt, hp2⟩, fun x H2 hy => ?_⟩
    obtain ⟨rfl, c, hc, rfl⟩ := hy
    exact hs i c σ' _ hc hp
  · have e : i = z.cps.size := by omega
    subst e
    exact .inl ⟨Nat.le_refl _, hd σ' H' hp⟩
/-- a while's turn -/
structure WT (W : Nat → L2.St → Hp → Prop) (tt : TT) (u : TS) (n : L2.St → Hp → Prop) (rt : VK) (m : Nat) (σ : L2.St) (H : Hp) : Prop where
  turn : tt σ H fun b H1 => if b = true then ∃ N : L2.St → Hp → Prop, (∀ σ2 H2, N σ2 H2 → ∃ m', m' < m ∧ W m' σ2 H2) ∧ u ⟨N, rt, n, N⟩ σ H1 else n σ H1
theorem wt_of {W : Nat → L2.St → Hp → Prop} {m : Nat} {b : Bool} (h : Ans tt σ H b) (h1 : b = true → u ⟨fun σ2 H2 => ∃ m', m' < m ∧ W m' σ2 H2, rt, n, fun σ2 H2 => ∃ m', m' < m ∧ W m' σ2 H2⟩ σ H) (h2 : b = false → n σ H) : WT W tt u n rt m σ H := by
  refine ⟨h _ ?_⟩
  cases b with
  | true => exact ⟨_, fun _ _ z => z, h1 rfl⟩
  | false => exact h2 rfl
theorem s_while (W : Nat → L2.St → Hp → Prop) (m0 : Nat) (h0 : W m0 σ H) (hs : ∀ m σ' H', W m σ' H' → WT W tt u n rt m σ' H') : tWhile tt u ⟨n, rt, bk, ct⟩ σ H :=
  ⟨W, ⟨m0, h0⟩, fun m σ' H' hw => (hs m σ' H' hw).turn⟩
/-- l.append(e), l.clear() -/
theorem m_append {l : Addr} {xs : List V} {y : V} {Q : VK} (h : H l = some (.lst xs)) (hz : xs.length < 100000) (q : Q .non (upd H l (.lst (xs ++ [y])))) : rAppend (.ref l) [y] H Q := ⟨l, xs, y, rfl, rfl, h, Nat.lt_of_lt_of_le hz (by decide), q⟩
theorem m_appendI {l : Addr} {ns : List Int} {y : Int} {Q : VK} (h : H l = some (.lst (ns.map V.int))) (hz : ns.length < 100000) (q : Q .non (upd H l (.lst ((ns ++ [y]).map V.int)))) : rAppend (.ref l) [.int y] H Q :=
  m_append h (by rw [List.length_map]; exact hz) (by rw [List.map_append] at q; exact q)
theorem m_clear {l : Addr} {xs : List V} {Q : VK} (h : H l = some (.lst xs)) (q : Q .non (upd H l (.lst []))) : rClear (.ref l) [] H Q := ⟨l, xs, rfl, rfl, h, q⟩
theorem m_bm {g : V → List V → Hp → VK → Prop} {l : Addr} {xs : List V} {Q : VK} (h : SqL K H l xs) (q : t σ H fun xs H2 => g (.ref l) xs H2 Q) : tyV K "list" (.ref l) H ∧ t σ H fun xs H2 => g (.ref l) xs H2 Q := ⟨.inl ⟨rfl, _, h⟩, q⟩
theorem m_bm0 {g : V → List V → Hp → VK → Prop} {l : Addr} {xs : List V} {Q : VK} (h : SqL K H l xs) (q : g (.ref l) [] H Q) : tyV K "list" (.ref l) H ∧ g (.ref l) [] H Q := ⟨.inl ⟨rfl, _, h⟩, q⟩
theorem e_bm0 {T : String} {g : V → List V → Hp → VK → Prop} {Q : VK} (q : ta σ H fun x H1 => tyV K T x H1 ∧ g x [] H1 Q) : tBM0 K T g ta σ H Q := q
theorem le_line {n : Nat} (h : n ≤ 100000) : n ≤ sizeLine := Nat.le_of_lt (small5 h)
theorem le_one {x : V} : [x].length ≤ sizeLine := le_line (by decide : 1 ≤ 100000)
theorem le_two {x y : V} : [x, y].length ≤ sizeLine := le_line (by decide : 2 ≤ 100000)
theorem r_catI {a b : Addr} {ns ms : List Int} {Q : VK} (h1 : H a = some (.lst (ns.map V.int))) (h2 : H b = some (.lst (ms.map V.int))) (hz : ns.length + ms.length ≤ 100000) (q : ∀ p, H p = none → Q (.ref p) (upd H p (.lst ((ns ++ ms).map V.int)))) : rCat (.ref a) (.ref b) H Q :=
  ⟨a, b, _, _, rfl, rfl, h1, h2, by
    rw [List.length_map, List.length_map]
    exact le_line hz, fun p hp => by
    rw [← List.map_append]
    exact q p hp⟩
theorem r_cat {a b : Addr} {xs ys : List V} {Q : VK} (h1 : H a = some (.lst xs)) (h2 : H b = some (.lst ys)) (hz : xs.length + ys.length ≤ sizeLine) (q : ∀ p, H p = none → Q (.ref p) (upd H p (.lst (xs ++ ys)))) : rCat (.ref a) (.ref b) H Q := ⟨a, b, xs, ys, rfl, rfl, h1, h2, hz, q⟩
end
end Fs
/-! ## two lists of ints compared; whole tests with calls in them -/
namespace Fs
open PySem PySem.Spec PyProof.Rows L2
theorem eqv_ints : ∀ ns ms : List Int, PyData.eqvAll (ns.map PyData.int) (ms.map PyData.int) = decide (ns = ms)
  | [], [] => by simp [PyData.eqvAll]
  | [], _ :: _ => by simp [PyData.eqvAll]
  | _ :: _, [] => by simp [PyData.eqvAll]
  | a :: r, b :: t => by
    simp only [List.map_cons, PyData.eqvAll, PyData.eqv, eqv_ints r t]
    by_cases h : a = b <;> by_cases h2 : r = t <;> simp [h, h2]
theorem lay_ints : ∀ ns : List Int, PyData.canLayAll0 (ns.map PyData.int) = true
  | [] => rfl
  | _ :: r => by simp [PyData.canLayAll0, PyData.canLay0, lay_ints r]
theorem dep_ints : ∀ ns : List Int, PyData.depthAll (ns.map PyData.int) = 0
  | [] => rfl
  | _ :: r => by simp [PyData.depthAll, PyData.depth, dep_ints r]
theorem shp_ints (ns : List Int) : SeqAt.shaped (.list (ns.map PyData.int)) = true := by simp [SeqAt.shaped, PyData.canLay0, PyData.depth, lay_ints, dep_ints]
theorem dp_ints {K : PySem.W.Frag} {H : Hp} : ∀ ns : List Int, DpAll K H (ns.map V.int) (ns.map PyData.int)
  | [] => .nil
  | i :: r => .cons (.int i) (dp_ints r)
theorem dp_list {K : PySem.W.Frag} {H : Hp} {a : Addr} {ns : List Int} (h : SqL K H a (ns.map V.int)) : Dp K H (.ref a) (.list (ns.map PyData.int)) := .lst h (dp_ints ns)
section
variable {σ : L2.St} {H : Hp} {K : PySem.W.Frag} {Q : VK} {QB : Bool → Hp → Prop} {tt tu : TT}
theorem r_eqL {a b : Addr} {ns ms : List Int} (h1 : SqL K H a (ns.map V.int)) (h2 : SqL K H b (ms.map V.int)) (q : Q (.bl (decide (ns = ms))) H) : rEqD K (.ref a) (.ref b) H Q :=
  ⟨_, _, dp_list h1, dp_list h2, shp_ints ns, shp_ints ms, by
    rw [PyData.eqv, eqv_ints]
    exact q⟩
theorem r_neL {a b : Addr} {ns ms : List Int} (h1 : SqL K H a (ns.map V.int)) (h2 : SqL K H b (ms.map V.int)) (q : Q (.bl (!decide (ns = ms))) H) : rNeD K (.ref a) (.ref b) H Q :=
  ⟨_, _, dp_list h1, dp_list h2, shp_ints ns, shp_ints ms, by
    rw [PyData.eqv, eqv_ints]
    exact q⟩
theorem t_or (q : tt σ H fun c H1 => if c = true then QB true H1 else tu σ H1 QB) : tOr tt tu σ H QB := q
theorem t_and (q : tt σ H fun c H1 => if c = true then tu σ H1 QB else QB false H1) : tAnd tt tu σ H QB := q
theorem t_not (q : tt σ H fun c H1 => QB (!c) H1) : tNot tt σ H QB := q
theorem i_nt {A B : Prop} (h : B) : if (!true) = true then A else B := h
theorem i_nf {A B : Prop} (h : A) : if (!false) = true then A else B := h
theorem i_nn {c : Bool} {A B : Prop} (hc : c = true) (h : B) : if (!c) = true then A else B := by
  subst hc
  exact h
theorem i_yes {c : Bool} {A B : Prop} (hc : c = true) (h : A) : if c = true then A else B := by
  subst hc
  exact h
theorem i_no {c : Bool} {A B : Prop} (hc : c = false) (h : B) : if c = true then A else B := by
  subst hc
  exact h
/-- 10 ** k -/
theorem e_p12 (q : Q (.int 1000000000000) H) : rI CPow (fun i j => V.int (i ^ j.toNat)) (.int 10) (.int 12) H Q := ⟨10, 12, rfl, rfl, ⟨by decide, by decide, by decide⟩, q⟩
theorem e_p15 (q : Q (.int 1000000000000000) H) : rI CPow (fun i j => V.int (i ^ j.toNat)) (.int 10) (.int 15) H Q := ⟨10, 15, rfl, rfl, ⟨by decide, by decide, by decide⟩, q⟩
theorem e_p30 (q : Q (.int 1000000000000000000000000000000) H) : rI CPow (fun i j => V.int (i ^ j.toNat)) (.int 10) (.int 30) H Q := ⟨10, 30, rfl, rfl, ⟨by decide, by decide, by decide⟩, q⟩
theorem e_p39 (q : Q (.int 1000000000000000000000000000000000000000) H) : rI CPow (fun i j => V.int (i ^ j.toNat)) (.int 10) (.int 39) H Q := ⟨10, 39, rfl, rfl, ⟨by decide, by decide, by decide⟩, q⟩
end
/-- nothing is asked of a def with no calls left -/
theorem Own.zero {P : Program} {w : World} {K : PySem.W.Frag} {mg : Str → Option Value} {base : Heap} {x : Str} {st : Stmt} {ps : List Str} {sp : Sp} (F : Own K mg x st ps) (no : ∀ vs H Q E, ¬ sp vs H Q E) : Cal P w K mg base CX0 0 x ps sp := by
  obtain ⟨f, fd, F, g, b⟩ := F.ex
  exact ⟨f, fd, ⟨fun vs H Q E h => absurd h (no vs H Q E), fun A outer s H args us vs Q E _ _ _ _ h => absurd h (no vs H Q E)⟩, g, F.kp, b⟩
end Fs

/-! ## Plain functions and promises, no text in sight -/
namespace Fs
open PySem PySem.Spec PyProof.Rows L2
/-- script[k], or 0 -/
def cellAt (ns : List Int) (k : Int) : Int := if k < ns.length then gi ns k else 0
def spCellAt (K : PySem.W.Frag) : Sp := fun vs H Q _ => ∃ (a : Addr) (ns : List Int) (k : Int), vs = [.ref a, .int k] ∧ SqL K H a (ns.map V.int) ∧ 0 ≤ k ∧ Q (.int (cellAt ns k)) H
theorem c_cell_at {K : PySem.W.Frag} {a : Addr} {ns : List Int} {k : Int} {H : Hp} {Q : VK} {E : XK} (h : SqL K H a (ns.map V.int)) (h0 : 0 ≤ k) (q : Q (.int (cellAt ns k)) H) : spCellAt K [.ref a, .int k] H Q E := ⟨a, ns, k, rfl, h, h0, q⟩
/-- a drawn number below a bound -/
def spDraw : Sp := fun vs H Q _ => ∃ (cell k bound : Int), vs = [.int cell, .int k, .int bound] ∧ (0 ≤ k ∧ k ≤ 1000000) ∧ (0 < bound ∧ bound < 1073741824) ∧ ∀ r : Int, 0 ≤ r → r < bound → Q (.int r) H
theorem c_draw {cell k bound : Int} {H : Hp} {Q : VK} {E : XK} (h : 0 ≤ k ∧ k ≤ 1000000) (h0 : 0 < bound ∧ bound < 1073741824) (q : ∀ r : Int, 0 ≤ r → r < bound → Q (.int r) H) : spDraw [.int cell, .int k, .int bound] H Q E := ⟨cell, k, bound, rfl, h, h0, q⟩
/-- isinstance(x, int) and not isinstance(x, bool), of a whole number -/
def spWhole : Sp := fun vs H Q _ => ∃ i : Int, vs = [.int i] ∧ Q (.bl true) H
theorem c_whole {i : Int} {H : Hp} {Q : VK} {E : XK} (q : Q (.bl true) H) : spWhole [.int i] H Q E := ⟨i, rfl, q⟩
/-- a list of whole numbers -/
def spNumbers : Sp := fun vs H Q _ => ∃ (a : Addr) (ns : List Int), vs = [.ref a] ∧ H a = some (.lst (ns.map V.int)) ∧ ns.length ≤ 100000 ∧ ∀ H', Same H H' → Q (.bl true) H'
theorem c_numbers {a : Addr} {ns : List Int} {H : Hp} {Q : VK} {E : XK} (h : H a = some (.lst (ns.map V.int))) (hl : ns.length ≤ 100000) (q : ∀ H', Same H H' → Q (.bl true) H') : spNumbers [.ref a] H Q E := ⟨a, ns, rfl, h, hl, q⟩
/-! ### the doubling chain -/
/-- by the figures in base two -/
def dbl (n : Nat) : List Int := if h : n ≤ 1 then [1] else dbl (n / 2) ++ [2 * ((n / 2 : Nat) : Int)] ++ (if n % 2 = 1 then [(n : Int)] else [])
termination_by n
decreasing_by omega
/-- the figures, the lowest first, without the highest -/
def figs (n : Nat) : List Int := if h : n ≤ 1 then [] else ((n % 2 : Nat) : Int) :: figs (n / 2)
termination_by n
decreasing_by omega
/-- the chain from the figures -/
def bld : List Int → List Int
  | [] => [1]
  | f :: r => if f = 1 then (bld r ++ [gi (bld r) (-1) * 2]) ++ [gi (bld r ++ [gi (bld r) (-1) * 2]) (-1) + 1] else bld r ++ [gi (bld r) (-1) * 2]
theorem gi_snoc (ns : List Int) (x : Int) : gi (ns ++ [x]) (-1) = x := by
  rw [gi_last _ (by simp), List.length_append, List.length_singleton, Nat.add_sub_cancel, List.getD_eq_getElem?_getD, List.getElem?_append_right (Nat.le_refl _), Nat.sub_self]
  rfl
theorem dbl_one {n : Nat} (h : n ≤ 1) : dbl n = [1] := by rw [dbl, dif_pos h]
theorem dbl_step {n : Nat} (h : ¬ n ≤ 1) : dbl n = dbl (n / 2) ++ [2 * ((n / 2 : Nat) : Int)] ++ (if n % 2 = 1 then [(n : Int)] else []) := by rw [dbl, dif_neg h]
theorem dbl_last : ∀ n : Nat, 1 ≤ n → gi (dbl n) (-1) = (n : Int) := by
  intro n h1
  by_cases h : n ≤ 1
  · have e : n = 1 := by omega
    subst e
    rw [dbl_one (Nat.le_refl 1)]
    rfl
  · rw [dbl_step h]
    by_cases h2 : n % 2 = 1
    · rw [if_pos h2, gi_snoc]
    · rw [if_neg h2, List.append_nil, gi_snoc]
      omega
theorem bld_figs : ∀ n : Nat, 1 ≤ n → bld (figs n) = dbl n := by
  intro n
  induction n using Nat.strongRecOn with
  | ind n ih =>
    intro h1
    by_cases h : n ≤ 1
    · rw [figs, dif_pos h, dbl_one h]
      rfl
    · rw [figs, dif_neg h, dbl_step h]
      have e := ih (n / 2) (by omega) (by omega)
      have el := dbl_last (n / 2) (by omega)
      unfold bld
      rw [e, el]
      by_cases h2 : n % 2 = 1
      · rw [if_pos (by omega), if_pos h2, gi_snoc]
        rw [show ((n / 2 : Nat) : Int) * 2 = 2 * ((n / 2 : Nat) : Int) by omega, show 2 * ((n / 2 : Nat) : Int) + 1 = (n : Int) by omega]
      · rw [if_neg (by omega), if_neg h2, List.append_nil]
        rw [show ((n / 2 : Nat) : Int) * 2 = 2 * ((n / 2 : Nat) : Int) by omega]
theorem bld_len : ∀ fs : List Int, 1 ≤ (bld fs).length ∧ (bld fs).length ≤ 2 * fs.length + 1
  | [] => ⟨Nat.le_refl _, Nat.le_refl _⟩
  | f :: r => by
    have ih := bld_len r
    unfold bld
    split
    · simp only [List.length_append, List.length_cons, List.length_nil]
      omega
    · simp only [List.length_append, List.length_cons, List.length_nil]
      omega
theorem figs_len : ∀ (k n : Nat), n < 2 ^ (k + 1) → (figs n).length ≤ k
  | 0, n, h => by
    rw [figs, dif_pos (by omega)]
    exact Nat.le_refl _
  | k + 1, n, h => by
    by_cases h1 : n ≤ 1
    · rw [figs, dif_pos h1]
      exact Nat.zero_le _
    · rw [figs, dif_neg h1, List.length_cons]
      have := figs_len k (n / 2) (by rw [Nat.pow_succ] at h; omega)
      omega
/-- the doubling chain of a number from 1 to 10 ** 30 -/
def spDoubling : Sp := fun vs H Q _ => ∃ n : Nat, vs = [.int (n : Int)] ∧ (1 ≤ n ∧ n ≤ 10 ^ 30) ∧ ∀ p H', Same H H' → H p = none → H' p = some (.lst ((dbl n).map V.int)) → Q (.ref p) H'
theorem c_doubling {i : Int} {n : Nat} {H : Hp} {Q : VK} {E : XK} (e : i = (n : Int)) (h : 1 ≤ n ∧ n ≤ 10 ^ 30) (q : ∀ p H', Same H H' → H p = none → H' p = some (.lst ((dbl n).map V.int)) → Q (.ref p) H') : spDoubling [.int i] H Q E := ⟨n, by rw [e], h, q⟩
/-- the law's own doubling, with so many calls left -/
def spDbl2 (d : Nat) : Sp := fun vs H Q _ => ∃ n : Nat, vs = [.int (n : Int)] ∧ (1 ≤ n ∧ n < 2 ^ d) ∧ ∀ p H', Same H H' → H p = none → H' p = some (.lst ((dbl n).map V.int)) → Q (.ref p) H'
theorem c_dbl2 {d : Nat} {i : Int} {n : Nat} {H : Hp} {Q : VK} {E : XK} (e : i = (n : Int)) (h : 1 ≤ n ∧ n < 2 ^ d) (q : ∀ p H', Same H H' → H p = none → H' p = some (.lst ((dbl n).map V.int)) → Q (.ref p) H') : spDbl2 d [.int i] H Q E := ⟨n, by rw [e], h, q⟩
theorem dbl_len (n : Nat) (h1 : 1 ≤ n) (h : n ≤ 10 ^ 30) : 1 ≤ (dbl n).length ∧ (dbl n).length ≤ 199 := by
  have hfl : (figs n).length ≤ 99 := figs_len 99 n (Nat.lt_of_le_of_lt h (by decide))
  have hb := bld_len (figs n)
  rw [bld_figs n h1] at hb
  omega
/-! isinstance -/
section
variable {K : PySem.W.Frag} {H : Hp} {Q : VK}
theorem kt {K : PySem.W.Frag} {H : Hp} {Q : VK} {x : V} {m n : String} {b : Bool} (t : TyOf K H x (.type m)) (h : kitB m n = some b) (q : Q (.bl b) H) : rIsi K [x, .ty n] H Q := ⟨x, .ty n, .type m, .type n, b, rfl, .ty n, .base t, kit_ty h, q⟩
theorem r_int_int {i : Int} (q : Q (.bl true) H) : rIsi K [.int i, .ty "int"] H Q := kt (.int i) (by decide +kernel) q
theorem r_int_bool {i : Int} (q : Q (.bl false) H) : rIsi K [.int i, .ty "bool"] H Q := kt (.int i) (by decide +kernel) q
theorem r_bool_bool {i : Bool} (q : Q (.bl true) H) : rIsi K [.bl i, .ty "bool"] H Q := kt (.bl i) (by decide +kernel) q
theorem r_str_str {i : Str} (q : Q (.bl true) H) : rIsi K [.str i, .ty "str"] H Q := kt (.str i) (by decide +kernel) q
theorem r_str_list {i : Str} (q : Q (.bl false) H) : rIsi K [.str i, .ty "list"] H Q := kt (.str i) (by decide +kernel) q
theorem r_list_list {a : Addr} {xs : List V} (h : H a = some (.lst xs)) (q : Q (.bl true) H) : rIsi K [.ref a, .ty "list"] H Q := kt (.lst h) (by decide +kernel) q
theorem r_tup_tup {a : Addr} {xs : List V} (h : H a = some (.tup xs)) (q : Q (.bl true) H) : rIsi K [.ref a, .ty "tuple"] H Q := kt (.tup h) (by decide +kernel) q
end
end Fs

/-! ## The text by places -/
namespace Fs
open PySem PySem.Spec PyProof.Rows L2
def topS (i : Nat) : Stmt := PySem.Challenge.pw_fewsums_k05_doubling.main.body.getD i (.Pass ⟨0, 0, 0, 0⟩)
/-- what the module's names hold -/
structure Nb (mg : Str → Option Value) : Prop where
  b_len : mg "len" = none
  b_range : mg "range" = none
  b_reversed : mg "reversed" = none
  b_list : mg "list" = none
  b_int : mg "int" = none
  b_str : mg "str" = none
  b_sum : mg "sum" = none
  b_sorted : mg "sorted" = none
  b_isinstance : mg "isinstance" = none
  b_bool : mg "bool" = none
  b_tuple : mg "tuple" = none
  b_min : mg "min" = none
  b_max : mg "max" = none
  b_all : mg "all" = none
  b_ValueError : mg "ValueError" = none
  c_GREATEST : ∃ t, mg "GREATEST" = some (.int 1000000000000000000000000000000 t)
def spLaw (K : PySem.W.Frag) : Sp := fun vs H Q _ => ∃ (a : Addr) (ns : List Int), vs = [.ref a] ∧ SqL K H a (ns.map V.int) ∧ ns.length ≤ 63 ∧ ∀ H', Q (.bl true) H'

/-! ## Short tactics of my own, under names that the library has for its own (local to this text) -/
-- kd_adr: a fact about a heap
local macro_rules | `(tactic| kd_adr) => `(tactic| first
  | assumption
  | (with_reducible apply upd_same)
  | (with_reducible apply Same.refl)
  | ((with_reducible apply SqL.of); kd_adr)
  | ((with_reducible apply same_new); kd_adr)
  | ((with_reducible apply get_new); kd_adr; (first | assumption | ((with_reducible apply Same.free) <;> assumption)))
  | ((with_reducible apply get_ne); (first | assumption | (refine Ne.symm ?_; assumption)); kd_adr)
  | ((with_reducible apply same_get); assumption; kd_adr)
  | ((with_reducible apply Same.seq); (first | assumption | ((with_reducible apply same_new); assumption)); kd_adr)
  | ((with_reducible apply same_mut); kd_adr; kd_adr)
  | ((with_reducible apply Same.free); kd_adr; assumption)
  | ((with_reducible apply Same.trans); kd_adr; (first | assumption | ((with_reducible apply same_new); assumption))))
-- kln_le: a side condition on ints
local macro_rules | `(tactic| kln_le) => `(tactic| first
  | assumption
  | omega
  | decide
  | (refine ⟨?_, ?_⟩ <;> first | omega | decide)
  | (refine Or.inl ⟨?_, ?_⟩ <;> first | omega | decide)
  | (refine Or.inr ⟨?_, ?_⟩ <;> first | omega | decide)
  | (refine ⟨?_, ?_, ?_⟩ <;> first | omega | decide))
-- kct_strs: a reading, as far as it goes by itself (kat_tups: one step of a def's own rule)
local macro_rules | `(tactic| kct_strs) => `(tactic| repeat (first
  | with_reducible refine s_seq ?_
  | with_reducible refine s_asg ?_
  | with_reducible refine g_name ?_
  | with_reducible refine s_ret ?_
  | with_reducible refine s_drop ?_
  | with_reducible refine s_next ?_
  | ((with_reducible apply e_var); exact rfl)
  | with_reducible refine e_c ?_
  | with_reducible refine e_op ?_
  | with_reducible refine e_un ?_
  | with_reducible refine e_I0 ?_
  | with_reducible refine e_U ?_
  | with_reducible refine e_nil ?_
  | with_reducible refine e_cons ?_
  | with_reducible refine e_lst ?_
  | with_reducible refine e_tup ?_
  | with_reducible refine e_cb ?_
  | with_reducible refine e_call ?_
  | with_reducible refine e_eqI ?_
  | with_reducible refine e_neI ?_
  | with_reducible refine e_eqS ?_
  | with_reducible refine e_neS ?_
  | with_reducible refine t_test ?_
  | with_reducible refine t_B ?_
  | with_reducible refine t_bl ?_
  | with_reducible refine t_bl' ?_
  | with_reducible refine e_andV ?_
  | with_reducible refine e_orV ?_
  | with_reducible refine e_notV ?_
  | with_reducible refine iteT ?_
  | with_reducible refine iteF ?_
  | with_reducible refine t_or ?_
  | with_reducible refine t_and ?_
  | with_reducible refine t_not ?_
  | with_reducible refine i_nt ?_
  | with_reducible refine i_nn (decide_eq_true rfl) ?_
  | with_reducible refine i_yes (decide_eq_true rfl) ?_
  | with_reducible refine i_nf ?_
  | with_reducible refine e_p30 ?_
  | with_reducible refine e_p12 ?_
  | with_reducible refine e_p15 ?_
  | with_reducible refine e_p39 ?_
  | ((with_reducible apply r_eqL); kd_adr; kd_adr)
  | ((with_reducible apply r_neL); kd_adr; kd_adr)
  | ((with_reducible refine e_I ?c ?_); (case c => kln_le))
  | ((with_reducible apply e_ixI); kd_adr; kln_le; kln_le)
  | ((with_reducible apply r_len); kd_adr)
  | with_reducible refine r_isN ?_
  | with_reducible refine r_notN ?_
  | with_reducible refine r_max ?_
  | with_reducible refine r_min ?_
  | with_reducible refine r_intB ?_
  | with_reducible refine e_bm ?_
  | with_reducible refine e_bm0 ?_
  | ((with_reducible apply m_bm); kd_adr)
  | ((with_reducible apply m_bm0); kd_adr)
  | ((with_reducible apply m_appendI); kd_adr; (try simp only [List.length_append, List.length_singleton]); kln_le)
  | ((with_reducible apply m_append); kd_adr; (try simp only [List.length_map]); kln_le)
  | with_reducible refine rg_int ?_
  | with_reducible refine rg_ints ?_
  | with_reducible refine r_int_int ?_
  | with_reducible refine r_int_bool ?_
  | with_reducible refine r_bool_bool ?_
  | with_reducible refine r_str_str ?_
  | with_reducible refine r_str_list ?_
  | ((with_reducible apply r_list_list); kd_adr)
  | ((with_reducible apply r_tup_tup); kd_adr)
  | kat_tups))
-- kp_flats: what a test answers that leaves the heap
local macro_rules | `(tactic| kp_flats) => `(tactic| first
  | ((with_reducible apply n_or); kp_flats; (intro hf; (try simp only [decide_eq_false_iff_not, decide_eq_true_eq, Bool.not_eq_false', Bool.not_eq_true', Bool.or_eq_false_iff] at hf); kp_flats))
  | ((with_reducible apply n_and); kp_flats; (intro hf; (try simp only [decide_eq_false_iff_not, decide_eq_true_eq, Bool.not_eq_false', Bool.not_eq_true', Bool.and_eq_true] at hf); kp_flats))
  | ((with_reducible apply n_not); kp_flats)
  | ((with_reducible apply n_of); focus (intro Qt qt; kct_strs; exact qt)))
-- kpt_turns: an if by what its test answers (b = true, then b = false)
local macro_rules | `(tactic| kpt_turns) => `(tactic| ((with_reducible apply s_if); kp_flats))

/-! ## _law_cell_at -/
abbrev sLawCellAt : Stmt := topS 7
theorem scLawCellAt : FnScope ["script", "k"] ["script", "k"] (defScope sLawCellAt) := ⟨rfl, rfl, rfl, by decide +kernel, rfl, by decide +kernel, by decide +kernel⟩
section
variable {P : Program} {w : World} {K : PySem.W.Frag} {mg : Str → Option Value} {base : Heap}
theorem ok_cell_at (F : Own K mg "_law_cell_at" sLawCellAt ["script", "k"]) (B : Nb mg) : Cal P w K mg base CX0 1 "_law_cell_at" ["script", "k"] (spCellAt K) := by
  refine F.ok scLawCellAt (fun vs H Q E h => ?_) (fun f cdv A outer s H vs Q E hr h => ?_)
  · obtain ⟨a, ns, k, rfl, _⟩ := h
    rfl
  obtain ⟨a, ns, k, rfl, hS, h0, q⟩ := h
  refine ⟨_, (pss_cons (ps_if (pt_cmpR op_lt (pv 1) (pe_callB f_len (by rfl) B.b_len PySem.boot_len (pa_cons (pv 0) pa_nil)) (nomark _)) (pss_one (ps_ret (pe_ix ix_list (pv 0) (pv 1) (fun _ _ => rfl)))) pss_nil)
      (pss_one (ps_ret pe_int))), ?_⟩
  dsimp only [cxOf, Cx.nox, Cx.wish, L2.start]
  kct_strs
  kpt_turns <;> intro hb
  · have hb' := of_decide_eq_true hb
    kct_strs
    have e : cellAt ns k = gi ns k := by
      unfold cellAt
      rw [if_pos hb']
    rw [← e]
    exact q
  · have hb' := of_decide_eq_false hb
    kct_strs
    have e : cellAt ns k = 0 := by
      unfold cellAt
      rw [if_neg hb']
    rw [← e]
    exact q
end

local macro_rules | `(tactic| kat_tups) => `(tactic| first | ((with_reducible apply c_cell_at); kd_adr; kln_le))

/-! ## _law_whole, _law_numbers -/
abbrev sLawWhole : Stmt := topS 8
theorem scLawWhole : FnScope ["found"] ["found"] (defScope sLawWhole) := ⟨rfl, rfl, rfl, by decide +kernel, rfl, by decide +kernel, by decide +kernel⟩
abbrev sLawNumbers : Stmt := topS 9
theorem scLawNumbers : FnScope ["found", "number"] ["found"] (defScope sLawNumbers) := ⟨rfl, rfl, rfl, by decide +kernel, rfl, by decide +kernel, by decide +kernel⟩
section
variable {P : Program} {w : World} {K : PySem.W.Frag} {mg : Str → Option Value} {base : Heap}
theorem ok_whole (F : Own K mg "_law_whole" sLawWhole ["found"]) (B : Nb mg) : Cal P w K mg base CX0 1 "_law_whole" ["found"] spWhole := by
  refine F.ok scLawWhole (fun vs H Q E h => ?_) (fun f cdv A outer s H vs Q E hr h => ?_)
  · obtain ⟨i, rfl, _⟩ := h
    rfl
  obtain ⟨i, rfl, q⟩ := h
  refine ⟨_, (pss_one (ps_ret (pe_and (pe_callB call_isi (by rfl) B.b_isinstance (by decide +kernel) (pa_cons (pv 0) (pa_cons (pe_bltn (v := .ty "int") rfl B.b_int (by decide +kernel) rfl) pa_nil))) (pe_one (pe_not (pe_callB call_isi (by rfl) B.b_isinstance (by decide +kernel) (pa_cons (pv 0) (pa_cons (pe_bltn (v := .ty "bool") rfl B.b_bool (by decide +kernel) rfl) pa_nil)))))))), ?_⟩
  dsimp only [cxOf, Cx.nox, Cx.wish, L2.start]
  kct_strs
  exact q
end
local macro_rules | `(tactic| kat_tups) => `(tactic| (with_reducible refine c_whole ?_))
section
variable {P : Program} {w : World} {K : PySem.W.Frag} {mg : Str → Option Value} {base : Heap}
theorem ok_numbers (F : Own K mg "_law_numbers" sLawNumbers ["found"]) (B : Nb mg) (GLawWhole : Cal P w K mg base CX0 1 "_law_whole" ["found"] spWhole) : Cal P w K mg base CX0 2 "_law_numbers" ["found"] spNumbers := by
  refine F.ok scLawNumbers (fun vs H Q E h => ?_) (fun f cdv A outer s H vs Q E hr h => ?_)
  · obtain ⟨a, ns, rfl, _⟩ := h
    rfl
  obtain ⟨a, ns, rfl, ha, hl, q⟩ := h
  refine ⟨_, (pss_one (ps_ret (pe_and (pe_callB call_isi (by rfl) B.b_isinstance (by decide +kernel) (pa_cons (pv 0) (pa_cons (pe_bltn (v := .ty "list") rfl B.b_list (by decide +kernel) rfl) pa_nil))) (pe_one (pe_callB (cr_all rfl) (by rfl) B.b_all (by decide +kernel) (pa_cons (pe_lc (own := [("number", 1)]) (g := gName 1) rfl scLawNumbers.nd (pi_list (pv 0)) (blkOk_by (N := ["found", "number"]) (sc := defScope sLawNumbers) (by decide +kernel)) (fun _ _ _ _ _ => pg_name (i := 1) scLawNumbers.nd rfl (Or.inl rfl)) (fun _ _ _ _ _ => pts_nil) (fun _ _ _ _ _ => (pe_cal GLawWhole (hr.mono (by decide)) pass0 rfl (pa_cons (pv 1) pa_nil)))) pa_nil)))))), ?_⟩
  dsimp only [cxOf, Cx.nox, Cx.wish, L2.start]
  kct_strs
  refine e_lcL (xs := ns.map V.int) (LcG fun i => (List.replicate i true).map V.bl) (fun Qt qt => by kct_strs; exact qt) (by kd_adr) (by rw [List.length_map]; exact hl) (fun _ _ => rfl) lcg_mono (fun _ => rfl) (fun i x hx => ?_) (fun D acc H' hD e hacc hR => ?_)
  · obtain ⟨n, rfl⟩ : ∃ n, x = V.int n := by
      rw [List.getElem?_map] at hx
      cases hn : ns[i]? with
      | none => rw [hn] at hx; cases hx
      | some n => rw [hn] at hx; exact ⟨n, (Option.some.inj hx).symm⟩
    refine lct_yes (y := .bl true) ?_ (fun H' K1 e k1 => ?_)
    · show (List.replicate (i + 1) true).map V.bl = _
      rw [List.replicate_succ', List.map_append]
      rfl
    · kct_strs
      exact k1 _ (Same.refl _)
  · subst hR
    kct_strs
    refine ⟨D, _, rfl, SqL.of hacc, ?_⟩
    have hall : (List.replicate (ns.map V.int).length true).all id = true := by
      rw [List.all_eq_true]
      intro b hb
      rw [List.eq_of_mem_replicate hb]
      rfl
    rw [hall]
    exact q H' e
end

/-! ## doubling -/
abbrev sDoubling : Stmt := topS 5
theorem scDoubling : FnScope ["number", "figures", "found", "figure"] ["number"] (defScope sDoubling) := ⟨rfl, rfl, rfl, by decide +kernel, rfl, by decide +kernel, by decide +kernel⟩
section
variable {P : Program} {w : World} {K : PySem.W.Frag} {mg : Str → Option Value} {base : Heap}
theorem ok_doubling (F : Own K mg "doubling" sDoubling ["number"]) (B : Nb mg) : Cal P w K mg base CX0 1 "doubling" ["number"] spDoubling := by
  refine F.ok scDoubling (fun vs H Q E h => ?_) (fun f cdv A outer s H vs Q E hr h => ?_)
  · obtain ⟨n, rfl, _⟩ := h
    rfl
  obtain ⟨n, rfl, ⟨h1, h2⟩, q⟩ := h
  refine ⟨_, (pss_cons (ps_if (PW.pt (pw_or (pt_cmpR op_lt (pv 0) pe_int (nomark _)) (pw_or1 (pt_cmpR op_gt (pv 0) (pe_const B.c_GREATEST rfl) (nomark _))))) (pss_one ps_never) pss_nil)
      (pss_cons (ps_set (i := 1) scDoubling.nd rfl (.inl rfl) (pe_lst pa_nil))
      (pss_cons (ps_while PassesOwn.never (pt_cmpR op_gt (pv 0) pe_int (nomark _))
      (pss_cons (ps_expr (pe_bm PySem.F.plainAttrs_list PySem.F.slot_list_append PySem.F.type_list_append mt_append (pv 1) (pa_cons (pe_op op_mod (pv 0) pe_int) pa_nil)))
      (pss_one (ps_set (i := 0) scDoubling.nd rfl (.inl rfl) (pe_op op_fdiv (pv 0) pe_int)))))
      (pss_cons (ps_set (i := 2) scDoubling.nd rfl (.inl rfl) (pe_lst (pa_cons pe_int pa_nil)))
      (pss_cons (ps_for PassesOwn.never rfl (pi_reversed (by rfl) B.b_reversed (pa_cons (pv 1) pa_nil)) (pg_name (i := 3) scDoubling.nd rfl (.inl rfl))
      (pss_cons (ps_expr (pe_bm PySem.F.plainAttrs_list PySem.F.slot_list_append PySem.F.type_list_append mt_append (pv 2) (pa_cons (pe_op op_mul (pe_ix ix_list (pv 2) (pe_un un_neg pe_int) (fun _ _ => rfl)) pe_int) pa_nil)))
      (pss_one (ps_if (pt_cmpR op_eq (pv 3) pe_int (nomark _)) (pss_one (ps_expr (pe_bm PySem.F.plainAttrs_list PySem.F.slot_list_append PySem.F.type_list_append mt_append (pv 2) (pa_cons (pe_op op_add (pe_ix ix_list (pv 2) (pe_un un_neg pe_int) (fun _ _ => rfl)) pe_int) pa_nil)))) pss_nil))))
      (pss_one (ps_ret (pv 2)))))))), ?_⟩
  dsimp only [cxOf, Cx.nox, Cx.wish, L2.start]
  kct_strs
  kpt_turns <;> intro hc
  · exfalso
    simp only [Bool.or_eq_true, decide_eq_true_eq] at hc
    omega
  kct_strs
  refine ⟨Nat.zero_le _, fun pf hpf => ?_⟩
  kct_strs
  have hfl : (figs n).length ≤ 99 := figs_len 99 n (Nat.lt_of_le_of_lt h2 (by decide))
  refine s_while (fun m σ' H' => ∃ fs : List Int, m ≥ 1 ∧ figs n = fs ++ figs m ∧ σ' = [some (.int (m : Int)), some (.ref pf), none, none] ∧ H' = upd H pf (.lst (fs.map V.int))) n ⟨[], h1, rfl, rfl, rfl⟩ (fun m σ' H' hW => ?_)
  obtain ⟨fs, hm, hfs, rfl, rfl⟩ := hW
  apply wt_of
  · kp_flats
  · intro hb
    have hb' := of_decide_eq_true hb
    have hl : fs.length ≤ 99 := by
      have := congrArg List.length hfs
      rw [List.length_append] at this
      omega
    kct_strs
    refine ⟨m / 2, by omega, fs ++ [((m % 2 : Nat) : Int)], by omega, ?_, ?_, ?_⟩
    · rw [hfs, figs, dif_neg (by omega), List.append_assoc]
      rfl
    · rfl
    · rw [upd_upd]
      rfl
  · intro hb
    have hb' := of_decide_eq_false hb
    have e1 : figs m = [] := by rw [figs, dif_pos (by omega)]
    rw [e1, List.append_nil] at hfs
    subst hfs
    kct_strs
    refine ⟨by decide, fun pl hpl => ?_⟩
    have nfl : pf ≠ pl := fun e => by
      rw [← e, upd_same] at hpl
      cases hpl
    have hpl0 : H pl = none := by
      rw [upd_ne nfl.symm] at hpl
      exact hpl
    kct_strs
    refine s_forRev (a := pf) (xs := (figs n).map V.int) (fun i σ' H' => ∃ v, σ' = [some (.int (m : Int)), some (.ref pf), some (.ref pl), v] ∧ Same H H' ∧ H' pf = some (.lst ((figs n).map V.int)) ∧ H' pl = some (.lst ((bld ((figs n).drop ((figs n).length - i))).map V.int))) (fun Qt qt => by kct_strs; exact qt) (by kd_adr) ⟨none, rfl, ?_, ?_, ?_⟩ (fun i σ' H' h => SqL.of h.choose_spec.2.2.1) (fun i x σ' H' hi hx hP => ?_) (fun σ' H' hP => ?_)
    · exact same_mut (same_new hpf) hpl0
    · kd_adr
    · rw [Nat.sub_zero, List.drop_length]
      exact upd_same
    · obtain ⟨v, rfl, hS, hf, hl⟩ := hP
      rw [List.length_map] at hi hx
      have hget : (figs n)[(figs n).length - 1 - i]? = some ((figs n).getD ((figs n).length - 1 - i) 0) := getD_get 0 (by omega)
      rw [List.getElem?_map, hget] at hx
      obtain rfl := Option.some.inj hx
      generalize hfg : (figs n).getD ((figs n).length - 1 - i) 0 = fg at *
      have hdr : (figs n).drop ((figs n).length - (i + 1)) = fg :: (figs n).drop ((figs n).length - i) := by
        have hlt : (figs n).length - 1 - i < (figs n).length := by omega
        rw [show (figs n).length - (i + 1) = (figs n).length - 1 - i by omega, List.drop_eq_getElem_cons hlt, show (figs n).length - 1 - i + 1 = (figs n).length - i by omega]
        rw [List.getElem?_eq_getElem hlt] at hget
        rw [Option.some.inj hget]
      have hbl := bld_len ((figs n).drop ((figs n).length - i))
      rw [List.length_drop] at hbl
      rw [hdr]
      generalize hbs : bld ((figs n).drop ((figs n).length - i)) = bs at *
      refine g_name ?_
      kct_strs
      have hS2 : Same H (upd H' pl (.lst ((bs ++ [gi bs (-1) * 2]).map V.int))) := same_mut hS hpl0
      have hf2 : (upd H' pl (.lst ((bs ++ [gi bs (-1) * 2]).map V.int))) pf = some (.lst ((figs n).map V.int)) := get_ne nfl hf
      have hl2 : (upd H' pl (.lst ((bs ++ [gi bs (-1) * 2]).map V.int))) pl = some (.lst ((bs ++ [gi bs (-1) * 2]).map V.int)) := upd_same
      have hlen2 : (bs ++ [gi bs (-1) * 2]).length = bs.length + 1 := by rw [List.length_append, List.length_singleton]
      kpt_turns <;> intro hb1
      · have hb1' := of_decide_eq_true hb1
        kct_strs
        refine ⟨_, rfl, same_mut hS2 hpl0, get_ne nfl hf2, ?_⟩
        rw [upd_same]
        unfold bld
        rw [hbs, if_pos hb1']
      · have hb1' := of_decide_eq_false hb1
        kct_strs
        refine ⟨_, rfl, hS2, hf2, ?_⟩
        rw [upd_same]
        unfold bld
        rw [hbs, if_neg hb1']
    · obtain ⟨v, rfl, hS, hf, hl⟩ := hP
      rw [List.length_map, Nat.sub_self, List.drop_zero, bld_figs n h1] at hl
      kct_strs
      exact q pl H' hS hpl0 hl
end

/-! ## _law_doubling -/
abbrev sLawDoubling : Stmt := topS 10
theorem scLawDoubling : FnScope ["number", "found"] ["number"] (defScope sLawDoubling) := ⟨rfl, rfl, rfl, by decide +kernel, rfl, by decide +kernel, by decide +kernel⟩
section
variable {P : Program} {w : World} {K : PySem.W.Frag} {mg : Str → Option Value} {base : Heap}
theorem ok_dbl2 (F : Own K mg "_law_doubling" sLawDoubling ["number"]) (B : Nb mg) : ∀ d : Nat, d ≤ 100 → Cal P w K mg base CX0 d "_law_doubling" ["number"] (spDbl2 d)
  | 0, _ => F.zero fun vs H Q E h => by
    obtain ⟨n, _, ⟨h1, h2⟩, _⟩ := h
    omega
  | d + 1, hd => by
    have GLawDoubling := ok_dbl2 F B d (by omega)
    refine F.ok scLawDoubling (fun vs H Q E h => ?_) (fun f cdv A outer s H vs Q E hr h => ?_)
    · obtain ⟨n, rfl, _⟩ := h
      rfl
    obtain ⟨n, rfl, ⟨h1, h2⟩, q⟩ := h
    refine ⟨_, (pss_cons (ps_if (pt_cmpR op_eq (pv 0) pe_int (nomark _)) (pss_one (ps_ret (pe_lst (pa_cons pe_int pa_nil)))) pss_nil)
      (pss_cons (ps_set (i := 1) scLawDoubling.nd rfl (.inl rfl) (pe_cal GLawDoubling hr pass0 rfl (pa_cons (pe_op op_fdiv (pv 0) pe_int) pa_nil)))
      (pss_cons (ps_set (i := 1) scLawDoubling.nd rfl (.inl rfl) (pe_op op_cat (pv 1) (pe_lst (pa_cons (pe_op op_mul pe_int (pe_ix ix_list (pv 1) (pe_un un_neg pe_int) (fun _ _ => rfl))) pa_nil))))
      (pss_cons (ps_if (pt_cmpR op_eq (pe_op op_mod (pv 0) pe_int) pe_int (nomark _)) (pss_one (ps_set (i := 1) scLawDoubling.nd rfl (.inl rfl) (pe_op op_cat (pv 1) (pe_lst (pa_cons (pe_op op_add (pe_ix ix_list (pv 1) (pe_un un_neg pe_int) (fun _ _ => rfl)) pe_int) pa_nil))))) pss_nil)
      (pss_one (ps_ret (pv 1))))))), ?_⟩
    dsimp only [cxOf, Cx.nox, Cx.wish, L2.start]
    have hlt : n < 2 ^ 100 := Nat.lt_of_lt_of_le h2 (Nat.pow_le_pow_right (by decide) hd)
    kct_strs
    kpt_turns <;> intro hb
    · have hb' := of_decide_eq_true hb
      kct_strs
      refine ⟨by decide, fun p hp => ?_⟩
      refine q p _ (same_new hp) hp ?_
      rw [upd_same, dbl_one (by omega)]
      rfl
    · have hb' := of_decide_eq_false hb
      kct_strs
      refine c_dbl2 (n := n / 2) (by omega) ⟨by omega, by rw [Nat.pow_succ] at h2; omega⟩ fun p H1 e1 hp h1p => ?_
      have hfl : (figs (n / 2)).length ≤ 99 := figs_len 99 (n / 2) (by omega)
      have hbl := bld_len (figs (n / 2))
      rw [bld_figs (n / 2) (by omega)] at hbl
      have hla := dbl_last (n / 2) (by omega)
      have hst := dbl_step (n := n) (by omega)
      generalize dbl (n / 2) = bs at *
      kct_strs
      refine ⟨le_one, fun p2 hp2 => ?_⟩
      refine r_catI (ms := [2 * gi bs (-1)]) (get_new h1p hp2) upd_same (by simp only [List.length_cons, List.length_nil]; omega) fun p3 hp3 => ?_
      have e3 : Same H (upd (upd H1 p2 (.lst [.int (2 * gi bs (-1))])) p3 (.lst ((bs ++ [2 * gi bs (-1)]).map V.int))) := e1.trans ((same_new hp2).trans (same_new hp3))
      have hp30 : H p3 = none := (e1.trans (same_new hp2)).free hp3
      have h3 : (upd (upd H1 p2 (.lst [.int (2 * gi bs (-1))])) p3 (.lst ((bs ++ [2 * gi bs (-1)]).map V.int))) p3 = some (.lst ((bs ++ [2 * gi bs (-1)]).map V.int)) := upd_same
      generalize upd (upd H1 p2 (.lst [.int (2 * gi bs (-1))])) p3 (.lst ((bs ++ [2 * gi bs (-1)]).map V.int)) = H3 at *
      have hl3 : (bs ++ [2 * gi bs (-1)]).length = bs.length + 1 := by rw [List.length_append, List.length_singleton]
      have hg3 := gi_snoc bs (2 * gi bs (-1))
      kct_strs
      kpt_turns <;> intro hb2
      · have hb2' := of_decide_eq_true hb2
        kct_strs
        refine ⟨le_one, fun p4 hp4 => ?_⟩
        refine r_catI (ms := [_]) (get_new h3 hp4) upd_same (by simp only [List.length_cons, List.length_nil]; omega) fun p5 hp5 => ?_
        kct_strs
        refine q p5 _ (e3.trans ((same_new hp4).trans (same_new hp5))) ((e3.trans (same_new hp4)).free hp5) ?_
        rw [upd_same, hst, if_pos (by omega), hg3, hla]
        rw [show 2 * ((n / 2 : Nat) : Int) + 1 = (n : Int) by omega]
      · have hb2' := of_decide_eq_false hb2
        kct_strs
        refine q p3 _ e3 hp30 ?_
        rw [h3, hst, if_neg (by omega), List.append_nil, hla]
end

/-! ## law -/
abbrev sLaw : Stmt := topS 11
theorem scLaw : FnScope ["script", "number", "power", "k", "due", "found"] ["script"] (defScope sLaw) := ⟨rfl, rfl, rfl, by decide +kernel, rfl, by decide +kernel, by decide +kernel⟩
local macro_rules | `(tactic| kat_tups) => `(tactic| first | ((with_reducible apply c_cell_at); kd_adr; kln_le) | ((with_reducible apply c_numbers); kd_adr; kln_le))
section
variable {P : Program} {w : World} {K : PySem.W.Frag} {mg : Str → Option Value} {base : Heap}
theorem all_law {f : Addr} {fd : FuncData} (F : Fun K "law" "law" sLaw f fd) (B : Nb mg) (ODoubling : Own K mg "doubling" sDoubling ["number"]) (OLawCellAt : Own K mg "_law_cell_at" sLawCellAt ["script", "k"]) (OLawWhole : Own K mg "_law_whole" sLawWhole ["found"])
    (OLawNumbers : Own K mg "_law_numbers" sLawNumbers ["found"]) (OLawDoubling : Own K mg "_law_doubling" sLawDoubling ["number"]) : FnOk P w K mg base CX0 101 f fd ["script"] (spLaw K) := by
  have GDoubling : Cal P w K mg base CX0 1 "doubling" _ spDoubling := ok_doubling ODoubling B
  have GLawCellAt : Cal P w K mg base CX0 1 "_law_cell_at" _ (spCellAt K) := ok_cell_at OLawCellAt B
  have GLawWhole : Cal P w K mg base CX0 1 "_law_whole" _ spWhole := ok_whole OLawWhole B
  have GLawNumbers : Cal P w K mg base CX0 2 "_law_numbers" _ spNumbers := ok_numbers OLawNumbers B GLawWhole
  have GLawDoubling : Cal P w K mg base CX0 100 "_law_doubling" _ (spDbl2 100) := ok_dbl2 OLawDoubling B 100 (Nat.le_refl _)
  refine F.ok scLaw (fun vs H Q E h => ?_) (fun cdv A outer s H vs Q E hr h => ?_)
  · obtain ⟨a, ns, rfl, _⟩ := h
    rfl
  obtain ⟨a, ns, rfl, hS, hlen, q⟩ := h
  refine ⟨_, (pss_cons (ps_set (i := 1) scLaw.nd rfl (.inl rfl) (pe_op op_add pe_int (pe_op op_mod (pe_cal GLawCellAt (hr.mono (by decide)) pass0 rfl (pa_cons (pv 0) (pa_cons pe_int pa_nil))) (pe_op op_pow pe_int pe_int))))
      (pss_mid (ps_if (pt_cmpR op_eq (pe_op op_mod (pe_cal GLawCellAt (hr.mono (by decide)) pass0 rfl (pa_cons (pv 0) (pa_cons pe_int pa_nil))) pe_int) pe_int (nomark _)) (pss_one (ps_set (i := 1) scLaw.nd rfl (.inl rfl) (pe_op op_add pe_int (pe_op op_mod (pe_cal GLawCellAt (hr.mono (by decide)) pass0 rfl (pa_cons (pv 0) (pa_cons pe_int pa_nil))) pe_int)))) pss_nil)
      (pss_mid (ps_if (pt_cmpR op_eq (pe_op op_mod (pe_cal GLawCellAt (hr.mono (by decide)) pass0 rfl (pa_cons (pv 0) (pa_cons pe_int pa_nil))) pe_int) pe_int (nomark _)) (pss_cons (ps_set (i := 2) scLaw.nd rfl (.inl rfl) pe_int)
      (pss_cons (ps_for PassesOwn.never rfl (pi_range1 (by rfl) B.b_range (pa_cons (pe_op op_mod (pe_cal GLawCellAt (hr.mono (by decide)) pass0 rfl (pa_cons (pv 0) (pa_cons pe_int pa_nil))) pe_int) pa_nil)) (pg_name (i := 3) scLaw.nd rfl (.inl rfl))
      (pss_one (ps_set (i := 2) scLaw.nd rfl (.inl rfl) (pe_op op_mul (pv 2) pe_int))))
      (pss_one (ps_set (i := 1) scLaw.nd rfl (.inl rfl) (pe_callB (f_min rfl) (by rfl) B.b_min (by decide +kernel) (pa_cons (pe_callB (f_max rfl) (by rfl) B.b_max (by decide +kernel) (pa_cons (pe_op op_add (pe_op op_sub (pv 2) pe_int) (pe_op op_mod (pe_op op_fdiv (pe_cal GLawCellAt (hr.mono (by decide)) pass0 rfl (pa_cons (pv 0) (pa_cons pe_int pa_nil))) pe_int) pe_int)) (pa_cons pe_int pa_nil))) (pa_cons (pe_op op_pow pe_int pe_int) pa_nil))))))) pss_nil)
      (pss_cons (ps_set (i := 4) scLaw.nd rfl (.inl rfl) (pe_cal GLawDoubling (hr.mono (by decide)) pass0 rfl (pa_cons (pv 1) pa_nil)))
      (pss_cons (ps_set (i := 5) scLaw.nd rfl (.inl rfl) (pe_cal GDoubling (hr.mono (by decide)) pass0 rfl (pa_cons (pv 1) pa_nil)))
      (pss_cons (ps_if (PW.pt (pw_or (pt_not (pt_val (pe_cal GLawNumbers (hr.mono (by decide)) pass0 rfl (pa_cons (pv 5) pa_nil)))) (pw_or1 (pt_cmpR (op_neD hr.units) (pv 5) (pv 4) (nomark _))))) (pss_one (ps_ret pe_bl)) pss_nil)
      (pss_cons (ps_expr (pe_bm PySem.F.plainAttrs_list PySem.F.slot_list_append PySem.F.type_list_append mt_append (pv 5) (pa_cons pe_int pa_nil)))
      (pss_one (ps_ret (pe_cmpR (op_eqD hr.units) (pe_cal GDoubling (hr.mono (by decide)) pass0 rfl (pa_cons (pv 1) pa_nil)) (pv 4) (nomark _))))))))))), ?_⟩
  dsimp only [cxOf, Cx.nox, Cx.wish, L2.start]
  kct_strs
  -- number by the first two ways
  refine s_cut (fun σ' H' => ∃ v : Int, (1 ≤ v ∧ v ≤ 10 ^ 30) ∧ σ' = [some (.ref a), some (.int v), none, none, none, none] ∧ H' = H) ?_ ?_
  · kpt_turns <;> intro hb
    · kct_strs
      exact ⟨_, ⟨by omega, by omega⟩, rfl, rfl⟩
    · kct_strs
      exact ⟨_, ⟨by omega, by omega⟩, rfl, rfl⟩
  rintro σ1 H1 ⟨n, hn, rfl, rfl⟩
  -- .. by the third
  refine s_cut (fun σ' H' => ∃ (v : Int) (x y : Option V), (1 ≤ v ∧ v ≤ 10 ^ 30) ∧ σ' = [some (.ref a), some (.int v), x, y, none, none] ∧ H' = H1) ?_ ?_
  · kpt_turns <;> intro hb
    · kct_strs
      refine s_for1 (x := cellAt ns 0 % 100) (fun i σ' H' => ∃ y, σ' = [some (.ref a), some (.int n), some (.int (2 ^ i)), y, none, none] ∧ H' = H1) rfl (by omega) (fun Qt qt => by kct_strs; exact qt) (by omega) ⟨_, rfl, rfl⟩ ?_ ?_
      · rintro i σ' H' hi ⟨y, rfl, rfl⟩
        kct_strs
        have e : (2 : Int) ^ (i + 1) = 2 ^ i * 2 := Int.pow_succ 2 i
        rw [e]
        exact ⟨_, rfl, rfl⟩
      · rintro σ' H' ⟨y, rfl, rfl⟩
        kct_strs
        refine ⟨_, _, _, ⟨?_, ?_⟩, rfl, rfl⟩
        · repeat (first | omega | split)
        · repeat (first | omega | split)
    · kct_strs
      exact ⟨_, _, _, hn, rfl, rfl⟩
  rintro σ2 H2 ⟨v, x, y, hv, rfl, rfl⟩
  obtain ⟨m, rfl⟩ : ∃ m : Nat, v = (m : Int) := ⟨v.toNat, by omega⟩
  have hm : 1 ≤ m ∧ m ≤ 10 ^ 30 := by omega
  have hml := dbl_len m hm.1 hm.2
  kct_strs
  refine c_dbl2 (n := m) rfl ⟨hm.1, Nat.lt_of_le_of_lt hm.2 (by decide)⟩ fun p1 H3 e3 hp1 h1 => ?_
  kct_strs
  refine c_doubling (n := m) rfl hm fun p2 H4 e4 hp2 h2 => ?_
  kct_strs
  have n12 : p1 ≠ p2 := ne_of_none h1 hp2
  refine s_ifs ?_
  kct_strs
  intro H5 e5
  kct_strs
  refine c_doubling (n := m) rfl hm fun p3 H6 e6 hp3 h3 => ?_
  kct_strs
  rw [decide_eq_true rfl]
  exact q _
end

/-! ## The end: what the top has written -/
theorem all_mk {l : PySem.W.OpenLaw} {w : World} {K : PySem.W.Frag} {h : Heap} {mg : Str → Option Value} {fa : Addr} (X : K.In h) (G : h.Ns mainGlobals mg) (hfa : mg "law" = some (.ref fa))
    {f0 : Addr} {od0 an0 : Option Addr} {sl0 : Array (Option Value)} {oc0 kV0 dc0 pm0 cd0 ct0 : Value}
    {f1 : Addr} {od1 an1 : Option Addr} {sl1 : Array (Option Value)} {oc1 kV1 dc1 pm1 cd1 ct1 : Value}
    {f2 : Addr} {od2 an2 : Option Addr} {sl2 : Array (Option Value)} {oc2 kV2 dc2 pm2 cd2 ct2 : Value}
    {f3 : Addr} {od3 an3 : Option Addr} {sl3 : Array (Option Value)} {oc3 kV3 dc3 pm3 cd3 ct3 : Value}
    {f4 : Addr} {od4 an4 : Option Addr} {sl4 : Array (Option Value)} {oc4 kV4 dc4 pm4 cd4 ct4 : Value}
    {f5 : Addr} {od5 an5 : Option Addr} {sl5 : Array (Option Value)} {oc5 kV5 dc5 pm5 cd5 ct5 : Value}
    {t_GREATEST : Tok}
    (a0 : PySem.W.nsIn K mainGlobals "doubling" = some (some (.ref f0))) (l0 : K.lookup f0 = some ⟨oc0, od0, .func (PySem.W.fnOf "doubling" "doubling" (defArgs sDoubling) (defBody sDoubling) (defScope sDoubling) .none kV0 dc0 pm0 an0 cd0 ct0), sl0⟩) (c0 : PySem.W.codeIn K cd0 "doubling" = true) (k0 : PySem.W.keepIn K (.ref f0) = true)
    (a1 : PySem.W.nsIn K mainGlobals "_law_cell_at" = some (some (.ref f1))) (l1 : K.lookup f1 = some ⟨oc1, od1, .func (PySem.W.fnOf "_law_cell_at" "_law_cell_at" (defArgs sLawCellAt) (defBody sLawCellAt) (defScope sLawCellAt) .none kV1 dc1 pm1 an1 cd1 ct1), sl1⟩) (c1 : PySem.W.codeIn K cd1 "_law_cell_at" = true) (k1 : PySem.W.keepIn K (.ref f1) = true)
    (a2 : PySem.W.nsIn K mainGlobals "_law_whole" = some (some (.ref f2))) (l2 : K.lookup f2 = some ⟨oc2, od2, .func (PySem.W.fnOf "_law_whole" "_law_whole" (defArgs sLawWhole) (defBody sLawWhole) (defScope sLawWhole) .none kV2 dc2 pm2 an2 cd2 ct2), sl2⟩) (c2 : PySem.W.codeIn K cd2 "_law_whole" = true) (k2 : PySem.W.keepIn K (.ref f2) = true)
    (a3 : PySem.W.nsIn K mainGlobals "_law_numbers" = some (some (.ref f3))) (l3 : K.lookup f3 = some ⟨oc3, od3, .func (PySem.W.fnOf "_law_numbers" "_law_numbers" (defArgs sLawNumbers) (defBody sLawNumbers) (defScope sLawNumbers) .none kV3 dc3 pm3 an3 cd3 ct3), sl3⟩) (c3 : PySem.W.codeIn K cd3 "_law_numbers" = true) (k3 : PySem.W.keepIn K (.ref f3) = true)
    (a4 : PySem.W.nsIn K mainGlobals "_law_doubling" = some (some (.ref f4))) (l4 : K.lookup f4 = some ⟨oc4, od4, .func (PySem.W.fnOf "_law_doubling" "_law_doubling" (defArgs sLawDoubling) (defBody sLawDoubling) (defScope sLawDoubling) .none kV4 dc4 pm4 an4 cd4 ct4), sl4⟩) (c4 : PySem.W.codeIn K cd4 "_law_doubling" = true) (k4 : PySem.W.keepIn K (.ref f4) = true)
    (a5 : PySem.W.nsIn K mainGlobals "law" = some (some (.ref f5))) (l5 : K.lookup f5 = some ⟨oc5, od5, .func (PySem.W.fnOf "law" "law" (defArgs sLaw) (defBody sLaw) (defScope sLaw) .none kV5 dc5 pm5 an5 cd5 ct5), sl5⟩) (c5 : PySem.W.codeIn K cd5 "law" = true) (k5 : PySem.W.keepIn K (.ref f5) = true)
    (z_len : PySem.W.nsIn K mainGlobals "len" = some none)
    (z_range : PySem.W.nsIn K mainGlobals "range" = some none)
    (z_reversed : PySem.W.nsIn K mainGlobals "reversed" = some none)
    (z_list : PySem.W.nsIn K mainGlobals "list" = some none)
    (z_int : PySem.W.nsIn K mainGlobals "int" = some none)
    (z_str : PySem.W.nsIn K mainGlobals "str" = some none)
    (z_sum : PySem.W.nsIn K mainGlobals "sum" = some none)
    (z_sorted : PySem.W.nsIn K mainGlobals "sorted" = some none)
    (z_isinstance : PySem.W.nsIn K mainGlobals "isinstance" = some none)
    (z_bool : PySem.W.nsIn K mainGlobals "bool" = some none)
    (z_tuple : PySem.W.nsIn K mainGlobals "tuple" = some none)
    (z_min : PySem.W.nsIn K mainGlobals "min" = some none)
    (z_max : PySem.W.nsIn K mainGlobals "max" = some none)
    (z_all : PySem.W.nsIn K mainGlobals "all" = some none)
    (z_ValueError : PySem.W.nsIn K mainGlobals "ValueError" = some none)
    (g_GREATEST : PySem.W.nsIn K mainGlobals "GREATEST" = some (some (.int 1000000000000000000000000000000 t_GREATEST)))
    : ∃ fd : FuncData, (∀ (s : Shared) (v : Value), BindsTo s fd ⟨[v], []⟩ [("script", v)]) ∧ ∀ base : Heap, K.In base → base.Ns mainGlobals mg → FnOk l.prog w K mg base CX0 101 fa fd ["script"] (spLaw K) := by
  have e := hfa.symm.trans (PySem.W.mg_of X G a5)
  cases e
  have B : Nb mg := { b_len := PySem.W.mg_none_of X G z_len, b_range := PySem.W.mg_none_of X G z_range, b_reversed := PySem.W.mg_none_of X G z_reversed, b_list := PySem.W.mg_none_of X G z_list, b_int := PySem.W.mg_none_of X G z_int, b_str := PySem.W.mg_none_of X G z_str, b_sum := PySem.W.mg_none_of X G z_sum, b_sorted := PySem.W.mg_none_of X G z_sorted, b_isinstance := PySem.W.mg_none_of X G z_isinstance, b_bool := PySem.W.mg_none_of X G z_bool, b_tuple := PySem.W.mg_none_of X G z_tuple, b_min := PySem.W.mg_none_of X G z_min, b_max := PySem.W.mg_none_of X G z_max, b_all := PySem.W.mg_none_of X G z_all, b_ValueError := PySem.W.mg_none_of X G z_ValueError, c_GREATEST := ⟨_, PySem.W.mg_of X G g_GREATEST⟩ }
  have F0 := fun_mk (st := sDoubling) l0 c0 k0
  have ODoubling : Own K mg "doubling" sDoubling ["number"] := Own.mk' F0 (PySem.W.mg_of X G a0) (F0.binds (ps := ["number"]) fun _ _ _ _ _ _ us hl => match us, hl with | [_], _ => rfl)
  have F1 := fun_mk (st := sLawCellAt) l1 c1 k1
  have OLawCellAt : Own K mg "_law_cell_at" sLawCellAt ["script", "k"] := Own.mk' F1 (PySem.W.mg_of X G a1) (F1.binds (ps := ["script", "k"]) fun _ _ _ _ _ _ us hl => match us, hl with | [_, _], _ => rfl)
  have F2 := fun_mk (st := sLawWhole) l2 c2 k2
  have OLawWhole : Own K mg "_law_whole" sLawWhole ["found"] := Own.mk' F2 (PySem.W.mg_of X G a2) (F2.binds (ps := ["found"]) fun _ _ _ _ _ _ us hl => match us, hl with | [_], _ => rfl)
  have F3 := fun_mk (st := sLawNumbers) l3 c3 k3
  have OLawNumbers : Own K mg "_law_numbers" sLawNumbers ["found"] := Own.mk' F3 (PySem.W.mg_of X G a3) (F3.binds (ps := ["found"]) fun _ _ _ _ _ _ us hl => match us, hl with | [_], _ => rfl)
  have F4 := fun_mk (st := sLawDoubling) l4 c4 k4
  have OLawDoubling : Own K mg "_law_doubling" sLawDoubling ["number"] := Own.mk' F4 (PySem.W.mg_of X G a4) (F4.binds (ps := ["number"]) fun _ _ _ _ _ _ us hl => match us, hl with | [_], _ => rfl)
  have F5 := fun_mk (st := sLaw) l5 c5 k5
  exact ⟨PySem.W.fnOf "law" "law" (defArgs sLaw) (defBody sLaw) (defScope sLaw) .none kV5 dc5 pm5 an5 cd5 ct5, fun s v => .of_eq rfl, fun base _ _ => all_law F5 B ODoubling OLawCellAt OLawWhole OLawNumbers OLawDoubling⟩
end Fs
open PySem PySem.W PyProof.Rows
set_option maxHeartbeats 0 in
theorem PySem.Challenge.cw_fewsums_k05_doubling_holds : PySem.Challenge.rw_fewsums_k05_doubling.Holds := by
  w_on; o_law; k_head; (case hw => w_witness2)
  k_fill
  refine L2.walk_of (l := PySem.Challenge.rw_fewsums_k05_doubling) (n := 63) (k := 101) (x := "script") (CX := fun _ => L2.CX0) (sp := fun w => Fs.spLaw _) rfl (by decide) rfl ⟨rfl, by decide, by decide⟩ (fun w h Y => PySem.W.kIn_of Y) ?F (fun _ _ a ns hl _ hS => ⟨a, ns, rfl, hS, hl, fun _ => rfl⟩) (fun _ _ _ _ _ h => h)
  case F =>
    intro w mg fa h KX G hmg
    refine' Fs.all_mk KX G hmg ?a0 ?l0 ?c0 ?k0 ?a1 ?l1 ?c1 ?k1 ?a2 ?l2 ?c2 ?k2 ?a3 ?l3 ?c3 ?k3 ?a4 ?l4 ?c4 ?k4 ?a5 ?l5 ?c5 ?k5 ?z_len ?z_range ?z_reversed ?z_list ?z_int ?z_str ?z_sum ?z_sorted ?z_isinstance ?z_bool ?z_tuple ?z_min ?z_max ?z_all ?z_ValueError ?g_GREATEST
    (case a0 => k_is)
    (case l0 => k_is)
    (case c0 => k_is)
    (case k0 => k_is)
    (case a1 => k_is)
    (case l1 => k_is)
    (case c1 => k_is)
    (case k1 => k_is)
    (case a2 => k_is)
    (case l2 => k_is)
    (case c2 => k_is)
    (case k2 => k_is)
    (case a3 => k_is)
    (case l3 => k_is)
    (case c3 => k_is)
    (case k3 => k_is)
    (case a4 => k_is)
    (case l4 => k_is)
    (case c4 => k_is)
    (case k4 => k_is)
    (case a5 => k_is)
    (case l5 => k_is)
    (case c5 => k_is)
    (case k5 => k_is)
    (case z_len => k_is)
    (case z_range => k_is)
    (case z_reversed => k_is)
    (case z_list => k_is)
    (case z_int => k_is)
    (case z_str => k_is)
    (case z_sum => k_is)
    (case z_sorted => k_is)
    (case z_isinstance => k_is)
    (case z_bool => k_is)
    (case z_tuple => k_is)
    (case z_min => k_is)
    (case z_max => k_is)
    (case z_all => k_is)
    (case z_ValueError => k_is)
    (case g_GREATEST => k_is)

