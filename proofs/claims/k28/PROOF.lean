import PyProof.Rows.All
import Wide.All
import OpenK.AllK
import Wide.FinOn
import HandS.ForMost
import HandS.ForExc
import HandS.More
import HandS.Steps
import HandS.TryMany
import HandS.IsInst
import HandS.ExcIs
import HandS.SetFor
import HandS.Rev
import HandS.Wide
import HandS.Style
import HandS.Text
import HandS.Hot
import HandS.HotCalls
import HandS.SuiteRaise
import PySem.Challenge.RW_marblerun_k28_refusals_apart
set_option Elab.async false
set_option linter.all false
set_option maxRecDepth 100000
set_option maxHeartbeats 4000000
namespace Mb
open PySem L2
/-! Base: the ledger, short readings, rules for try bodies, the tactic words -/

/-- the addresses of the program's classes -/
structure Ads where
  Board : Addr
  BoardError : Addr
  NoSite : Addr
  NoExit : Addr
  NoPlace : Addr
  NoMarble : Addr
  TooMany : Addr
  NotOpen : Addr
  NotBare : Addr
  NotTree : Addr
  TooLong : Addr
  NoBoard : Addr

/-! ### names for the operators' readings -/
abbrev mAdd : R2 := rI0 fun i j => .int (i + j)
abbrev mSub : R2 := rI0 fun i j => .int (i - j)
abbrev mMul : R2 := rI CMul fun i j => .int (i * j)
abbrev mMod : R2 := rI (fun _ j => 0 < j) fun i j => .int (i % j)
abbrev mFdiv : R2 := rI CDiv fun i j => .int (i / j)
abbrev mPow : R2 := rI CPow fun i j => .int (i ^ j.toNat)
abbrev mLt : R2 := rI0 fun i j => .bl (decide (i < j))
abbrev mLe : R2 := rI0 fun i j => .bl (decide (i ≤ j))
abbrev mGt : R2 := rI0 fun i j => .bl (decide (j < i))
abbrev mGe : R2 := rI0 fun i j => .bl (decide (j ≤ i))
abbrev mNeg : V → Hp → VK → Prop := rU fun i => .int (-i)
def mLen (K : PySem.W.Frag) : List V → Hp → VK → Prop := fun xs H Q => ∃ p ys, xs = [.ref p] ∧ (SqL K H p ys ∨ SqT K H p ys) ∧ Q (.int ys.length) H
def mList (K : PySem.W.Frag) : List V → Hp → VK → Prop := fun xs H Q => ∃ p ys, xs = [.ref p] ∧ (SqL K H p ys ∨ SqT K H p ys) ∧ ∀ l, H l = none → Q (.ref l) (upd H l (.lst ys))
def mMax2 : List V → Hp → VK → Prop := fun xs H Q => ∃ i j, xs = [.int i, .int j] ∧ Q (.int (if j > i then j else i)) H
def mAbs : List V → Hp → VK → Prop := fun xs H Q => ∃ i, xs = [.int i] ∧ Q (.int (if i < 0 then -i else i)) H
def mStr : List V → Hp → VK → Prop := fun xs H Q => ∃ i, xs = [.int i] ∧ i.natAbs.log2 < 1920 ∧ Q (.str (toString i)) H
def mInt : List V → Hp → VK → Prop := fun xs H Q => (∃ i, xs = [.int i] ∧ Q (.int i) H) ∨ ∃ k, xs = [.bl k] ∧ Q (.int (if k then 1 else 0)) H
def mLenS : List V → Hp → VK → Prop := fun xs H Q => ∃ z, xs = [.str z] ∧ z.length ≤ sizeLine ∧ Q (.int z.length) H
def rInsert : V → List V → Hp → VK → Prop := fun x vs H Q => ∃ (l : Addr) (xs : List V) (i : Int) (y : V), x = .ref l ∧ vs = [.int i, y] ∧ H l = some (.lst xs) ∧ xs.length < sizeLine ∧ 0 ≤ i ∧ i < 2 ^ 63 ∧
  Q .non (upd H l (.lst (xs.take i.toNat ++ [y] ++ xs.drop i.toNat)))
def tRaise (E : XK) (C : Addr) : TS := fun _ _ H => E (.ref C) none H
def tTry1 (K : PySem.W.Frag) (c : Value) (tb : WX → TS) (ts : Addr → Value → Option Addr → TS) (Wout : WX) : TS := fun D σ H => tb (wOnly K c ts Wout D) D σ H
def tTryN (K : PySem.W.Frag) (tb : WX → TS) (l : List (Value × (Addr → Value → Option Addr → TS))) (Wout : WX) : TS := fun D σ H => tb (wMany K Wout D l) D σ H
def tTryAs (K : PySem.W.Frag) (c : Value) (i : Nat) (tb : WX → TS) (ts : Addr → Value → Option Addr → TS) (Wout : WX) : TS := fun D σ H => tb (wAs K c i ts Wout D) D σ H
def tMethT (C : Addr) (m : Str) (sp : Sp) (E : L2.St → XK) (ta : TE) (t : TA) : TE := fun σ H Q => ta σ H fun x H1 => ∃ a dx fs, x = .ref a ∧ H1 a = some (.ins C dx fs) ∧ fs.lookup m = none ∧
  t σ H1 fun vs H2 => sp (x :: vs) H2 Q (E σ)
def tMakeT (C : Addr) (sp : Sp) (E : L2.St → XK) (t : TA) : TE := fun σ H Q => t σ H fun vs H1 => ∀ x dx, H1 x = none → H1 dx = none → dx ≠ x →
  sp (.ref x :: vs) (upd (upd H1 dx (.own x)) x (.ins C dx [])) (fun v H2 => v = .non ∧ Q (.ref x) H2) (E σ)

theorem bt_len : bootBuiltins "len" = some (.builtin "len") := PySem.boot_len
theorem bt_list : bootBuiltins "list" = some (.type "list") := by decide +kernel
theorem bt_sum : bootBuiltins "sum" = some (.builtin "sum") := by decide +kernel
theorem bt_max : bootBuiltins "max" = some (.builtin "max") := by decide +kernel
theorem bt_min : bootBuiltins "min" = some (.builtin "min") := by decide +kernel
theorem bt_all : bootBuiltins "all" = some (.builtin "all") := by decide +kernel
theorem bt_any : bootBuiltins "any" = some (.builtin "any") := by decide +kernel
theorem bt_abs : bootBuiltins "abs" = some (.builtin "abs") := by decide +kernel
theorem bt_str : bootBuiltins "str" = some (.type "str") := by decide +kernel
theorem bt_int : bootBuiltins "int" = some (.type "int") := by decide +kernel
theorem bt_bool : bootBuiltins "bool" = some (.type "bool") := by decide +kernel
theorem bt_tuple : bootBuiltins "tuple" = some (.type "tuple") := by decide +kernel
theorem bt_isinstance : bootBuiltins "isinstance" = some (.builtin "isinstance") := by decide +kernel
theorem bt_ValueError : bootBuiltins "ValueError" = some (.type "ValueError") := by decide +kernel

/-! ### the ledger: what is frozen (B), what may change (L) -/
structure Led (B : Hp) (L : List (Addr × HO)) (H : Hp) : Prop where
  same : Same B H
  at_ : ∀ (i : Nat) (p : Addr) (o : HO), L[i]? = some (p, o) → H p = some o
  nd : (L.map Prod.fst).Nodup
  new : ∀ p, p ∈ L.map Prod.fst → B p = none

theorem Led.nil (H : Hp) : Led H [] H := ⟨Same.refl H, fun i p o h => by simp at h, by simp, fun p h => by simp at h⟩
theorem Led.get {B : Hp} {L : List (Addr × HO)} {H : Hp} (h : Led B L H) (i : Nat) {p : Addr} {o : HO} (e : L[i]? = some (p, o)) : H p = some o := h.at_ i p o e
theorem Led.mem {B : Hp} {L : List (Addr × HO)} {H : Hp} (h : Led B L H) {p : Addr} {o : HO} (e : (p, o) ∈ L) : H p = some o := by
  obtain ⟨i, hi, q⟩ := List.getElem_of_mem e
  exact h.at_ i p o (by rw [List.getElem?_eq_getElem hi, q])
theorem Led.keys {B : Hp} {L : List (Addr × HO)} {H : Hp} (h : Led B L H) {p : Addr} (e : p ∈ L.map Prod.fst) : ∃ o, H p = some o := by
  obtain ⟨⟨q, o⟩, hm, rfl⟩ := List.mem_map.mp e
  exact ⟨o, h.mem hm⟩
theorem Led.out {B : Hp} {L : List (Addr × HO)} {H : Hp} (h : Led B L H) {p : Addr} (e : H p = none) : p ∉ L.map Prod.fst := fun m => by
  obtain ⟨o, q⟩ := h.keys m
  rw [e] at q
  cases q
theorem key_at {L : List (Addr × HO)} {i : Nat} {p : Addr} {o : HO} (e : L[i]? = some (p, o)) : p ∈ L.map Prod.fst := List.mem_map.mpr ⟨(p, o), List.mem_of_getElem? e, rfl⟩
theorem Led.base {B : Hp} {L : List (Addr × HO)} {H : Hp} (h : Led B L H) {K : PySem.W.Frag} {a : Addr} {xs : List V} (s : SqL K B a xs) : SqL K H a xs := h.same.seq s
theorem Led.sq {B : Hp} {L : List (Addr × HO)} {H : Hp} (h : Led B L H) (i : Nat) {K : PySem.W.Frag} {p : Addr} {xs : List V} (e : L[i]? = some (p, .lst xs)) : SqL K H p xs := SqL.of (h.get i e)
theorem Led.ext {B : Hp} {L : List (Addr × HO)} {H H' : Hp} (h : Led B L H) (s : Same H H') : Led B L H' :=
  ⟨h.same.trans s, fun i p o e => s _ _ (h.at_ i p o e), h.nd, h.new⟩
theorem map_set_fst {L : List (Addr × HO)} {i : Nat} {p : Addr} {o o' : HO} (e : L[i]? = some (p, o)) : (L.set i (p, o')).map Prod.fst = L.map Prod.fst := by
  apply List.ext_getElem?
  intro j
  rw [List.getElem?_map, List.getElem?_map]
  by_cases q : i = j
  · subst q
    have hl : i < L.length := (List.getElem?_eq_some_iff.mp e).1
    rw [List.getElem?_set_self hl, e]
    rfl
  · rw [List.getElem?_set_ne q]
theorem Led.set {B : Hp} {L : List (Addr × HO)} {H : Hp} (h : Led B L H) {i : Nat} {p : Addr} {o : HO} (e : L[i]? = some (p, o)) (o' : HO) : Led B (L.set i (p, o')) (upd H p o') := by
  have hm := map_set_fst (o' := o') e
  have hl : i < L.length := (List.getElem?_eq_some_iff.mp e).1
  refine ⟨fun b u q => ?_, fun j q u z => ?_, by rw [hm]; exact h.nd, fun q z => h.new q (by rw [← hm]; exact z)⟩
  · rw [upd_ne (ne_of_none q (h.new p (key_at e)))]
    exact h.same b u q
  · by_cases ij : i = j
    · subst ij
      rw [List.getElem?_set_self hl] at z
      cases z
      exact upd_same
    · rw [List.getElem?_set_ne ij] at z
      have np : q ≠ p := fun hq => by
        subst hq
        have e1 : (L.map Prod.fst)[j]? = some q := by rw [List.getElem?_map, z]; rfl
        have e2 : (L.map Prod.fst)[i]? = some q := by rw [List.getElem?_map, e]; rfl
        exact ij (nd_ix h.nd e2 e1)
      rw [upd_ne np]
      exact h.at_ j q u z
theorem Led.add {B : Hp} {L : List (Addr × HO)} {H H' : Hp} (h : Led B L H) {p : Addr} {o : HO} (s : Same H H') (n : H p = none) (e : H' p = some o) : Led B (L ++ [(p, o)]) H' := by
  have out := h.out n
  refine ⟨h.same.trans s, fun i q u z => ?_, ?_, fun q z => ?_⟩
  · by_cases hi : i < L.length
    · rw [List.getElem?_append_left hi] at z
      exact s _ _ (h.at_ i q u z)
    · rw [List.getElem?_append_right (by omega)] at z
      cases k : i - L.length with
      | zero =>
        rw [k] at z
        cases z
        exact e
      | succ m =>
        rw [k] at z
        simp at z
  · rw [List.map_append, List.nodup_append]
    refine ⟨h.nd, by simp, fun a ha b hb => ?_⟩
    simp at hb
    subst hb
    intro q
    subst q
    exact out ha
  · rw [List.map_append] at z
    rcases List.mem_append.mp z with z | z
    · exact h.new q z
    · simp at z
      subst z
      cases q2 : B q with
      | none => rfl
      | some u =>
        rw [h.same _ _ q2] at n
        cases n
theorem same_upd {H : Hp} {p : Addr} {o : HO} (n : H p = none) : Same H (upd H p o) := fun b u q => by
  rw [upd_ne (ne_of_none q n)]
  exact q
theorem Led.alloc {B : Hp} {L : List (Addr × HO)} {H : Hp} (h : Led B L H) {p : Addr} (n : H p = none) (o : HO) : Led B (L ++ [(p, o)]) (upd H p o) := h.add (same_upd n) n upd_same
/-- all but the ledger becomes the base -/
theorem Led.rebase {B : Hp} {L : List (Addr × HO)} {H : Hp} (h : Led B L H) : ∃ B', Same B B' ∧ Led B' L H ∧ ∀ p o, H p = some o → p ∉ L.map Prod.fst → B' p = some o := by
  classical
  refine ⟨fun a => if a ∈ L.map Prod.fst then none else H a, fun b u q => ?_, ⟨fun b u q => ?_, h.at_, h.nd, fun p z => if_pos z⟩, fun p o q z => ?_⟩
  · have z : b ∉ L.map Prod.fst := fun m => by
      rw [h.new b m] at q
      cases q
    show (if b ∈ L.map Prod.fst then none else H b) = some u
    rw [if_neg z]
    exact h.same b u q
  · by_cases z : b ∈ L.map Prod.fst
    · rw [show (if b ∈ L.map Prod.fst then none else H b) = none from if_pos z] at q
      cases q
    · rw [show (if b ∈ L.map Prod.fst then none else H b) = H b from if_neg z] at q
      exact q
  · show (if p ∈ L.map Prod.fst then none else H p) = some o
    rw [if_neg z]
    exact q
/-- objects forgotten -/
theorem Led.sub {B : Hp} {L L' : List (Addr × HO)} {H : Hp} (h : Led B L H) (s : L'.Sublist L) : Led B L' H :=
  ⟨h.same, fun i p o e => h.mem (s.subset (List.mem_of_getElem? e)), (s.map Prod.fst).nodup h.nd, fun p z => h.new p ((s.map Prod.fst).subset z)⟩

/-! ### lists of ints, of rows -/
abbrev ilst (ns : List Int) : HO := .lst (ns.map V.int)
abbrev blst (bs : List Bool) : HO := .lst (bs.map V.bl)
/-- rows stand at p in the frozen part -/
def RowsAt (B : Hp) (p : Addr) (rows : List (List Int)) : Prop := ∃ as : List Addr, B p = some (.lst (as.map V.ref)) ∧ as.length = rows.length ∧
  ∀ (i : Nat) (r : Addr) (row : List Int), as[i]? = some r → rows[i]? = some row → B r = some (ilst row)
theorem RowsAt.mono {B B' : Hp} {p : Addr} {rows : List (List Int)} (h : RowsAt B p rows) (s : Same B B') : RowsAt B' p rows := by
  obtain ⟨as, h1, h2, h3⟩ := h
  exact ⟨as, s _ _ h1, h2, fun i r row e1 e2 => s _ _ (h3 i r row e1 e2)⟩

theorem len_map_int (ns : List Int) : (ns.map V.int).length = ns.length := List.length_map _
theorem atI_int {ns : List Int} {i : Int} (h0 : 0 ≤ i) (h1 : i < ns.length) : atI (ns.map V.int) i = some (.int (ns.getD i.toNat 0)) := by
  have hl : i.toNat < ns.length := by omega
  refine at_of (j := i.toNat) (by omega) ?_
  rw [List.getElem?_map, List.getElem?_eq_getElem hl, List.getD_eq_getElem?_getD, List.getElem?_eq_getElem hl]
  rfl
theorem atI_bl {bs : List Bool} {i : Int} (h0 : 0 ≤ i) (h1 : i < bs.length) : atI (bs.map V.bl) i = some (.bl (bs.getD i.toNat false)) := by
  have hl : i.toNat < bs.length := by omega
  refine at_of (j := i.toNat) (by omega) ?_
  rw [List.getElem?_map, List.getElem?_eq_getElem hl, List.getD_eq_getElem?_getD, List.getElem?_eq_getElem hl]
  rfl

/-! ### steps of a reading -/
section
variable {K : PySem.W.Frag} {σ : L2.St} {H : Hp} {Q : VK} {D : Ends} {ta tb te : TE} {t u : TS} {tt tu : TT} {r : R2}
theorem g_seq (h : t { D with nx := u D } σ H) : tSeq t u D σ H := h
theorem g_asg {g : TG} (h : te σ H fun x H1 => g x σ H1 D.nx) : tAsg te g D σ H := h
theorem g_name {i : Nat} {v : V} {R : L2.St → Hp → Prop} (h : R (σ.set i (some v)) H) : gName i v σ H R := h
theorem g_var {i : Nat} {v : V} (e : σ[i]? = some (some v)) (h : Q v H) : tVar i σ H Q := ⟨v, e, h⟩
theorem g_c {v : V} (h : Q v H) : tC v σ H Q := h
theorem g_op (h : ta σ H fun x H1 => tb σ H1 fun y H2 => r x y H2 Q) : tOp r ta tb σ H Q := h
theorem g_un {r : V → Hp → VK → Prop} (h : ta σ H fun x H1 => r x H1 Q) : tUn r ta σ H Q := h
theorem g_I0 {g : Int → Int → V} {i j : Int} (h : Q (g i j) H) : rI0 g (.int i) (.int j) H Q := ⟨i, j, rfl, rfl, h⟩
theorem g_I {C : Int → Int → Prop} {g : Int → Int → V} {i j : Int} (c : C i j) (h : Q (g i j) H) : rI C g (.int i) (.int j) H Q := ⟨i, j, rfl, rfl, c, h⟩
theorem g_U {g : Int → V} {i : Int} (h : Q (g i) H) : rU g (.int i) H Q := ⟨i, rfl, h⟩
theorem g_mulL {i j : Int} (c : -(2 ^ 64) < i ∧ i < 2 ^ 64) (h : Q (.int (i * j)) H) : mMul (.int i) (.int j) H Q := ⟨i, j, rfl, rfl, .inl c, h⟩
theorem g_mulR {i j : Int} (c : -(2 ^ 64) < j ∧ j < 2 ^ 64) (h : Q (.int (i * j)) H) : mMul (.int i) (.int j) H Q := ⟨i, j, rfl, rfl, .inr c, h⟩
theorem g_eqI {i j : Int} (h : Q (.bl (decide (i = j))) H) : rEq (.int i) (.int j) H Q :=
  ⟨rfl, by rw [show decide (V.int i = V.int j) = decide (i = j) from decide_eq_decide.mpr ⟨fun e => V.int.inj e, fun e => e ▸ rfl⟩]; exact h⟩
theorem g_neI {i j : Int} (h : Q (.bl (!decide (i = j))) H) : rNe (.int i) (.int j) H Q :=
  ⟨rfl, by rw [show decide (V.int i = V.int j) = decide (i = j) from decide_eq_decide.mpr ⟨fun e => V.int.inj e, fun e => e ▸ rfl⟩]; exact h⟩
theorem g_eqB {i j : Bool} (h : Q (.bl (decide (i = j))) H) : rEq (.bl i) (.bl j) H Q :=
  ⟨rfl, by rw [show decide (V.bl i = V.bl j) = decide (i = j) from decide_eq_decide.mpr ⟨fun e => V.bl.inj e, fun e => e ▸ rfl⟩]; exact h⟩
theorem g_neB {i j : Bool} (h : Q (.bl (!decide (i = j))) H) : rNe (.bl i) (.bl j) H Q :=
  ⟨rfl, by rw [show decide (V.bl i = V.bl j) = decide (i = j) from decide_eq_decide.mpr ⟨fun e => V.bl.inj e, fun e => e ▸ rfl⟩]; exact h⟩
theorem g_eqS {i j : Str} (h : Q (.bl (decide (i = j))) H) : rEq (.str i) (.str j) H Q :=
  ⟨rfl, by rw [show decide (V.str i = V.str j) = decide (i = j) from decide_eq_decide.mpr ⟨fun e => V.str.inj e, fun e => e ▸ rfl⟩]; exact h⟩
theorem g_neS {i j : Str} (h : Q (.bl (!decide (i = j))) H) : rNe (.str i) (.str j) H Q :=
  ⟨rfl, by rw [show decide (V.str i = V.str j) = decide (i = j) from decide_eq_decide.mpr ⟨fun e => V.str.inj e, fun e => e ▸ rfl⟩]; exact h⟩
theorem g_tB {te : TE} {R : Bool → Hp → Prop} (h : te σ H fun x H1 => ∃ c, x = .bl c ∧ R c H1) : tB te σ H R := h
theorem g_tTest {te : TE} {R : Bool → Hp → Prop} (h : te σ H fun x H1 => ∃ c, x = .bl c ∧ R c H1) : tTest te σ H R := h
theorem g_bl {c : Bool} {R : Bool → Hp → Prop} (h : R c H) : ∃ k, V.bl c = .bl k ∧ R k H := ⟨c, rfl, h⟩
theorem g_and {R : Bool → Hp → Prop} (h : tt σ H fun c H1 => if c = true then tu σ H1 R else R false H1) : tAnd tt tu σ H R := h
theorem g_or {R : Bool → Hp → Prop} (h : tt σ H fun c H1 => if c = true then R true H1 else tu σ H1 R) : tOr tt tu σ H R := h
theorem g_not {R : Bool → Hp → Prop} (h : tt σ H fun c H1 => R (!c) H1) : tNot tt σ H R := h
theorem g_andV (h : ta σ H fun x H1 => ∃ c, x = .bl c ∧ if c = true then tb σ H1 Q else Q (.bl false) H1) : tAndV ta tb σ H Q := h
theorem g_orV (h : ta σ H fun x H1 => ∃ c, x = .bl c ∧ if c = true then Q (.bl true) H1 else tb σ H1 Q) : tOrV ta tb σ H Q := h
theorem g_notV (h : ta σ H fun x H1 => ∃ c, x = .bl c ∧ Q (.bl (!c)) H1) : tNotV ta σ H Q := h
theorem g_blV {c : Bool} {R : Bool → Prop} (h : R c) : ∃ k, V.bl c = .bl k ∧ R k := ⟨c, rfl, h⟩
theorem g_ifE (h : tt σ H fun c H1 => if c = true then ta σ H1 Q else tb σ H1 Q) : tIf tt ta tb σ H Q := h
theorem g_ifS (h : tt σ H fun c H1 => if c = true then t D σ H1 else u D σ H1) : tIfS tt t u D σ H := h
theorem g_next (h : D.nx σ H) : tNext D σ H := h
theorem g_ret (h : te σ H D.rt) : tRet te D σ H := h
theorem g_retN (h : D.rt .non H) : tRetN D σ H := h
theorem g_drop (h : te σ H fun _ H1 => D.nx σ H1) : tDrop te D σ H := h
theorem g_raise {E : XK} {C : Addr} (h : E (.ref C) none H) : tRaise E C D σ H := h
theorem g_nil {R : List V → Hp → Prop} (h : R [] H) : tNil σ H R := h
theorem g_cons {tr : TA} {R : List V → Hp → Prop} (h : te σ H fun x H1 => tr σ H1 fun xs H2 => R (x :: xs) H2) : tCons te tr σ H R := h
theorem g_cb {r : List V → Hp → VK → Prop} {ta : TA} (h : ta σ H fun vs H1 => r vs H1 Q) : tCB r ta σ H Q := h
theorem g_call {sp : Sp} {E : XK} {ta : TA} (h : ta σ H fun vs H1 => sp vs H1 Q E) : tCall sp [] E ta σ H Q := by
  show ta σ H fun vs H1 => sp (vs ++ []) H1 Q E
  have e : (fun (vs : List V) H1 => sp (vs ++ []) H1 Q E) = fun vs H1 => sp vs H1 Q E := by
    funext vs H1
    rw [List.append_nil]
  rw [e]
  exact h
theorem g_len {p : Addr} {xs : List V} (s : SqL K H p xs) (h : Q (.int xs.length) H) : mLen K [.ref p] H Q := ⟨p, xs, rfl, .inl s, h⟩
theorem g_lenI {p : Addr} {ns : List Int} (s : SqL K H p (ns.map V.int)) (h : Q (.int ns.length) H) : mLen K [.ref p] H Q := ⟨p, _, rfl, .inl s, by rw [List.length_map]; exact h⟩
theorem g_lenB {p : Addr} {ns : List Bool} (s : SqL K H p (ns.map V.bl)) (h : Q (.int ns.length) H) : mLen K [.ref p] H Q := ⟨p, _, rfl, .inl s, by rw [List.length_map]; exact h⟩
theorem g_ixI {p : Addr} {ns : List Int} {i : Int} (s : SqL K H p (ns.map V.int)) (h0 : 0 ≤ i) (h1 : i < ns.length) (h : Q (.int (ns.getD i.toNat 0)) H) : rIxL K (.ref p) (.int i) H Q :=
  ⟨p, _, i, _, rfl, rfl, s, atI_int h0 h1, h⟩
theorem g_ixB {p : Addr} {bs : List Bool} {i : Int} (s : SqL K H p (bs.map V.bl)) (h0 : 0 ≤ i) (h1 : i < bs.length) (h : Q (.bl (bs.getD i.toNat false)) H) : rIxL K (.ref p) (.int i) H Q :=
  ⟨p, _, i, _, rfl, rfl, s, atI_bl h0 h1, h⟩
theorem g_lst {ta : TA} (h : ta σ H fun xs H1 => xs.length ≤ sizeLine ∧ ∀ p, H1 p = none → Q (.ref p) (upd H1 p (.lst xs))) : tLst ta σ H Q := h
theorem g_sum {p : Addr} {ns : List Int} (s : SqL K H p (ns.map V.int)) (h : Q (.int ns.sum) H) : rSum K [.ref p] H Q := ⟨p, ns, rfl, s, h⟩
theorem g_fld {a C dx : Addr} {fs : List (Str × V)} {v : V} {f : Str} (e : H a = some (.ins C dx fs)) (c : Cls K C) (n : NoAttr K C f) (l : fs.lookup f = some v) (h : Q v H) :
    ∃ a' C' dx' fs' v', V.ref a = .ref a' ∧ H a' = some (.ins C' dx' fs') ∧ Cls K C' ∧ NoAttr K C' f ∧ fs'.lookup f = some v' ∧ Q v' H := ⟨a, C, dx, fs, v, rfl, e, c, n, l, h⟩
theorem g_tFld {f : Str} (h : ta σ H fun x H1 => ∃ a C dx fs v, x = .ref a ∧ H1 a = some (.ins C dx fs) ∧ Cls K C ∧ NoAttr K C f ∧ fs.lookup f = some v ∧ Q v H1) : tFld K ta f σ H Q := h
theorem g_mod {i j : Int} (c : 0 < j) (h : Q (.int (i % j)) H) : mMod (.int i) (.int j) H Q := ⟨i, j, rfl, rfl, c, h⟩
theorem g_fdiv {i j : Int} (c : 0 < j) (c2 : j < 1073741824) (h : Q (.int (i / j)) H) : mFdiv (.int i) (.int j) H Q := ⟨i, j, rfl, rfl, ⟨c, c2⟩, h⟩
theorem ifPt {p : Prop} [Decidable p] {A B : Prop} (hp : p) (h : A) : if decide p = true then A else B := by
  rw [if_pos (decide_eq_true hp)]
  exact h
theorem ifPf {p : Prop} [Decidable p] {A B : Prop} (hp : ¬ p) (h : B) : if decide p = true then A else B := by
  rw [if_neg (by simp [hp])]
  exact h
theorem ifNt {p : Prop} [Decidable p] {A B : Prop} (hp : ¬ p) (h : A) : if (!decide p) = true then A else B := by
  rw [if_pos (by simp [hp])]
  exact h
theorem ifNf {p : Prop} [Decidable p] {A B : Prop} (hp : p) (h : B) : if (!decide p) = true then A else B := by
  rw [if_neg (by simp [hp])]
  exact h
theorem ifP {p : Prop} [Decidable p] {A B : Prop} (h1 : p → A) (h2 : ¬ p → B) : if decide p = true then A else B := by
  by_cases h : p
  · rw [if_pos (decide_eq_true h)]
    exact h1 h
  · rw [if_neg (by simp [h])]
    exact h2 h
theorem ifN {p : Prop} [Decidable p] {A B : Prop} (h1 : ¬ p → A) (h2 : p → B) : if (!decide p) = true then A else B := by
  by_cases h : p
  · rw [if_neg (by simp [h])]
    exact h2 h
  · rw [if_pos (by simp [h])]
    exact h1 h
theorem ifC {c : Bool} {A B : Prop} (h1 : c = true → A) (h2 : c = false → B) : if c = true then A else B := by
  cases c with
  | true => exact iteT (h1 rfl)
  | false => exact iteF (h2 rfl)
end

/-! ### the class Board -/
structure BdOk (K : PySem.W.Frag) (G : Ads) : Prop where
  cl : Cls K G.Board
  n_rows : NoAttr K G.Board "rows"
  n_turns : NoAttr K G.Board "turns"
  n_loads : NoAttr K G.Board "loads"
  n_steps : NoAttr K G.Board "steps"
  n_taken : NoAttr K G.Board "taken"

/-! ### the law's own promise -/
def spLaw (K : PySem.W.Frag) : Sp := fun vs H Q _ => ∃ (a : Addr) (ns : List Int), vs = [.ref a] ∧ SqL K H a (ns.map V.int) ∧ ns.length ≤ 63 ∧ ∀ H', Q (.bl true) H'
theorem lenLaw {K : PySem.W.Frag} {vs H Q E} (h : spLaw K vs H Q E) : vs.length = 1 := by
  obtain ⟨a, ns, rfl, _⟩ := h
  rfl


/-! Rows, boards in the heap and in the ledger -/
/-- rows that came new -/
def NewRows (H H' : Hp) (q : Addr) (rows : List (List Int)) : Prop := ∃ as : List Addr, H' q = some (.lst (as.map V.ref)) ∧ H q = none ∧ as.length = rows.length ∧
  ∀ (i : Nat) (r : Addr) (row : List Int), as[i]? = some r → rows[i]? = some row → H' r = some (ilst row) ∧ H r = none
theorem NewRows.at_ {H H' : Hp} {q : Addr} {rows : List (List Int)} (h : NewRows H H' q rows) : RowsAt H' q rows := by
  obtain ⟨as, h1, _, h2, h3⟩ := h
  exact ⟨as, h1, h2, fun i r row e1 e2 => (h3 i r row e1 e2).1⟩
theorem NewRows.mono {H H1 H2 : Hp} {q : Addr} {rows : List (List Int)} (h : NewRows H H1 q rows) (s : Same H1 H2) : NewRows H H2 q rows := by
  obtain ⟨as, h1, h0, h2, h3⟩ := h
  exact ⟨as, s _ _ h1, h0, h2, fun i r row e1 e2 => ⟨s _ _ (h3 i r row e1 e2).1, (h3 i r row e1 e2).2⟩⟩
theorem NewRows.back {H0 H H1 : Hp} {q : Addr} {rows : List (List Int)} (h : NewRows H H1 q rows) (s : Same H0 H) : NewRows H0 H1 q rows := by
  obtain ⟨as, h1, h0, h2, h3⟩ := h
  exact ⟨as, h1, s.free h0, h2, fun i r row e1 e2 => ⟨(h3 i r row e1 e2).1, s.free (h3 i r row e1 e2).2⟩⟩
theorem Led.rows {B H H' : Hp} {L : List (Addr × HO)} {q : Addr} {rows : List (List Int)} (h : Led B L H) (s : Same H H') (n : NewRows H H' q rows) : ∃ B', Same B B' ∧ NewRows H B' q rows ∧ Led B' L H' := by
  obtain ⟨B', s1, l1, k1⟩ := (h.ext s).rebase
  obtain ⟨as, h1, h0, h2, h3⟩ := n
  exact ⟨B', s1, ⟨as, k1 _ _ h1 (h.out h0), h0, h2, fun i r row e1 e2 => ⟨k1 _ _ (h3 i r row e1 e2).1 (h.out (h3 i r row e1 e2).2), (h3 i r row e1 e2).2⟩⟩, l1⟩
/-- an item of rows read -/
theorem g_row {K : PySem.W.Frag} {H : Hp} {Q : VK} {p : Addr} {rows : List (List Int)} {i : Int} (R : RowsAt H p rows) (h0 : 0 ≤ i) (h1 : i < rows.length) (h : ∀ r, SqL K H r ((rows.getD i.toNat []).map V.int) → Q (.ref r) H) : rIxL K (.ref p) (.int i) H Q := by
  obtain ⟨as, e1, e2, e3⟩ := R
  have hl : i.toNat < rows.length := by omega
  have ha : i.toNat < as.length := by omega
  refine ⟨p, _, i, .ref as[i.toNat], rfl, rfl, SqL.of e1, at_of (j := i.toNat) (by omega) ?_, h _ (SqL.of ?_)⟩
  · rw [List.getElem?_map, List.getElem?_eq_getElem ha]
    rfl
  · have q := e3 i.toNat as[i.toNat] rows[i.toNat] (List.getElem?_eq_getElem ha) (List.getElem?_eq_getElem hl)
    rw [List.getD_eq_getElem?_getD, List.getElem?_eq_getElem hl]
    exact q
theorem g_rowL {K : PySem.W.Frag} {H : Hp} {Q : VK} {p : Addr} {rows : List (List Int)} {i : Int} (R : RowsAt H p rows) (h0 : 0 ≤ i) (h1 : i < rows.length) (h : ∀ r, H r = some (ilst (rows.getD i.toNat [])) → Q (.ref r) H) : rIxL K (.ref p) (.int i) H Q := by
  obtain ⟨as, e1, e2, e3⟩ := R
  have hl : i.toNat < rows.length := by omega
  have ha : i.toNat < as.length := by omega
  refine ⟨p, _, i, .ref as[i.toNat], rfl, rfl, SqL.of e1, at_of (j := i.toNat) (by omega) ?_, h _ ?_⟩
  · rw [List.getElem?_map, List.getElem?_eq_getElem ha]
    rfl
  · have q := e3 i.toNat as[i.toNat] rows[i.toNat] (List.getElem?_eq_getElem ha) (List.getElem?_eq_getElem hl)
    rw [List.getD_eq_getElem?_getD, List.getElem?_eq_getElem hl]
    exact q
theorem g_lenR {K : PySem.W.Frag} {H : Hp} {Q : VK} {p : Addr} {rows : List (List Int)} (R : RowsAt H p rows) (h : Q (.int rows.length) H) : mLen K [.ref p] H Q := by
  obtain ⟨as, e1, e2, _⟩ := R
  exact ⟨p, _, rfl, .inl (SqL.of e1), by rw [List.length_map, e2]; exact h⟩
theorem Led.ra {B H : Hp} {L : List (Addr × HO)} {p : Addr} {rows : List (List Int)} (h : Led B L H) (r : RowsAt B p rows) : RowsAt H p rows := r.mono h.same

/-! ### rows that make a board -/
def OkRow (n : Nat) (row : List Int) : Prop := 1 ≤ row.length ∧ row.length ≤ 8 ∧ ∀ g, g ∈ row → -1 ≤ g ∧ g < n
def OkRows (rows : List (List Int)) : Prop := 1 ≤ rows.length ∧ rows.length ≤ 12 ∧ ∀ row, row ∈ rows → OkRow rows.length row
def TurnsOk (rows : List (List Int)) (turns : List Int) : Prop := turns.length = rows.length ∧ ∀ k : Nat, k < rows.length → 0 ≤ turns.getD k 0 ∧ turns.getD k 0 < (rows.getD k []).length
theorem getD_mem {α : Type} {l : List α} {k : Nat} {d : α} (h : k < l.length) : l.getD k d ∈ l := by
  rw [List.getD_eq_getElem?_getD, List.getElem?_eq_getElem h]
  exact List.getElem_mem h
theorem OkRows.row {rows : List (List Int)} (h : OkRows rows) {k : Nat} (hk : k < rows.length) : OkRow rows.length (rows.getD k []) := h.2.2 _ (getD_mem hk)
theorem OkRows.exit {rows : List (List Int)} (h : OkRows rows) {k j : Nat} (hk : k < rows.length) (hj : j < (rows.getD k []).length) : -1 ≤ (rows.getD k []).getD j 0 ∧ (rows.getD k []).getD j 0 < rows.length := (h.row hk).2.2 _ (getD_mem hj)
theorem getD_set {α : Type} {l : List α} {i j : Nat} {x d : α} (h : i < l.length) : (l.set i x).getD j d = if i = j then x else l.getD j d := by
  rw [List.getD_eq_getElem?_getD, List.getD_eq_getElem?_getD]
  by_cases e : i = j
  · subst e
    rw [if_pos rfl, List.getElem?_set_self h]
    rfl
  · rw [if_neg e, List.getElem?_set_ne e]

/-! ### a board's fields -/
def bf (r t l s : Addr) (n : Int) : List (Str × V) := [("rows", .ref r), ("turns", .ref t), ("loads", .ref l), ("steps", .ref s), ("taken", .int n)]
section
variable {r t l s t' l' s' : Addr} {n n' : Int}
theorem st12 : (("turns" : Str) == ("rows" : Str)) = false := by decide +kernel
theorem st13 : (("loads" : Str) == ("rows" : Str)) = false := by decide +kernel
theorem st14 : (("steps" : Str) == ("rows" : Str)) = false := by decide +kernel
theorem st15 : (("taken" : Str) == ("rows" : Str)) = false := by decide +kernel
theorem st23 : (("loads" : Str) == ("turns" : Str)) = false := by decide +kernel
theorem st24 : (("steps" : Str) == ("turns" : Str)) = false := by decide +kernel
theorem st25 : (("taken" : Str) == ("turns" : Str)) = false := by decide +kernel
theorem st34 : (("steps" : Str) == ("loads" : Str)) = false := by decide +kernel
theorem st35 : (("taken" : Str) == ("loads" : Str)) = false := by decide +kernel
theorem st45 : (("taken" : Str) == ("steps" : Str)) = false := by decide +kernel
theorem bf_rows : (bf r t l s n).lookup ("rows" : Str) = some (.ref r) := by simp only [bf, List.lookup, beq_self_eq_true]
theorem bf_turns : (bf r t l s n).lookup ("turns" : Str) = some (.ref t) := by simp only [bf, List.lookup, st12, beq_self_eq_true]
theorem bf_loads : (bf r t l s n).lookup ("loads" : Str) = some (.ref l) := by simp only [bf, List.lookup, st13, st23, beq_self_eq_true]
theorem bf_steps : (bf r t l s n).lookup ("steps" : Str) = some (.ref s) := by simp only [bf, List.lookup, st14, st24, st34, beq_self_eq_true]
theorem bf_taken : (bf r t l s n).lookup ("taken" : Str) = some (.int n) := by simp only [bf, List.lookup, st15, st25, st35, st45, beq_self_eq_true]
theorem sn12 : ¬ (("rows" : Str) = ("turns" : Str)) := by decide +kernel
theorem sn13 : ¬ (("rows" : Str) = ("loads" : Str)) := by decide +kernel
theorem sn14 : ¬ (("rows" : Str) = ("steps" : Str)) := by decide +kernel
theorem sn15 : ¬ (("rows" : Str) = ("taken" : Str)) := by decide +kernel
theorem sn23 : ¬ (("turns" : Str) = ("loads" : Str)) := by decide +kernel
theorem sn24 : ¬ (("turns" : Str) = ("steps" : Str)) := by decide +kernel
theorem sn25 : ¬ (("turns" : Str) = ("taken" : Str)) := by decide +kernel
theorem sn34 : ¬ (("loads" : Str) = ("steps" : Str)) := by decide +kernel
theorem sn35 : ¬ (("loads" : Str) = ("taken" : Str)) := by decide +kernel
theorem sn45 : ¬ (("steps" : Str) = ("taken" : Str)) := by decide +kernel
theorem bf_pturns : putF ("turns" : Str) (.ref t') (bf r t l s n) = bf r t' l s n := by simp only [bf, putF, sn12, if_false, if_true]
theorem bf_ploads : putF ("loads" : Str) (.ref l') (bf r t l s n) = bf r t l' s n := by simp only [bf, putF, sn13, sn23, if_false, if_true]
theorem bf_psteps : putF ("steps" : Str) (.ref s') (bf r t l s n) = bf r t l s' n := by simp only [bf, putF, sn14, sn24, sn34, if_false, if_true]
theorem bf_ptaken : putF ("taken" : Str) (.int n') (bf r t l s n) = bf r t l s n' := by simp only [bf, putF, sn15, sn25, sn35, sn45, if_false, if_true]
theorem bf_made : putF ("taken" : Str) (.int n) (putF ("steps" : Str) (.ref s) (putF ("loads" : Str) (.ref l) (putF ("turns" : Str) (.ref t) (putF ("rows" : Str) (.ref r) [])))) = bf r t l s n := by
  simp only [bf, putF, sn12, sn13, sn14, sn15, sn23, sn24, sn25, sn34, sn35, sn45, if_false]
theorem bf_len : (bf r t l s n).length < 1000 := by show 5 < 1000; decide
theorem bf_none {m : Str} (h1 : ¬ m = ("rows" : Str)) (h2 : ¬ m = ("turns" : Str)) (h3 : ¬ m = ("loads" : Str)) (h4 : ¬ m = ("steps" : Str)) (h5 : ¬ m = ("taken" : Str)) : (bf r t l s n).lookup m = none := by
  have e1 : (m == ("rows" : Str)) = false := by simpa using h1
  have e2 : (m == ("turns" : Str)) = false := by simpa using h2
  have e3 : (m == ("loads" : Str)) = false := by simpa using h3
  have e4 : (m == ("steps" : Str)) = false := by simpa using h4
  have e5 : (m == ("taken" : Str)) = false := by simpa using h5
  simp only [bf, List.lookup, e1, e2, e3, e4, e5]
theorem bm_has_site : (bf r t l s n).lookup ("has_site" : Str) = none := bf_none (by decide +kernel) (by decide +kernel) (by decide +kernel) (by decide +kernel) (by decide +kernel)
theorem bm_turn_to : (bf r t l s n).lookup ("turn_to" : Str) = none := bf_none (by decide +kernel) (by decide +kernel) (by decide +kernel) (by decide +kernel) (by decide +kernel)
theorem bm_load : (bf r t l s n).lookup ("load" : Str) = none := bf_none (by decide +kernel) (by decide +kernel) (by decide +kernel) (by decide +kernel) (by decide +kernel)
theorem bm_become : (bf r t l s n).lookup ("become" : Str) = none := bf_none (by decide +kernel) (by decide +kernel) (by decide +kernel) (by decide +kernel) (by decide +kernel)
theorem bm_twin : (bf r t l s n).lookup ("twin" : Str) = none := bf_none (by decide +kernel) (by decide +kernel) (by decide +kernel) (by decide +kernel) (by decide +kernel)
end
/-- a board as it stands in a heap -/
structure BdAt (C : Addr) (H : Hp) (b dx r t l s : Addr) (rows : List (List Int)) (turns loads steps : List Int) (taken : Int) : Prop where
  ins : H b = some (.ins C dx (bf r t l s taken))
  rws : RowsAt H r rows
  tns : H t = some (ilst turns)
  lds : H l = some (ilst loads)
  sts : H s = some (ilst steps)
theorem BdAt.mono {C : Addr} {H H' : Hp} {b dx r t l s : Addr} {rows : List (List Int)} {turns loads steps : List Int} {taken : Int} (h : BdAt C H b dx r t l s rows turns loads steps taken) (q : Same H H') : BdAt C H' b dx r t l s rows turns loads steps taken :=
  ⟨q _ _ h.ins, h.rws.mono q, q _ _ h.tns, q _ _ h.lds, q _ _ h.sts⟩
/-- a board in the ledger, from place i on -/
structure LB (C : Addr) (B : Hp) (L : List (Addr × HO)) (i : Nat) (b dx r t l s : Addr) (rows : List (List Int)) (turns loads steps : List Int) (taken : Int) : Prop where
  ins : L[i]? = some (b, .ins C dx (bf r t l s taken))
  tns : L[i + 1]? = some (t, ilst turns)
  lds : L[i + 2]? = some (l, ilst loads)
  sts : L[i + 3]? = some (s, ilst steps)
  rws : RowsAt B r rows
theorem Led.bd {C : Addr} {B H : Hp} {L : List (Addr × HO)} {i : Nat} {b dx r t l s : Addr} {rows : List (List Int)} {turns loads steps : List Int} {taken : Int} (h : Led B L H) (x : LB C B L i b dx r t l s rows turns loads steps taken) : BdAt C H b dx r t l s rows turns loads steps taken :=
  ⟨h.get _ x.ins, h.ra x.rws, h.get _ x.tns, h.get _ x.lds, h.get _ x.sts⟩
abbrev bl (C : Addr) (b dx r t l s : Addr) (turns loads steps : List Int) (taken : Int) : List (Addr × HO) := [(b, .ins C dx (bf r t l s taken)), (t, ilst turns), (l, ilst loads), (s, ilst steps)]
/-- two ledgers become one -/
theorem Led.merge {B H B1 H' : Hp} {L M : List (Addr × HO)} (h : Led B L H) (s1 : Same H B1) (l1 : Led B1 M H') : ∃ B', Same B B' ∧ Led B' (L ++ M) H' ∧ ∀ q o, B1 q = some o → H q = none → B' q = some o := by
  classical
  have hb : ∀ p, p ∈ L.map Prod.fst → ∃ o, B1 p = some o := fun p m => by
    obtain ⟨o, e⟩ := h.keys m
    exact ⟨o, s1 _ _ e⟩
  refine ⟨fun a => if a ∈ L.map Prod.fst then none else B1 a, fun q o e => ?_, ⟨fun q o e => ?_, fun i p o e => ?_, ?_, fun p z => ?_⟩, fun q o e n => ?_⟩
  · have z : q ∉ L.map Prod.fst := fun m => by
      rw [h.new q m] at e
      cases e
    show (if q ∈ L.map Prod.fst then none else B1 q) = some o
    rw [if_neg z]
    exact s1 _ _ (h.same _ _ e)
  · by_cases z : q ∈ L.map Prod.fst
    · rw [show (if q ∈ L.map Prod.fst then none else B1 q) = none from if_pos z] at e
      cases e
    · rw [show (if q ∈ L.map Prod.fst then none else B1 q) = B1 q from if_neg z] at e
      exact l1.same _ _ e
  · rcases List.mem_append.mp (List.mem_of_getElem? e) with hm | hm
    · exact l1.same _ _ (s1 _ _ (h.mem hm))
    · exact l1.mem hm
  · rw [List.map_append, List.nodup_append]
    refine ⟨h.nd, l1.nd, fun a ha b hb2 e => ?_⟩
    subst e
    obtain ⟨o, q⟩ := hb a ha
    rw [l1.new a hb2] at q
    cases q
  · show (if p ∈ L.map Prod.fst then none else B1 p) = none
    by_cases y : p ∈ L.map Prod.fst
    · exact if_pos y
    · rw [if_neg y]
      rw [List.map_append] at z
      rcases List.mem_append.mp z with z | z
      · exact (y z).elim
      · exact l1.new p z
  · show (if q ∈ L.map Prod.fst then none else B1 q) = some o
    rw [if_neg (h.out n)]
    exact e
/-- a new board -/
def NewB (C : Addr) (H H' : Hp) (b dx r t l s : Addr) (rows : List (List Int)) (turns loads steps : List Int) (taken : Int) : Prop := ∃ B1, Same H B1 ∧ NewRows H B1 r rows ∧ Led B1 (bl C b dx r t l s turns loads steps taken) H'
theorem Led.board {C : Addr} {B H H' : Hp} {L : List (Addr × HO)} {b dx r t l s : Addr} {rows : List (List Int)} {turns loads steps : List Int} {taken : Int} (h : Led B L H) (n : NewB C H H' b dx r t l s rows turns loads steps taken) :
    ∃ B', Same B B' ∧ RowsAt B' r rows ∧ Led B' (L ++ bl C b dx r t l s turns loads steps taken) H' := by
  obtain ⟨B1, s1, ⟨as, e1, e0, e2, e3⟩, l1⟩ := n
  obtain ⟨B', sB, lB, k⟩ := h.merge s1 l1
  exact ⟨B', sB, ⟨as, k _ _ e1 e0, e2, fun i a row h1 h2 => k _ _ (e3 i a row h1 h2).1 (e3 i a row h1 h2).2⟩, lB⟩
theorem NewB.same {C : Addr} {H H' : Hp} {b dx r t l s : Addr} {rows : List (List Int)} {turns loads steps : List Int} {taken : Int} (n : NewB C H H' b dx r t l s rows turns loads steps taken) : Same H H' := by
  obtain ⟨B1, s1, _, l1⟩ := n
  exact s1.trans l1.same
theorem NewB.at_ {C : Addr} {H H' : Hp} {b dx r t l s : Addr} {rows : List (List Int)} {turns loads steps : List Int} {taken : Int} (n : NewB C H H' b dx r t l s rows turns loads steps taken) : BdAt C H' b dx r t l s rows turns loads steps taken := by
  obtain ⟨B1, s1, n1, l1⟩ := n
  exact ⟨l1.get 0 rfl, n1.at_.mono l1.same, l1.get 1 rfl, l1.get 2 rfl, l1.get 3 rfl⟩
def setB (L : List (Addr × HO)) (C : Addr) (i : Nat) (b dx r t l s : Addr) (turns loads steps : List Int) (taken : Int) : List (Addr × HO) :=
  (((L.set i (b, .ins C dx (bf r t l s taken))).set (i + 1) (t, ilst turns)).set (i + 2) (l, ilst loads)).set (i + 3) (s, ilst steps)
theorem nodup_of_ix {α : Type} {l : List α} (h : ∀ (i j : Nat) (x : α), l[i]? = some x → l[j]? = some x → i = j) : l.Nodup := by
  refine List.pairwise_iff_getElem.mpr fun i j hi hj ij e => ?_
  have := h i j l[i] (List.getElem?_eq_getElem hi) (by rw [List.getElem?_eq_getElem hj, e])
  omega
theorem setB_get {L : List (Addr × HO)} {C : Addr} {i : Nat} {b dx r t l s : Addr} {turns loads steps : List Int} {taken : Int} {j : Nat} {p : Addr} {o : HO} (h : (setB L C i b dx r t l s turns loads steps taken)[j]? = some (p, o)) :
    (∃ k, k < 4 ∧ j = i + k ∧ (bl C b dx r t l s turns loads steps taken)[k]? = some (p, o)) ∨ (L[j]? = some (p, o) ∧ ∀ k, k < 4 → j ≠ i + k) := by
  unfold setB at h
  by_cases e3 : i + 3 = j
  · subst e3
    refine .inl ⟨3, by omega, rfl, ?_⟩
    by_cases hl : i + 3 < (((L.set i (b, .ins C dx (bf r t l s taken))).set (i + 1) (t, ilst turns)).set (i + 2) (l, ilst loads)).length
    · rw [List.getElem?_set_self hl] at h
      exact h
    · rw [List.getElem?_eq_none (by rw [List.length_set]; omega)] at h
      cases h
  rw [List.getElem?_set_ne e3] at h
  by_cases e2 : i + 2 = j
  · subst e2
    refine .inl ⟨2, by omega, rfl, ?_⟩
    by_cases hl : i + 2 < ((L.set i (b, .ins C dx (bf r t l s taken))).set (i + 1) (t, ilst turns)).length
    · rw [List.getElem?_set_self hl] at h
      exact h
    · rw [List.getElem?_eq_none (by rw [List.length_set]; omega)] at h
      cases h
  rw [List.getElem?_set_ne e2] at h
  by_cases e1 : i + 1 = j
  · subst e1
    refine .inl ⟨1, by omega, rfl, ?_⟩
    by_cases hl : i + 1 < (L.set i (b, .ins C dx (bf r t l s taken))).length
    · rw [List.getElem?_set_self hl] at h
      exact h
    · rw [List.getElem?_eq_none (by rw [List.length_set]; omega)] at h
      cases h
  rw [List.getElem?_set_ne e1] at h
  by_cases e0 : i = j
  · subst e0
    refine .inl ⟨0, by omega, rfl, ?_⟩
    by_cases hl : i < L.length
    · rw [List.getElem?_set_self hl] at h
      exact h
    · rw [List.getElem?_eq_none (by rw [List.length_set]; omega)] at h
      cases h
  rw [List.getElem?_set_ne e0] at h
  exact .inr ⟨h, fun k hk => by omega⟩
/-- one board of a ledger by itself: what is done to it is done in the ledger -/
theorem Led.focus {C : Addr} {B H : Hp} {L : List (Addr × HO)} {i : Nat} {b dx r t l s : Addr} {rows : List (List Int)} {turns loads steps : List Int} {taken : Int} (h : Led B L H) (x : LB C B L i b dx r t l s rows turns loads steps taken) :
    ∃ B', Same B B' ∧ RowsAt B' r rows ∧ Led B' (bl C b dx r t l s turns loads steps taken) H ∧ (∀ p o, H p = some o → p ≠ b → p ≠ t → p ≠ l → p ≠ s → B' p = some o) ∧
      ∀ (t' l' s' : Addr) (turns' loads' steps' : List Int) (taken' : Int) (H' : Hp), Led B' (bl C b dx r t' l' s' turns' loads' steps' taken') H' → Led B (setB L C i b dx r t' l' s' turns' loads' steps' taken') H' := by
  have kx : ∀ (k : Nat) (p : Addr) (o : HO), (bl C b dx r t l s turns loads steps taken)[k]? = some (p, o) → L[i + k]? = some (p, o) := fun k p o e => by
    match k, e with
    | 0, e => cases e; exact x.ins
    | 1, e => cases e; exact x.tns
    | 2, e => cases e; exact x.lds
    | 3, e => cases e; exact x.sts
    | (n + 4), e => simp at e
  have kl : ∀ {j : Nat} {p : Addr} {o : HO}, L[j]? = some (p, o) → (L.map Prod.fst)[j]? = some p := fun e => by rw [List.getElem?_map, e]; rfl
  have l0 : Led B (bl C b dx r t l s turns loads steps taken) H := by
    refine ⟨h.same, fun k p o e => h.get _ (kx k p o e), nodup_of_ix fun j k p e1 e2 => ?_, fun p hp => ?_⟩
    · rw [List.getElem?_map] at e1 e2
      cases q1 : (bl C b dx r t l s turns loads steps taken)[j]? with
      | none => rw [q1] at e1; cases e1
      | some y1 =>
        cases q2 : (bl C b dx r t l s turns loads steps taken)[k]? with
        | none => rw [q2] at e2; cases e2
        | some y2 =>
          obtain ⟨p1, o1⟩ := y1
          obtain ⟨p2, o2⟩ := y2
          rw [q1] at e1
          rw [q2] at e2
          cases e1
          cases e2
          have := nd_ix h.nd (kl (kx _ _ _ q1)) (kl (kx _ _ _ q2))
          omega
    · obtain ⟨⟨q, o⟩, hm, rfl⟩ := List.mem_map.mp hp
      obtain ⟨k, hk, e⟩ := List.getElem_of_mem hm
      exact h.new q (key_at (kx k q o (by rw [List.getElem?_eq_getElem hk, e])))
  obtain ⟨B', sB, lB, keep⟩ := l0.rebase
  refine ⟨B', sB, x.rws.mono sB, lB, fun p o e n1 n2 n3 n4 => keep p o e (by simp [n1, n2, n3, n4]), fun t' l' s' turns' loads' steps' taken' H' led => ?_⟩
  -- what stands off the board stands in B'
  have off : ∀ (j : Nat) (p : Addr) (o : HO), L[j]? = some (p, o) → (∀ k, k < 4 → j ≠ i + k) → B' p = some o := fun j p o e n => by
    refine keep p o (h.get _ e) fun hm => ?_
    obtain ⟨⟨q, u⟩, hm', rfl⟩ := List.mem_map.mp hm
    obtain ⟨k, hk, e2⟩ := List.getElem_of_mem hm'
    exact n k hk (nd_ix h.nd (kl e) (kl (kx k q u (by rw [List.getElem?_eq_getElem hk, e2]))))
  refine ⟨sB.trans led.same, fun j p o e => ?_, nodup_of_ix fun j k p e1 e2 => ?_, fun p hp => ?_⟩
  · rcases setB_get e with ⟨k, hk, rfl, e'⟩ | ⟨e', n⟩
    · exact led.get k e'
    · exact led.same _ _ (off j p o e' n)
  · rw [List.getElem?_map] at e1 e2
    cases q1 : (setB L C i b dx r t' l' s' turns' loads' steps' taken')[j]? with
    | none => rw [q1] at e1; cases e1
    | some y1 =>
      cases q2 : (setB L C i b dx r t' l' s' turns' loads' steps' taken')[k]? with
      | none => rw [q2] at e2; cases e2
      | some y2 =>
        obtain ⟨p1, o1⟩ := y1
        obtain ⟨p2, o2⟩ := y2
        rw [q1] at e1
        rw [q2] at e2
        cases e1
        cases e2
        rcases setB_get q1 with ⟨a, ha, rfl, z1⟩ | ⟨z1, n1⟩
        · rcases setB_get q2 with ⟨c, hc, rfl, z2⟩ | ⟨z2, n2⟩
          · have := nd_ix led.nd (i := a) (j := c) (x := p1) (by rw [List.getElem?_map, z1]; rfl) (by rw [List.getElem?_map, z2]; rfl)
            omega
          · have y := off _ _ _ z2 n2
            rw [led.new p1 (key_at z1)] at y
            cases y
        · rcases setB_get q2 with ⟨c, hc, rfl, z2⟩ | ⟨z2, n2⟩
          · have y := off _ _ _ z1 n1
            rw [led.new p1 (key_at z2)] at y
            cases y
          · exact nd_ix h.nd (kl z1) (kl z2)
  · obtain ⟨⟨q, o⟩, hm, rfl⟩ := List.mem_map.mp hp
    obtain ⟨j, hj, e⟩ := List.getElem_of_mem hm
    rcases setB_get (by rw [List.getElem?_eq_getElem hj, e]) with ⟨k, hk, rfl, e'⟩ | ⟨e', n⟩
    · cases z : B q with
      | none => rfl
      | some u =>
        have y := sB _ _ z
        rw [led.new q (key_at e')] at y
        cases y
    · exact h.new q (key_at e')
/-- an object of the ledger replaced by a new one -/
theorem Led.swap {B H H' : Hp} {L : List (Addr × HO)} (h : Led B L H) {i : Nat} {p q : Addr} {o o' : HO} (e : L[i]? = some (p, o)) (n : H q = none) (s : Same H H') (hq : H' q = some o') : Led B (L.set i (q, o')) H' := by
  have hl : i < L.length := (List.getElem?_eq_some_iff.mp e).1
  have hk : ∀ x, x ∈ (L.set i (q, o')).map Prod.fst → x = q ∨ x ∈ L.map Prod.fst := fun x hx => by
    obtain ⟨⟨y, u⟩, hm, rfl⟩ := List.mem_map.mp hx
    rcases List.mem_or_eq_of_mem_set hm with hm | hm
    · exact .inr (List.mem_map.mpr ⟨_, hm, rfl⟩)
    · cases hm
      exact .inl rfl
  refine ⟨h.same.trans s, fun j p2 o2 z => ?_, ?_, fun x hx => ?_⟩
  · by_cases ij : i = j
    · subst ij
      rw [List.getElem?_set_self hl] at z
      cases z
      exact hq
    · rw [List.getElem?_set_ne ij] at z
      exact s _ _ (h.at_ j p2 o2 z)
  · rw [List.map_set]
    have hqn : ∀ (m : Nat) (hm : m < (L.map Prod.fst).length), (L.map Prod.fst)[m] ≠ q := fun m hm z => h.out n (by rw [← z]; exact List.getElem_mem hm)
    refine List.pairwise_iff_getElem.mpr fun j k hj hk2 hjk => ?_
    have hj' : j < (L.map Prod.fst).length := by simpa using hj
    have hk' : k < (L.map Prod.fst).length := by simpa using hk2
    have base := (List.pairwise_iff_getElem.mp h.nd) j k hj' hk' hjk
    rw [List.getElem_set, List.getElem_set]
    split
    · split
      · omega
      · exact (hqn k hk').symm
    · split
      · exact hqn j hj'
      · exact base
  · rcases hk x hx with rfl | hx
    · exact h.same.free n
    · exact h.new x hx

/-! Loops and comprehensions over the ledger -/
section
variable {K : PySem.W.Frag} {σ : L2.St} {H : Hp} {D : Ends} {tb : TS} {i : Nat}
/-- what a for over a range leaves to be shown -/
def LoopR (lo : Int) (n i : Nat) (tb : TS) (D : Ends) (σ : L2.St) (H : Hp) : Prop := ∃ W : Nat → Nat → L2.St → Hp → Prop, (∃ m, W 0 m σ H) ∧ ∀ k m σ H, W k m σ H →
  ((Itr lo n).stop k H ∧ D.nx σ H) ∨ ((Itr lo n).go k H ∧ ∃ N : L2.St → Hp → Prop, (∀ σ' H', N σ' H' → ∃ m', m' < m ∧ W (k + 1) m' σ' H') ∧ ∀ x H', (Itr lo n).yld k H x H' → gName i x σ H' fun σ2 H2 => tb { D with nx := N, ct := N, bk := D.nx } σ2 H2)
def LoopL (K : PySem.W.Frag) (a : Addr) (i : Nat) (tb : TS) (D : Ends) (σ : L2.St) (H : Hp) : Prop := ∃ W : Nat → Nat → L2.St → Hp → Prop, (∃ m, W 0 m σ H) ∧ ∀ k m σ H, W k m σ H →
  ((Itl K a).stop k H ∧ D.nx σ H) ∨ ((Itl K a).go k H ∧ ∃ N : L2.St → Hp → Prop, (∀ σ' H', N σ' H' → ∃ m', m' < m ∧ W (k + 1) m' σ' H') ∧ ∀ x H', (Itl K a).yld k H x H' → gName i x σ H' fun σ2 H2 => tb { D with nx := N, ct := N, bk := D.nx } σ2 H2)
theorem g_for1 {ta : TA} (h : ta σ H fun vs H1 => ∃ j : Int, vs = [.int j] ∧ -(2 ^ 62) ≤ j ∧ j < 2 ^ 62 ∧ LoopR 0 j.toNat i tb D σ H1) : tFor (iRng1 ta) (gName i) tb D σ H := h
theorem g_for2 {ta : TA} (h : ta σ H fun vs H1 => ∃ j k : Int, vs = [.int j, .int k] ∧ (-(2 ^ 62) ≤ j ∧ j < 2 ^ 62 ∧ -(2 ^ 62) ≤ k ∧ k < 2 ^ 62) ∧ LoopR j (k - j).toNat i tb D σ H1) : tFor (iRng2 ta) (gName i) tb D σ H := h
theorem g_forL {te : TE} (h : te σ H fun x H1 => ∃ a, x = .ref a ∧ (∃ xs, SqL K H1 a xs) ∧ LoopL K a i tb D σ H1) : tFor (iList K te) (gName i) tb D σ H := h
theorem g_rng1 {j : Int} {R : Int → Prop} (h1 : -(2 ^ 62) ≤ j) (h2 : j < 2 ^ 62) (h : R j) : ∃ k : Int, [V.int j] = [V.int k] ∧ -(2 ^ 62) ≤ k ∧ k < 2 ^ 62 ∧ R k := ⟨j, rfl, h1, h2, h⟩
theorem g_rng2 {a b : Int} {R : Int → Int → Prop} (h1 : -(2 ^ 62) ≤ a) (h2 : a < 2 ^ 62) (h3 : -(2 ^ 62) ≤ b) (h4 : b < 2 ^ 62) (h : R a b) : ∃ j k : Int, [V.int a, V.int b] = [V.int j, V.int k] ∧ (-(2 ^ 62) ≤ j ∧ j < 2 ^ 62 ∧ -(2 ^ 62) ≤ k ∧ k < 2 ^ 62) ∧ R j k := ⟨a, b, rfl, ⟨h1, h2, h3, h4⟩, h⟩
theorem g_lstw {a : Addr} {xs : List V} {R : Addr → Prop} (s : SqL K H a xs) (h : R a) : ∃ b, V.ref a = .ref b ∧ (∃ xs, SqL K H b xs) ∧ R b := ⟨a, rfl, ⟨xs, s⟩, h⟩
theorem loopR {lo : Int} {n : Nat} (Pv : Nat → L2.St → Hp → Prop) (h0 : Pv 0 σ H)
    (hs : ∀ k σ H, k < n → Pv k σ H → tb { D with nx := Pv (k + 1), ct := Pv (k + 1), bk := D.nx } (σ.set i (some (.int (lo + k)))) H) (hd : ∀ σ H, Pv n σ H → D.nx σ H) : LoopR lo n i tb D σ H :=
  for_range (g := gName i) Pv h0 hs hd
theorem loopL {a : Addr} {xs : List V} (Pv : Nat → L2.St → Hp → Prop) (h0 : Pv 0 σ H) (hl : ∀ k σ H, k ≤ xs.length → Pv k σ H → SqL K H a xs)
    (hs : ∀ k x σ H, xs[k]? = some x → Pv k σ H → tb { D with nx := Pv (k + 1), ct := Pv (k + 1), bk := D.nx } (σ.set i (some x)) H) (hd : ∀ σ H, Pv xs.length σ H → D.nx σ H) : LoopL K a i tb D σ H :=
  for_list (g := gName i) Pv h0 hl hs hd
/-- over a list of ints -/
theorem loopI {a : Addr} {ns : List Int} (Pv : Nat → L2.St → Hp → Prop) (h0 : Pv 0 σ H) (hl : ∀ k σ H, k ≤ ns.length → Pv k σ H → SqL K H a (ns.map V.int))
    (hs : ∀ k σ H, k < ns.length → Pv k σ H → tb { D with nx := Pv (k + 1), ct := Pv (k + 1), bk := D.nx } (σ.set i (some (.int (ns.getD k 0)))) H) (hd : ∀ σ H, Pv ns.length σ H → D.nx σ H) : LoopL K a i tb D σ H :=
  loopL (xs := ns.map V.int) Pv h0 (fun k σ H hk => hl k σ H (by simpa using hk)) (fun k x σ H hx p => by
    have hk : k < ns.length := by
      have := (List.getElem?_eq_some_iff.mp hx).1
      simpa using this
    have e : x = .int (ns.getD k 0) := by
      rw [List.getElem?_map, List.getElem?_eq_getElem hk] at hx
      rw [List.getD_eq_getElem?_getD, List.getElem?_eq_getElem hk]
      exact (Option.some.inj hx).symm
    rw [e]
    exact hs k σ H hk p) (fun σ H p => hd σ H (by rw [List.length_map] at p; exact p))
/-- over rows -/
theorem loopRows {a : Addr} {rows : List (List Int)} (Pv : Nat → L2.St → Hp → Prop) (h0 : Pv 0 σ H) (R : RowsAt H a rows) (hl : ∀ k σ H', Pv k σ H' → Same H H')
    (hs : ∀ k r σ H', k < rows.length → Pv k σ H' → SqL K H' r ((rows.getD k []).map V.int) → tb { D with nx := Pv (k + 1), ct := Pv (k + 1), bk := D.nx } (σ.set i (some (.ref r))) H') (hd : ∀ σ H, Pv rows.length σ H → D.nx σ H) : LoopL K a i tb D σ H := by
  obtain ⟨as, e1, e2, e3⟩ := R
  refine loopL (xs := as.map V.ref) Pv h0 (fun k σ H' _ p => SqL.of (hl k σ H' p _ _ e1)) (fun k x σ H' hx p => ?_) (fun σ H p => hd σ H (by rw [List.length_map, e2] at p; exact p))
  have hk : k < as.length := by
    have := (List.getElem?_eq_some_iff.mp hx).1
    simpa using this
  have hk2 : k < rows.length := by omega
  rw [List.getElem?_map, List.getElem?_eq_getElem hk] at hx
  cases hx
  refine hs k _ σ H' hk2 p (SqL.of (hl k σ H' p _ _ ?_))
  rw [List.getD_eq_getElem?_getD, List.getElem?_eq_getElem hk2]
  exact e3 k _ _ (List.getElem?_eq_getElem hk) (List.getElem?_eq_getElem hk2)
theorem while_led {c : TT} (Pv : L2.St → Hp → Prop) (m : L2.St → Hp → Nat) (h0 : Pv σ H)
    (hs : ∀ σ H, Pv σ H → c σ H fun b H1 => if b = true then tb { D with nx := fun σ' H' => Pv σ' H' ∧ m σ' H' < m σ H, ct := fun σ' H' => Pv σ' H' ∧ m σ' H' < m σ H, bk := D.nx } σ H1 else D.nx σ H1)
    (mono : ∀ σ H Q Q', (∀ b H1, Q b H1 → Q' b H1) → c σ H Q → c σ H Q') : tWhile c tb D σ H := while_by Pv m h0 hs mono
end
/-! ### comprehensions -/
section
variable {K : PySem.W.Frag} {σ : L2.St} {H : Hp} {Q : VK} {te : TE} {tt : TT} {i : Nat} {vs : List Nat}
def LcR (lo : Int) (n i : Nat) (tt : TT) (te : TE) (vs : List Nat) (σ : L2.St) (H1 : Hp) (Q : VK) : Prop := ∀ D, H1 D = none → ∃ W : Nat → Nat → Hp → Prop, (∃ m, W 0 m (upd H1 D (.lst []))) ∧ ∀ k m H, W k m H →
  ((Itr lo n).stop k H ∧ Q (.ref D) H) ∨ ((Itr lo n).go k H ∧ ∃ Nx : Hp → Prop, (∀ H', Nx H' → ∃ m', m' < m ∧ W (k + 1) m' H') ∧ ∀ x H', (Itr lo n).yld k H x H' → gName i x (wipe σ vs) H' fun σ2 H2 => wipe σ2 vs = wipe σ vs ∧ tt σ2 H2 fun b H3 =>
    if b = true then te σ2 H3 fun y H4 => ∃ acc, H4 D = some (.lst acc) ∧ acc.length < sizeLine ∧ Nx (upd H4 D (.lst (acc ++ [y]))) else Nx H3)
def LcL (K : PySem.W.Frag) (a : Addr) (i : Nat) (tt : TT) (te : TE) (vs : List Nat) (σ : L2.St) (H1 : Hp) (Q : VK) : Prop := ∀ D, H1 D = none → ∃ W : Nat → Nat → Hp → Prop, (∃ m, W 0 m (upd H1 D (.lst []))) ∧ ∀ k m H, W k m H →
  ((Itl K a).stop k H ∧ Q (.ref D) H) ∨ ((Itl K a).go k H ∧ ∃ Nx : Hp → Prop, (∀ H', Nx H' → ∃ m', m' < m ∧ W (k + 1) m' H') ∧ ∀ x H', (Itl K a).yld k H x H' → gName i x (wipe σ vs) H' fun σ2 H2 => wipe σ2 vs = wipe σ vs ∧ tt σ2 H2 fun b H3 =>
    if b = true then te σ2 H3 fun y H4 => ∃ acc, H4 D = some (.lst acc) ∧ acc.length < sizeLine ∧ Nx (upd H4 D (.lst (acc ++ [y]))) else Nx H3)
theorem g_lc1 {ta : TA} (h : ta σ H fun vs' H1 => ∃ j : Int, vs' = [.int j] ∧ -(2 ^ 62) ≤ j ∧ j < 2 ^ 62 ∧ LcR 0 j.toNat i tt te vs σ H1 Q) : tLc (iRng1 ta) (gName i) tt te vs σ H Q := h
theorem g_lcL {tl : TE} (h : tl σ H fun x H1 => ∃ a, x = .ref a ∧ (∃ xs, SqL K H1 a xs) ∧ LcL K a i tt te vs σ H1 Q) : tLc (iList K tl) (gName i) tt te vs σ H Q := h
theorem g_yes {R : Bool → Hp → Prop} (h : R true H) : tYes σ H R := h
/-- a comprehension over a range, no test; Pv of the turn and the heap, the list at D within -/
theorem lcR {lo : Int} {n : Nat} (Pv : Addr → Nat → Hp → Prop) (h0 : ∀ D, H D = none → Pv D 0 (upd H D (.lst [])))
    (hw : ∀ x : Int, wipe ((wipe σ vs).set i (some (.int x))) vs = wipe σ vs)
    (hs : ∀ D k H1, H D = none → k < n → Pv D k H1 → te ((wipe σ vs).set i (some (.int (lo + k)))) H1 fun y H4 => ∃ acc, H4 D = some (.lst acc) ∧ acc.length < sizeLine ∧ Pv D (k + 1) (upd H4 D (.lst (acc ++ [y]))))
    (hd : ∀ D H1, H D = none → Pv D n H1 → Q (.ref D) H1) : LcR lo n i tYes te vs σ H Q := fun D nD =>
  lc_range (g := gName i) (Pv D) (h0 D nD) (fun k H1 hk p => ⟨hw _, iteT (B := Pv D (k + 1) H1) (hs D k H1 nD hk p)⟩) (fun H1 p => hd D H1 nD p)
theorem lcL {a : Addr} {xs : List V} (Pv : Addr → Nat → Hp → Prop) (h0 : ∀ D, H D = none → Pv D 0 (upd H D (.lst []))) (hl : ∀ D k H1, k ≤ xs.length → Pv D k H1 → SqL K H1 a xs)
    (hw : ∀ x : V, wipe ((wipe σ vs).set i (some x)) vs = wipe σ vs)
    (hs : ∀ D k x H1, H D = none → xs[k]? = some x → Pv D k H1 → te ((wipe σ vs).set i (some x)) H1 fun y H4 => ∃ acc, H4 D = some (.lst acc) ∧ acc.length < sizeLine ∧ Pv D (k + 1) (upd H4 D (.lst (acc ++ [y]))))
    (hd : ∀ D H1, H D = none → Pv D xs.length H1 → Q (.ref D) H1) : LcL K a i tYes te vs σ H Q := fun D nD =>
  lc_list (g := gName i) (Pv D) (h0 D nD) (fun k H1 hk p => hl D k H1 hk p) (fun k x H1 hx p => ⟨hw _, iteT (B := Pv D (k + 1) H1) (hs D k x H1 nD hx p)⟩) (fun H1 p => hd D H1 nD p)
/-- .. with a test that is kept to the range's numbers -/
theorem lcRT {lo : Int} {n : Nat} (Pv : Addr → Nat → Hp → Prop) (h0 : ∀ D, H D = none → Pv D 0 (upd H D (.lst [])))
    (hw : ∀ x : Int, wipe ((wipe σ vs).set i (some (.int x))) vs = wipe σ vs)
    (hs : ∀ D k H1, H D = none → k < n → Pv D k H1 → tt ((wipe σ vs).set i (some (.int (lo + k)))) H1 fun b H3 => if b = true then te ((wipe σ vs).set i (some (.int (lo + k)))) H3 fun y H4 => ∃ acc, H4 D = some (.lst acc) ∧ acc.length < sizeLine ∧ Pv D (k + 1) (upd H4 D (.lst (acc ++ [y]))) else Pv D (k + 1) H3)
    (hd : ∀ D H1, H D = none → Pv D n H1 → Q (.ref D) H1) : LcR lo n i tt te vs σ H Q := fun D nD =>
  lc_range (g := gName i) (Pv D) (h0 D nD) (fun k H1 hk p => ⟨hw _, hs D k H1 nD hk p⟩) (fun H1 p => hd D H1 nD p)
/-- over a list from its end -/
def LcV (K : PySem.W.Frag) (a : Addr) (n i : Nat) (tt : TT) (te : TE) (vs : List Nat) (σ : L2.St) (H1 : Hp) (Q : VK) : Prop := ∀ D, H1 D = none → ∃ W : Nat → Nat → Hp → Prop, (∃ m, W 0 m (upd H1 D (.lst []))) ∧ ∀ k m H, W k m H →
  ((Itv K a n).stop k H ∧ Q (.ref D) H) ∨ ((Itv K a n).go k H ∧ ∃ Nx : Hp → Prop, (∀ H', Nx H' → ∃ m', m' < m ∧ W (k + 1) m' H') ∧ ∀ x H', (Itv K a n).yld k H x H' → gName i x (wipe σ vs) H' fun σ2 H2 => wipe σ2 vs = wipe σ vs ∧ tt σ2 H2 fun b H3 =>
    if b = true then te σ2 H3 fun y H4 => ∃ acc, H4 D = some (.lst acc) ∧ acc.length < sizeLine ∧ Nx (upd H4 D (.lst (acc ++ [y]))) else Nx H3)
theorem g_lcV {ta : TA} (h : ta σ H fun vs' H1 => ∃ (a : Addr) (xs : List V), vs' = [.ref a] ∧ SqL K H1 a xs ∧ LcV K a xs.length i tt te vs σ H1 Q) : tLc (iRev K ta) (gName i) tt te vs σ H Q := h
theorem g_lstv {a : Addr} {xs : List V} {R : Addr → List V → Prop} (s : SqL K H a xs) (h : R a xs) : ∃ (b : Addr) (ys : List V), [V.ref a] = [.ref b] ∧ SqL K H b ys ∧ R b ys := ⟨a, xs, rfl, s, h⟩
theorem lcV {a : Addr} {xs : List V} (Pv : Addr → Nat → Hp → Prop) (h0 : ∀ D, H D = none → Pv D 0 (upd H D (.lst []))) (hl : ∀ D k H1, Pv D k H1 → SqL K H1 a xs)
    (hw : ∀ x : V, wipe ((wipe σ vs).set i (some x)) vs = wipe σ vs)
    (hs : ∀ D k x H1, H D = none → k < xs.length → xs[xs.length - 1 - k]? = some x → Pv D k H1 → te ((wipe σ vs).set i (some x)) H1 fun y H4 => ∃ acc, H4 D = some (.lst acc) ∧ acc.length < sizeLine ∧ Pv D (k + 1) (upd H4 D (.lst (acc ++ [y]))))
    (hd : ∀ D H1, H D = none → Pv D xs.length H1 → Q (.ref D) H1) : LcV K a xs.length i tYes te vs σ H Q := fun D nD => by
  refine ⟨fun k m H1 => m = xs.length - k ∧ k ≤ xs.length ∧ Pv D k H1, ⟨xs.length, rfl, Nat.zero_le _, h0 D nD⟩, ?_⟩
  rintro k m H1 ⟨rfl, hk, p⟩
  by_cases hlt : k < xs.length
  · have hx : xs[xs.length - 1 - k]? = some xs[xs.length - 1 - k] := List.getElem?_eq_getElem (by omega)
    refine .inr ⟨⟨hlt, xs, _, hl D k H1 p, hx⟩, Pv D (k + 1), fun H' p' => ⟨xs.length - (k + 1), by omega, rfl, hlt, p'⟩, fun v H' y => ?_⟩
    obtain ⟨e, hy⟩ := y
    subst e
    exact ⟨hw v, iteT (B := Pv D (k + 1) H') (hs D k v H' nD hlt (hy xs (hl D k _ p)) p)⟩
  · have e : k = xs.length := by omega
    subst e
    exact .inl ⟨Nat.le_refl _, hd D H1 nD p⟩

/-! ### lists of ints -/
/-- the list at D as it grows, over what stood (H) -/
def IntsUp (H : Hp) (P : List Int → Prop) (D : Addr) (k : Nat) (H1 : Hp) : Prop := ∃ ns : List Int, ns.length = k ∧ P ns ∧ Led H [(D, ilst ns)] H1
theorem IntsUp.start {P : List Int → Prop} (h0 : P []) (D : Addr) (nD : H D = none) : IntsUp H P D 0 (upd H D (.lst [])) := ⟨[], rfl, h0, (Led.nil H).alloc nD _⟩
theorem ints_push {H H2 : Hp} {D : Addr} {ns : List Int} {x : Int} (h : Led H [(D, ilst ns)] H2) : Led H [(D, ilst (ns ++ [x]))] (upd H2 D (.lst (ns.map V.int ++ [V.int x]))) := by
  have z := h.set (i := 0) rfl (.lst (ns.map V.int ++ [V.int x]))
  have e2 : ilst (ns ++ [x]) = .lst (ns.map V.int ++ [V.int x]) := by rw [ilst, List.map_append]; rfl
  rw [e2]
  exact z
theorem IntsUp.step {P : List Int → Prop} {D : Addr} {k : Nat} {ns : List Int} {x : Int} {H2 : Hp} (e : ns.length = k) (hk : k < 100000) (p : P (ns ++ [x])) (l : Led H [(D, ilst ns)] H2) :
    ∃ acc, H2 D = some (.lst acc) ∧ acc.length < sizeLine ∧ IntsUp H P D (k + 1) (upd H2 D (.lst (acc ++ [V.int x]))) :=
  ⟨ns.map V.int, l.get 0 rfl, by rw [List.length_map]; exact Nat.lt_of_lt_of_le (show ns.length < 100000 by omega) (by decide), ns ++ [x], by rw [List.length_append, e]; rfl, p, ints_push l⟩
theorem lcRI {lo : Int} {n : Nat} (P : List Int → Prop) (h0 : P []) (hn : n ≤ 100000) (hw : ∀ x : Int, wipe ((wipe σ vs).set i (some (.int x))) vs = wipe σ vs)
    (hs : ∀ D k ns H1 (R : VK), k < n → ns.length = k → P ns → Led H [(D, ilst ns)] H1 → (∀ x H2, P (ns ++ [x]) → Led H [(D, ilst ns)] H2 → R (.int x) H2) → te ((wipe σ vs).set i (some (.int (lo + k)))) H1 R)
    (hd : ∀ D ns H1, H D = none → ns.length = n → P ns → Same H H1 → H1 D = some (ilst ns) → Q (.ref D) H1) : LcR lo n i tYes te vs σ H Q :=
  lcR (IntsUp H P) (fun D nD => IntsUp.start h0 D nD) hw (fun D k H1 nD hk ⟨ns, e, p1, l1⟩ => hs D k ns H1 _ hk e p1 l1 fun x H2 p2 l2 => IntsUp.step e (by omega) p2 l2)
    (fun D H1 nD ⟨ns, e, p1, l1⟩ => hd D ns H1 nD e p1 l1.same (l1.get 0 rfl))
theorem lcLI {a : Addr} {xs : List V} (P : List Int → Prop) (h0 : P []) (hn : xs.length ≤ 100000) (s : SqL K H a xs) (hw : ∀ x : V, wipe ((wipe σ vs).set i (some x)) vs = wipe σ vs)
    (hs : ∀ D k v ns H1 (R : VK), xs[k]? = some v → ns.length = k → P ns → Led H [(D, ilst ns)] H1 → (∀ x H2, P (ns ++ [x]) → Led H [(D, ilst ns)] H2 → R (.int x) H2) → te ((wipe σ vs).set i (some v)) H1 R)
    (hd : ∀ D ns H1, H D = none → ns.length = xs.length → P ns → Same H H1 → H1 D = some (ilst ns) → Q (.ref D) H1) : LcL K a i tYes te vs σ H Q :=
  lcL (xs := xs) (IntsUp H P) (fun D nD => IntsUp.start h0 D nD) (fun D k H1 _ ⟨ns, e, p1, l1⟩ => l1.base s) hw
    (fun D k v H1 nD hx ⟨ns, e, p1, l1⟩ => hs D k v ns H1 _ hx e p1 l1 fun x H2 p2 l2 => IntsUp.step e (by have := (List.getElem?_eq_some_iff.mp hx).1; omega) p2 l2)
    (fun D H1 nD ⟨ns, e, p1, l1⟩ => hd D ns H1 nD e p1 l1.same (l1.get 0 rfl))
/-- noughts, one for each item -/
theorem lcL0 {a : Addr} {xs : List V} (z : Int) (hn : xs.length ≤ 100000) (s : SqL K H a xs) (hw : ∀ x : V, wipe ((wipe σ vs).set i (some x)) vs = wipe σ vs)
    (hd : ∀ D H1, H D = none → Same H H1 → H1 D = some (ilst (List.replicate xs.length z)) → Q (.ref D) H1) : LcL K a i tYes (tC (.int z)) vs σ H Q :=
  lcLI (fun ns => ns = List.replicate ns.length z) rfl hn s hw (fun D k v ns H1 R hx e p l q => q z H1 (by rw [List.length_append, p, ← List.replicate_append_replicate, List.length_replicate]; rfl) l)
    (fun D ns H1 nD e p sm hh => hd D H1 nD sm (by rw [← e, ← p]; exact hh))

/-! ### lists of rows -/
def rowLed (D : Addr) (as : List Addr) (rows : List (List Int)) : List (Addr × HO) := (D, .lst (as.map V.ref)) :: List.zipWith (fun a row => (a, ilst row)) as rows
theorem zip_at {as : List Addr} {rows : List (List Int)} {j : Nat} {a : Addr} {row : List Int} (e1 : as[j]? = some a) (e2 : rows[j]? = some row) : (List.zipWith (fun a row => (a, ilst row)) as rows)[j]? = some (a, ilst row) := by
  rw [List.getElem?_zipWith, e1, e2]
theorem Led.rowAt {B H1 : Hp} {D : Addr} {as : List Addr} {rows : List (List Int)} (l : Led B (rowLed D as rows) H1) (e : as.length = rows.length) : RowsAt H1 D rows :=
  ⟨as, l.get 0 rfl, e, fun j a row e1 e2 => l.get (j + 1) (show (rowLed D as rows)[j + 1]? = some (a, ilst row) from zip_at e1 e2)⟩
theorem Led.rowNew {H1 : Hp} {D : Addr} {as : List Addr} {rows : List (List Int)} (l : Led H (rowLed D as rows) H1) (e : as.length = rows.length) : NewRows H H1 D rows :=
  ⟨as, l.get 0 rfl, l.new D (key_at (i := 0) (o := .lst (as.map V.ref)) rfl), e, fun j a row e1 e2 => ⟨l.get (j + 1) (show (rowLed D as rows)[j + 1]? = some (a, ilst row) from zip_at e1 e2), l.new a (key_at (i := j + 1) (o := ilst row) (show (rowLed D as rows)[j + 1]? = some (a, ilst row) from zip_at e1 e2))⟩⟩
theorem rowLed_push {D r : Addr} {as : List Addr} {rows : List (List Int)} {row : List Int} (h : as.length = rows.length) :
    (rowLed D as rows ++ [(r, ilst row)]).set 0 (D, .lst (as.map V.ref ++ [V.ref r])) = rowLed D (as ++ [r]) (rows ++ [row]) := by
  show (D, HO.lst (as.map V.ref ++ [V.ref r])) :: (List.zipWith (fun a row => (a, ilst row)) as rows ++ [(r, ilst row)]) = _
  rw [rowLed, List.zipWith_append h, List.map_append]
  rfl
def RowsUp (H : Hp) (P : List (List Int) → Prop) (D : Addr) (k : Nat) (H1 : Hp) : Prop := ∃ (as : List Addr) (rows : List (List Int)), as.length = rows.length ∧ rows.length = k ∧ P rows ∧ Led H (rowLed D as rows) H1
theorem RowsUp.start {P : List (List Int) → Prop} (h0 : P []) (D : Addr) (nD : H D = none) : RowsUp H P D 0 (upd H D (.lst [])) := ⟨[], [], rfl, rfl, h0, (Led.nil H).alloc nD _⟩
theorem RowsUp.step {P : List (List Int) → Prop} {D r : Addr} {k : Nat} {as : List Addr} {rows : List (List Int)} {row : List Int} {H2 : Hp} (e0 : as.length = rows.length) (e : rows.length = k) (hk : k < 100000) (p : P (rows ++ [row])) (l : Led H (rowLed D as rows ++ [(r, ilst row)]) H2) :
    ∃ acc, H2 D = some (.lst acc) ∧ acc.length < sizeLine ∧ RowsUp H P D (k + 1) (upd H2 D (.lst (acc ++ [V.ref r]))) := by
  refine ⟨as.map V.ref, l.get 0 rfl, by rw [List.length_map]; exact Nat.lt_of_lt_of_le (show as.length < 100000 by omega) (by decide), as ++ [r], rows ++ [row], by simp [e0], by simp [e], p, ?_⟩
  rw [← rowLed_push e0]
  exact l.set (i := 0) rfl _
theorem lcRRows {lo : Int} {n : Nat} (P : List (List Int) → Prop) (h0 : P []) (hn : n ≤ 100000) (hw : ∀ x : Int, wipe ((wipe σ vs).set i (some (.int x))) vs = wipe σ vs)
    (hs : ∀ D k as rows H1 (R : VK), k < n → rows.length = k → P rows → Led H (rowLed D as rows) H1 → (∀ r row H2, P (rows ++ [row]) → Led H (rowLed D as rows ++ [(r, ilst row)]) H2 → R (.ref r) H2) → te ((wipe σ vs).set i (some (.int (lo + k)))) H1 R)
    (hd : ∀ D rows H1, rows.length = n → P rows → Same H H1 → NewRows H H1 D rows → Q (.ref D) H1) : LcR lo n i tYes te vs σ H Q :=
  lcR (RowsUp H P) (fun D nD => RowsUp.start h0 D nD) hw (fun D k H1 nD hk ⟨as, rows, e0, e, p1, l1⟩ => hs D k as rows H1 _ hk e p1 l1 fun r row H2 p2 l2 => RowsUp.step e0 e (by omega) p2 l2)
    (fun D H1 nD ⟨as, rows, e0, e, p1, l1⟩ => hd D rows H1 e p1 l1.same (l1.rowNew e0))
theorem lcLRows {a : Addr} {xs : List V} (P : List (List Int) → Prop) (h0 : P []) (hn : xs.length ≤ 100000) (s : SqL K H a xs) (hw : ∀ x : V, wipe ((wipe σ vs).set i (some x)) vs = wipe σ vs)
    (hs : ∀ D k v as rows H1 (R : VK), xs[k]? = some v → rows.length = k → P rows → Led H (rowLed D as rows) H1 → (∀ r row H2, P (rows ++ [row]) → Led H (rowLed D as rows ++ [(r, ilst row)]) H2 → R (.ref r) H2) → te ((wipe σ vs).set i (some v)) H1 R)
    (hd : ∀ D rows H1, rows.length = xs.length → P rows → Same H H1 → NewRows H H1 D rows → Q (.ref D) H1) : LcL K a i tYes te vs σ H Q :=
  lcL (xs := xs) (RowsUp H P) (fun D nD => RowsUp.start h0 D nD) (fun D k H1 _ ⟨as, rows, e0, e, p1, l1⟩ => l1.base s) hw
    (fun D k v H1 nD hx ⟨as, rows, e0, e, p1, l1⟩ => hs D k v as rows H1 _ hx e p1 l1 fun r row H2 p2 l2 => RowsUp.step e0 e (by have := (List.getElem?_eq_some_iff.mp hx).1; omega) p2 l2)
    (fun D H1 nD ⟨as, rows, e0, e, p1, l1⟩ => hd D rows H1 e p1 l1.same (l1.rowNew e0))
theorem lcVRows {a : Addr} {xs : List V} (P : List (List Int) → Prop) (h0 : P []) (hn : xs.length ≤ 100000) (s : SqL K H a xs) (hw : ∀ x : V, wipe ((wipe σ vs).set i (some x)) vs = wipe σ vs)
    (hs : ∀ D k v as rows H1 (R : VK), k < xs.length → xs[xs.length - 1 - k]? = some v → rows.length = k → P rows → Led H (rowLed D as rows) H1 → (∀ r row H2, P (rows ++ [row]) → Led H (rowLed D as rows ++ [(r, ilst row)]) H2 → R (.ref r) H2) → te ((wipe σ vs).set i (some v)) H1 R)
    (hd : ∀ D rows H1, rows.length = xs.length → P rows → Same H H1 → NewRows H H1 D rows → Q (.ref D) H1) : LcV K a xs.length i tYes te vs σ H Q :=
  lcV (xs := xs) (RowsUp H P) (fun D nD => RowsUp.start h0 D nD) (fun D k H1 ⟨as, rows, e0, e, p1, l1⟩ => l1.base s) hw
    (fun D k v H1 nD hk hx ⟨as, rows, e0, e, p1, l1⟩ => hs D k v as rows H1 _ hk hx e p1 l1 fun r row H2 p2 l2 => RowsUp.step e0 e (by omega) p2 l2)
    (fun D H1 nD ⟨as, rows, e0, e, p1, l1⟩ => hd D rows H1 e p1 l1.same (l1.rowNew e0))
/-- an item of rows, by its address -/
theorem RowsAt.sq {p : Addr} {rows : List (List Int)} (R : RowsAt H p rows) : ∃ as : List Addr, SqL K H p (as.map V.ref) ∧ as.length = rows.length ∧ ∀ (k : Nat) (v : V), (as.map V.ref)[k]? = some v → ∃ r, v = .ref r ∧ k < rows.length ∧ SqL K H r ((rows.getD k []).map V.int) := by
  obtain ⟨as, e1, e2, e3⟩ := R
  refine ⟨as, SqL.of e1, e2, fun k v hv => ?_⟩
  have hk : k < as.length := by
    have := (List.getElem?_eq_some_iff.mp hv).1
    simpa using this
  have hk2 : k < rows.length := by omega
  rw [List.getElem?_map, List.getElem?_eq_getElem hk] at hv
  cases hv
  refine ⟨_, rfl, hk2, SqL.of ?_⟩
  rw [List.getD_eq_getElem?_getD, List.getElem?_eq_getElem hk2]
  exact e3 k _ _ (List.getElem?_eq_getElem hk) (List.getElem?_eq_getElem hk2)
theorem RowsAt.sql {p : Addr} {rows : List (List Int)} (R : RowsAt H p rows) : ∃ xs, SqL K H p xs := by
  obtain ⟨as, e1, _⟩ := R
  exact ⟨_, SqL.of e1⟩
theorem g_lstwR {a : Addr} {rows : List (List Int)} {R : Addr → Prop} (s : RowsAt H a rows) (h : R a) : ∃ b, V.ref a = .ref b ∧ (∃ xs, SqL K H b xs) ∧ R b := ⟨a, rfl, s.sql, h⟩
theorem g_list {p : Addr} {xs : List V} (s : SqL K H p xs) (h : ∀ l, H l = none → Q (.ref l) (upd H l (.lst xs))) : mList K [.ref p] H Q := ⟨p, xs, rfl, .inl s, h⟩
theorem lcRows0 {a : Addr} {rows : List (List Int)} {z : Int} (R : RowsAt H a rows) (hn : rows.length ≤ 100000) (hw : ∀ x : V, wipe ((wipe σ vs).set i (some x)) vs = wipe σ vs)
    (hd : ∀ D H1, H D = none → Same H H1 → H1 D = some (ilst (List.replicate rows.length z)) → Q (.ref D) H1) : LcL K a i tYes (tC (.int z)) vs σ H Q := by
  obtain ⟨as, e1, e2, _⟩ := R.sq (K := K)
  refine lcL0 z (by rw [List.length_map, e2]; exact hn) e1 hw fun D H1 nD s e => hd D H1 nD s ?_
  rw [List.length_map, e2] at e
  exact e
/-- each row copied -/
theorem lcCopy {a : Addr} {rows : List (List Int)} (R : RowsAt H a rows) (hn : rows.length ≤ 100000) (hw : ∀ x : V, wipe ((wipe σ vs).set i (some x)) vs = wipe σ vs) (hi : ∀ x : V, ((wipe σ vs).set i (some x))[i]? = some (some x))
    (hd : ∀ D H1, Same H H1 → NewRows H H1 D rows → Q (.ref D) H1) : LcL K a i tYes (tCB (mList K) (tCons (tVar i) tNil)) vs σ H Q := by
  obtain ⟨as, e1, e2, e3⟩ := R.sq (K := K)
  refine lcLRows (fun rs => rs = rows.take rs.length) rfl (by rw [List.length_map, e2]; exact hn) e1 hw (fun D k v bs rs H1 S hx e p l q => ?_) (fun D rs H1 e p s n => hd D H1 s ?_)
  · obtain ⟨r, rfl, hk, hr⟩ := e3 k v hx
    refine g_cb (g_cons (g_var (hi _) (g_nil (g_list (l.base hr) fun m nm => q m (rows.getD k []) _ ?_ (l.alloc nm _)))))
    rw [List.length_append, e]
    show rs ++ [rows.getD k []] = rows.take (k + 1)
    rw [p, e, List.take_add_one, List.getD_eq_getElem?_getD, List.getElem?_eq_getElem hk]
    rfl
  · rw [List.length_map, e2] at e
    rw [e, List.take_length] at p
    rw [← p]
    exact n
end

/-! ### stores, methods of lists -/
section
variable {K : PySem.W.Frag} {σ : L2.St} {H : Hp} {Q : VK} {B : Hp} {L : List (Addr × HO)}
theorem g_sub {to ti : TE} {t : TSet} {v : V} {R : L2.St → Hp → Prop} (h : to σ H fun o H1 => ti σ H1 fun i H2 => t o i v H2 fun H3 => R σ H3) : gSub to ti t v σ H R := h
theorem g_bm {T : String} {r : V → List V → Hp → VK → Prop} {to : TE} {t : TA} (h : to σ H fun x H1 => tyV K T x H1 ∧ t σ H1 fun xs H2 => r x xs H2 Q) : tBM K T r to t σ H Q := h
theorem g_ty {p : Addr} {xs : List V} {R : Prop} (s : SqL K H p xs) (h : R) : tyV K "list" (.ref p) H ∧ R := ⟨.inl ⟨rfl, xs, s⟩, h⟩
theorem ixN_of {n : Nat} {i : Int} (h0 : 0 ≤ i) (h1 : i < n) : ixN n i = some i.toNat := by
  unfold ixN
  rw [if_pos h0, if_pos h1]
theorem set_map {ns : List Int} {j : Nat} {x : Int} : (ns.map V.int).set j (V.int x) = (ns.set j x).map V.int := List.map_set.symm
/-- xs[i] = x, a list of ints of the ledger -/
theorem g_setL (led : Led B L H) (j : Nat) {p : Addr} {ns : List Int} {i x : Int} {R : Hp → Prop} (e : L[j]? = some (p, ilst ns)) (h0 : 0 ≤ i) (h1 : i < ns.length) (q : ∀ H', Led B (L.set j (p, ilst (ns.set i.toNat x))) H' → R H') :
    rSetL (.ref p) (.int i) (.int x) H R := by
  refine ⟨p, ns.map V.int, i, i.toNat, rfl, rfl, led.get j e, ?_, ?_⟩
  · rw [List.length_map]
    exact ixN_of h0 h1
  · rw [set_map]
    exact q _ (led.set e _)
theorem g_setM (led : Led B L H) (j : Nat) {p : Addr} {ns : List Int} {i x : Int} {R : Hp → Prop} (e : L[j]? = some (p, ilst ns)) (h0 : i < 0) (h1 : 0 ≤ ns.length + i) (q : ∀ H', Led B (L.set j (p, ilst (ns.set ((ns.length : Int) + i).toNat x))) H' → R H') :
    rSetL (.ref p) (.int i) (.int x) H R := by
  refine ⟨p, ns.map V.int, i, ((ns.length : Int) + i).toNat, rfl, rfl, led.get j e, ?_, ?_⟩
  · unfold ixN
    rw [List.length_map, if_neg (by omega), if_pos (by omega), Int.add_comm]
  · rw [set_map]
    exact q _ (led.set e _)
/-- the same of any items -/
theorem g_setV (led : Led B L H) (j : Nat) {p : Addr} {xs : List V} {i : Int} {x : V} {R : Hp → Prop} (e : L[j]? = some (p, .lst xs)) (h0 : 0 ≤ i) (h1 : i < xs.length) (q : ∀ H', Led B (L.set j (p, .lst (xs.set i.toNat x))) H' → R H') :
    rSetL (.ref p) (.int i) x H R := ⟨p, xs, i, i.toNat, rfl, rfl, led.get j e, ixN_of h0 h1, q _ (led.set e _)⟩
theorem g_app (led : Led B L H) (j : Nat) {p : Addr} {xs : List V} {x : V} (e : L[j]? = some (p, .lst xs)) (hl : xs.length < 100000) (q : ∀ H', Led B (L.set j (p, .lst (xs ++ [x]))) H' → Q .non H') :
    rAppend (.ref p) [x] H Q := ⟨p, xs, x, rfl, rfl, led.get j e, Nat.lt_of_lt_of_le hl (by decide), q _ (led.set e _)⟩
theorem g_appI (led : Led B L H) (j : Nat) {p : Addr} {ns : List Int} {x : Int} (e : L[j]? = some (p, ilst ns)) (hl : ns.length < 100000) (q : ∀ H', Led B (L.set j (p, ilst (ns ++ [x]))) H' → Q .non H') :
    rAppend (.ref p) [.int x] H Q := by
  refine g_app led j e (by rw [List.length_map]; exact hl) ?_
  have e2 : ilst (ns ++ [x]) = .lst (ns.map V.int ++ [V.int x]) := by rw [ilst, List.map_append]; rfl
  rw [← e2]
  exact q
theorem g_ins (led : Led B L H) (j : Nat) {p : Addr} {ns : List Int} {i x : Int} (e : L[j]? = some (p, ilst ns)) (hl : ns.length < 100000) (h0 : 0 ≤ i) (h1 : i < 2 ^ 63) (q : ∀ H', Led B (L.set j (p, ilst (ns.take i.toNat ++ [x] ++ ns.drop i.toNat))) H' → Q .non H') :
    rInsert (.ref p) [.int i, .int x] H Q := by
  refine ⟨p, ns.map V.int, i, .int x, rfl, rfl, led.get j e, by rw [List.length_map]; exact Nat.lt_of_lt_of_le hl (by decide), h0, h1, ?_⟩
  have e2 : (.lst ((ns.map V.int).take i.toNat ++ [V.int x] ++ (ns.map V.int).drop i.toNat) : HO) = ilst (ns.take i.toNat ++ [x] ++ ns.drop i.toNat) := by
    rw [ilst, List.map_append, List.map_append, List.map_take, List.map_drop]
    rfl
  rw [e2]
  exact q _ (led.set e _)
end

/-! ### instances: calls of methods, makings, fields -/
section
variable {K : PySem.W.Frag} {G : Ads} {σ : L2.St} {H : Hp} {Q : VK} {B : Hp} {L : List (Addr × HO)} {D : Ends}
theorem app_nil_fun {R : List V → Hp → Prop} : (fun (vs : List V) H1 => R (vs ++ []) H1) = R := by
  funext vs H1
  rw [List.append_nil]
theorem g_make {C : Addr} {sp : Sp} {E : XK} {ta : TA} (h : ta σ H fun vs H1 => ∀ x dx, H1 x = none → H1 dx = none → dx ≠ x → sp (.ref x :: vs) (upd (upd H1 dx (.own x)) x (.ins C dx [])) (fun v H2 => v = .non ∧ Q (.ref x) H2) E) : tMake C sp [] E ta σ H Q := by
  have e := app_nil_fun (R := fun vs H1 => ∀ x dx, H1 x = none → H1 dx = none → dx ≠ x → sp (.ref x :: vs) (upd (upd H1 dx (.own x)) x (.ins C dx [])) (fun v H2 => v = .non ∧ Q (.ref x) H2) E)
  show ta σ H _
  rw [← e] at h
  exact h
theorem g_meth {C : Addr} {m : Str} {sp : Sp} {E : XK} {to : TE} {ta : TA} (h : to σ H fun x H1 => ∃ a dx fs, x = .ref a ∧ H1 a = some (.ins C dx fs) ∧ fs.lookup m = none ∧ ta σ H1 fun vs H2 => sp (x :: vs) H2 Q E) : tMeth C m sp [] E to ta σ H Q := by
  have e : ∀ x : V, (fun (vs : List V) H2 => sp (x :: (vs ++ [])) H2 Q E) = fun vs H2 => sp (x :: vs) H2 Q E := fun x => by
    funext vs H2
    rw [List.append_nil]
  show to σ H fun x H1 => ∃ a dx fs, x = .ref a ∧ H1 a = some (.ins C dx fs) ∧ fs.lookup m = none ∧ ta σ H1 fun vs H2 => sp (x :: (vs ++ [])) H2 Q E
  simp only [e]
  exact h
theorem g_self {C a dx : Addr} {fs : List (Str × V)} {m : Str} {R : Prop} (e : H a = some (.ins C dx fs)) (l : fs.lookup m = none) (h : R) : ∃ a' dx' fs', V.ref a = .ref a' ∧ H a' = some (.ins C dx' fs') ∧ fs'.lookup m = none ∧ R := ⟨a, dx, fs, rfl, e, l, h⟩
theorem g_methT {C : Addr} {m : Str} {sp : Sp} {E : L2.St → XK} {to : TE} {ta : TA} (h : to σ H fun x H1 => ∃ a dx fs, x = .ref a ∧ H1 a = some (.ins C dx fs) ∧ fs.lookup m = none ∧ ta σ H1 fun vs H2 => sp (x :: vs) H2 Q (E σ)) : tMethT C m sp E to ta σ H Q := h
theorem g_makeT {C : Addr} {sp : Sp} {E : L2.St → XK} {ta : TA} (h : ta σ H fun vs H1 => ∀ x dx, H1 x = none → H1 dx = none → dx ≠ x → sp (.ref x :: vs) (upd (upd H1 dx (.own x)) x (.ins C dx [])) (fun v H2 => v = .non ∧ Q (.ref x) H2) (E σ)) : tMakeT C sp E ta σ H Q := h
theorem g_callS {sp : Sp} {E : L2.St → XK} {ta : TA} (h : ta σ H fun vs H1 => sp vs H1 Q (E σ)) : tCallS sp E ta σ H Q := h
theorem g_sfld {ta tv : TE} {f : Str} (h : tv σ H fun y H1 => ta σ H1 fun x H2 => ∃ a C dx fs, x = .ref a ∧ H2 a = some (.ins C dx fs) ∧ Cls K C ∧ NoAttr K C f ∧ fs.length < 1000 ∧ D.nx σ (upd H2 a (.ins C dx (putF f y fs)))) : sFld K ta tv f D σ H := h
/-- self.f = v, the instance in the ledger -/
theorem g_put (led : Led B L H) (j : Nat) {C a dx : Addr} {fs fs' : List (Str × V)} {f : Str} {v : V} {R : Hp → Prop} (e : L[j]? = some (a, .ins C dx fs)) (c : Cls K C) (n : NoAttr K C f) (hl : fs.length < 1000) (ep : putF f v fs = fs') (q : ∀ H', Led B (L.set j (a, .ins C dx fs')) H' → R H') :
    ∃ a' C' dx' gs, V.ref a = .ref a' ∧ H a' = some (.ins C' dx' gs) ∧ Cls K C' ∧ NoAttr K C' f ∧ gs.length < 1000 ∧ R (upd H a' (.ins C' dx' (putF f v gs))) := by
  subst ep
  exact ⟨a, C, dx, fs, rfl, led.get j e, c, n, hl, q _ (led.set e _)⟩
/-- one object taken out of what stands -/
theorem Led.one {b : Addr} {o : HO} (h : H b = some o) : ∃ B, Led B [(b, o)] H ∧ ∀ q u, H q = some u → q ≠ b → B q = some u := by
  classical
  refine ⟨fun a => if a = b then none else H a, ⟨fun a u e => ?_, fun i p u e => ?_, by simp, fun p hp => ?_⟩, fun q u e n => ?_⟩
  · by_cases z : a = b
    · rw [show (if a = b then none else H a) = none from if_pos z] at e
      cases e
    · rw [show (if a = b then none else H a) = H a from if_neg z] at e
      exact e
  · cases i with
    | zero =>
      cases e
      exact h
    | succ i => simp at e
  · simp at hp
    subst hp
    exact if_pos rfl
  · show (if q = b then none else H q) = some u
    rw [if_neg n]
    exact e
/-- reading a board's fields -/
theorem g_bfld {b dx : Addr} {fs : List (Str × V)} {f : Str} {v : V} {R : V → Prop} (e : H b = some (.ins G.Board dx fs)) (c : Cls K G.Board) (n : NoAttr K G.Board f) (l : fs.lookup f = some v) (h : R v) :
    ∃ a' C' dx' fs' v', V.ref b = .ref a' ∧ H a' = some (.ins C' dx' fs') ∧ Cls K C' ∧ NoAttr K C' f ∧ fs'.lookup f = some v' ∧ R v' := ⟨b, G.Board, dx, fs, v, rfl, e, c, n, l, h⟩
end
/-! ### isinstance, indices from the end -/
section
variable {K : PySem.W.Frag} {H : Hp} {Q : VK}
theorem isi_int {i : Int} {c : String} {b : Bool} (e : kitB "int" c = some b) (h : Q (.bl b) H) : rIsi K [.int i, .ty c] H Q := ⟨.int i, .ty c, .type "int", .type c, b, rfl, .ty c, .base (.int i), kit_ty e, h⟩
theorem isi_bl {i : Bool} {c : String} {b : Bool} (e : kitB "bool" c = some b) (h : Q (.bl b) H) : rIsi K [.bl i, .ty c] H Q := ⟨.bl i, .ty c, .type "bool", .type c, b, rfl, .ty c, .base (.bl i), kit_ty e, h⟩
theorem isi_lst {p : Addr} {xs : List V} {c : String} {b : Bool} (s : H p = some (.lst xs)) (e : kitB "list" c = some b) (h : Q (.bl b) H) : rIsi K [.ref p, .ty c] H Q := ⟨.ref p, .ty c, .type "list", .type c, b, rfl, .ty c, .base (.lst s), kit_ty e, h⟩
theorem atI_neg {ns : List Int} {i : Int} (h0 : i < 0) (h1 : 0 ≤ ns.length + i) : atI (ns.map V.int) i = some (.int (ns.getD (ns.length + i).toNat 0)) := by
  have hl : ((ns.length : Int) + i).toNat < ns.length := by omega
  have e : ixN (ns.map V.int).length i = some ((ns.length : Int) + i).toNat := by
    unfold ixN
    rw [List.length_map, if_neg (by omega), if_pos (by omega), Int.add_comm]
  unfold atI
  rw [e]
  show (ns.map V.int)[((ns.length : Int) + i).toNat]? = _
  rw [List.getElem?_map, List.getElem?_eq_getElem hl, List.getD_eq_getElem?_getD, List.getElem?_eq_getElem hl]
  rfl
theorem g_ixM {p : Addr} {ns : List Int} {i : Int} (s : SqL K H p (ns.map V.int)) (h0 : i < 0) (h1 : 0 ≤ ns.length + i) (h : Q (.int (ns.getD (ns.length + i).toNat 0)) H) : rIxL K (.ref p) (.int i) H Q :=
  ⟨p, _, i, _, rfl, rfl, s, atI_neg h0 h1, h⟩
end
section
variable {K : PySem.W.Frag} {σ : L2.St} {H : Hp} {Q : VK}
theorem g_sl {r : V → Option Int → Option Int → Hp → VK → Prop} {te : TE} {tl th : TO} (h : te σ H fun x H1 => tl σ H1 fun l H2 => th σ H2 fun u H3 => r x l u H3 Q) : tSl r te tl th σ H Q := h
theorem g_noPart {R : Option Int → Hp → Prop} (h : R none H) : tNoPart σ H R := h
theorem g_part {t : TE} {R : Option Int → Hp → Prop} (h : t σ H fun x H1 => ∃ i, x = .int i ∧ R (some i) H1) : tPart t σ H R := h
theorem g_partI {i : Int} {R : Int → Prop} (h : R i) : ∃ j, V.int i = .int j ∧ R j := ⟨i, rfl, h⟩
/-- xs[:-1] of ints -/
theorem cut_init {ns : List Int} {x : Int} : cutV ((ns ++ [x]).map V.int) none (some (-1)) = ns.map V.int := by
  have e0 : ((ns ++ [x]).map V.int).length = ns.length + 1 := by simp
  have e1 : HT.sIx (ns.length + 1) (ns.length + 1) (some (-1)) = ns.length := by
    show (if (-1 : Int) < 0 then ((-1 : Int) + ((ns.length + 1 : Nat) : Int)).toNat else min (-1 : Int).toNat (ns.length + 1)) = _
    rw [if_pos (by decide)]
    omega
  unfold cutV
  rw [e0, e1]
  show List.take (ns.length - 0) ((ns ++ [x]).map V.int) = ns.map V.int
  rw [Nat.sub_zero, List.map_append, List.take_append_of_le_length (by simp), List.take_of_length_le (by simp)]
theorem g_slInit {p : Addr} {ns : List Int} {x : Int} (s : SqL K H p ((ns ++ [x]).map V.int)) (h : ∀ q, H q = none → Q (.ref q) (upd H q (ilst ns))) : rSlL K (.ref p) none (some (-1)) H Q :=
  ⟨p, _, rfl, s, fun q nq => by rw [cut_init]; exact h q nq⟩
/-- xs + ys of ints -/
theorem g_catI {p q : Addr} {ns ms : List Int} (e1 : H p = some (ilst ns)) (e2 : H q = some (ilst ms)) (hl : ns.length + ms.length ≤ 100000) (h : ∀ c, H c = none → Q (.ref c) (upd H c (ilst (ns ++ ms)))) : rCat (.ref p) (.ref q) H Q :=
  ⟨p, q, _, _, rfl, rfl, e1, e2, by rw [List.length_map, List.length_map]; exact Nat.le_trans hl (by decide), fun c nc => by
    have z := h c nc
    rw [ilst, List.map_append] at z
    exact z⟩
end
section
variable {K : PySem.W.Frag} {H : Hp} {Q : VK}
theorem isi_ii {i : Int} (h : Q (.bl true) H) : rIsi K [.int i, .ty "int"] H Q := isi_int (b := true) (by decide +kernel) h
theorem isi_ib {i : Int} (h : Q (.bl false) H) : rIsi K [.int i, .ty "bool"] H Q := isi_int (b := false) (by decide +kernel) h
theorem isi_ll {p : Addr} {xs : List V} (s : H p = some (.lst xs)) (h : Q (.bl true) H) : rIsi K [.ref p, .ty "list"] H Q := isi_lst (b := true) s (by decide +kernel) h
end
theorem ifNT {A B : Prop} (h : B) : if (!true) = true then A else B := h
theorem ifNF {A B : Prop} (h : A) : if (!false) = true then A else B := h
/-- the item ahead of place t, around -/
theorem g_ixLast {K : PySem.W.Frag} {H : Hp} {Q : VK} {p : Addr} {ns : List Int} {t : Int} (s : SqL K H p (ns.map V.int)) (h0 : 0 ≤ t) (h1 : t < ns.length) (h : Q (.int (ns.getD ((t - 1) % (ns.length : Int)).toNat 0)) H) : rIxL K (.ref p) (.int (t - 1)) H Q := by
  by_cases z : t = 0
  · subst z
    refine g_ixM s (by omega) (by omega) ?_
    have e : ((0 : Int) - 1) % (ns.length : Int) = ns.length + (0 - 1) := by
      rw [← Int.add_emod_right, Int.emod_eq_of_lt (by omega) (by omega)]
      omega
    rw [e] at h
    exact h
  · refine g_ixI s (by omega) (by omega) ?_
    rw [Int.emod_eq_of_lt (by omega) (by omega)] at h
    exact h

theorem g_try1 {K : PySem.W.Frag} {c : Value} {tb : WX → TS} {ts : Addr → Value → Option Addr → TS} {Wout : WX} {D : Ends} {σ : L2.St} {H : Hp} (h : tb (wOnly K c ts Wout D) D σ H) : tTry1 K c tb ts Wout D σ H := h
theorem g_tryAs {K : PySem.W.Frag} {c : Value} {i : Nat} {tb : WX → TS} {ts : Addr → Value → Option Addr → TS} {Wout : WX} {D : Ends} {σ : L2.St} {H : Hp} (h : tb (wAs K c i ts Wout D) D σ H) : tTryAs K c i tb ts Wout D σ H := h
theorem g_tryN {K : PySem.W.Frag} {tb : WX → TS} {l : List (Value × (Addr → Value → Option Addr → TS))} {Wout : WX} {D : Ends} {σ : L2.St} {H : Hp} (h : tb (wMany K Wout D l) D σ H) : tTryN K tb l Wout D σ H := h
/-- an item of rows that stood before -/
theorem g_rowB {K : PySem.W.Frag} {B H : Hp} {Q : VK} {p : Addr} {rows : List (List Int)} {i : Int} (s : Same B H) (R : RowsAt B p rows) (h0 : 0 ≤ i) (h1 : i < rows.length) (h : ∀ r, SqL K B r ((rows.getD i.toNat []).map V.int) → Q (.ref r) H) : rIxL K (.ref p) (.int i) H Q := by
  obtain ⟨as, e1, e2, e3⟩ := R
  have hl : i.toNat < rows.length := by omega
  have ha : i.toNat < as.length := by omega
  refine ⟨p, _, i, .ref as[i.toNat], rfl, rfl, SqL.of (s _ _ e1), at_of (j := i.toNat) (by omega) ?_, h _ (SqL.of ?_)⟩
  · rw [List.getElem?_map, List.getElem?_eq_getElem ha]
    rfl
  · have q := e3 i.toNat as[i.toNat] rows[i.toNat] (List.getElem?_eq_getElem ha) (List.getElem?_eq_getElem hl)
    rw [List.getD_eq_getElem?_getD, List.getElem?_eq_getElem hl]
    exact q
theorem take_getD {α : Type} {l : List α} {j : Nat} {d : α} (h : j < l.length) : l.take (j + 1) = l.take j ++ [l.getD j d] := by
  rw [List.getD_eq_getElem?_getD, List.take_add_one, List.getElem?_eq_getElem h]
  rfl
/-- an item of a new list of rows, with its place in the ledger -/
theorem g_rowLed {K : PySem.W.Frag} {B H : Hp} {Q : VK} {D : Addr} {as : List Addr} {rows : List (List Int)} {i : Int} (led : Led B (rowLed D as rows) H) (e : as.length = rows.length) (h0 : 0 ≤ i) (h1 : i < rows.length)
    (q : ∀ r, (rowLed D as rows)[i.toNat + 1]? = some (r, ilst (rows.getD i.toNat [])) → Q (.ref r) H) : rIxL K (.ref D) (.int i) H Q := by
  have hl : i.toNat < rows.length := by omega
  have ha : i.toNat < as.length := by omega
  refine ⟨D, _, i, .ref as[i.toNat], rfl, rfl, SqL.of (led.get 0 rfl), at_of (j := i.toNat) (by omega) ?_, q _ ?_⟩
  · rw [List.getElem?_map, List.getElem?_eq_getElem ha]
    rfl
  · rw [List.getD_eq_getElem?_getD, List.getElem?_eq_getElem hl]
    exact zip_at (List.getElem?_eq_getElem ha) (List.getElem?_eq_getElem hl)
theorem Led.rebaseN {B H H' : Hp} {L : List (Addr × HO)} (h : Led B L H) (s : Same H H') : ∃ B', Same B B' ∧ Led B' L H' ∧ ∀ p o, H' p = some o → H p = none → B' p = some o := by
  obtain ⟨B', s1, l1, k⟩ := (h.ext s).rebase
  exact ⟨B', s1, l1, fun p o e n => k p o e (h.out n)⟩
theorem NewRows.into {H H' B : Hp} {q : Addr} {rows : List (List Int)} (n : NewRows H H' q rows) (k : ∀ p o, H' p = some o → H p = none → B p = some o) : RowsAt B q rows := by
  obtain ⟨as, e1, e0, e2, e3⟩ := n
  exact ⟨as, k _ _ e1 e0, e2, fun i r row h1 h2 => k _ _ (e3 i r row h1 h2).1 (e3 i r row h1 h2).2⟩
theorem NewB.into {C : Addr} {H H' B : Hp} {b dx r t l s : Addr} {rows : List (List Int)} {turns loads steps : List Int} {taken : Int} (n : NewB C H H' b dx r t l s rows turns loads steps taken) (k : ∀ p o, H' p = some o → H p = none → B p = some o) : BdAt C B b dx r t l s rows turns loads steps taken := by
  obtain ⟨B1, s1, nr, l1⟩ := n
  have f : ∀ x, x ∈ (bl C b dx r t l s turns loads steps taken).map Prod.fst → H x = none := fun x hx => s1.free (l1.new x hx)
  exact ⟨k _ _ (l1.get 0 rfl) (f _ (by simp)), (nr.mono l1.same).into k, k _ _ (l1.get 1 rfl) (f _ (by simp)), k _ _ (l1.get 2 rfl) (f _ (by simp)), k _ _ (l1.get 3 rfl) (f _ (by simp))⟩
theorem isi_bb {K : PySem.W.Frag} {H : Hp} {Q : VK} {i : Bool} (h : Q (.bl true) H) : rIsi K [.bl i, .ty "bool"] H Q := isi_bl (b := true) (by decide +kernel) h
theorem g_eqB1 {H : Hp} {Q : VK} {i j : Bool} (e : i = j) (h : Q (.bl true) H) : rEq (.bl i) (.bl j) H Q := g_eqB (by rw [decide_eq_true e]; exact h)
/-- [[x]], just laid -/
theorem rowsOne {H : Hp} {p q : Addr} {x : Int} (np : H p = none) (nq : upd H p (.lst [V.int x]) q = none) : NewRows H (upd (upd H p (.lst [V.int x])) q (.lst [V.ref p])) q [[x]] := by
  have ne : q ≠ p := fun z => by
    subst z
    rw [upd_same] at nq
    cases nq
  refine ⟨[p], upd_same, (same_upd (o := .lst [V.int x]) np).free nq, rfl, fun i r row h1 h2 => ?_⟩
  cases i with
  | zero =>
    cases h1
    cases h2
    exact ⟨by rw [upd_ne ne.symm]; exact upd_same, np⟩
  | succ i => simp at h1
theorem Led.back {B B' H : Hp} {L : List (Addr × HO)} (h : Led B' L H) (s : Same B B') : Led B L H := ⟨s.trans h.same, h.at_, h.nd, fun p hp => s.free (h.new p hp)⟩
theorem g_notNn {H : Hp} {Q : VK} (h : Q (.bl false) H) : rNotN .non .non H Q := ⟨rfl, h⟩
theorem g_notNi {H : Hp} {Q : VK} {i : Int} (h : Q (.bl true) H) : rNotN (.int i) .non H Q := ⟨rfl, h⟩
theorem g_isNn {H : Hp} {Q : VK} (h : Q (.bl true) H) : rIsN .non .non H Q := ⟨rfl, h⟩
theorem g_isNi {H : Hp} {Q : VK} {i : Int} (h : Q (.bl false) H) : rIsN (.int i) .non H Q := ⟨rfl, h⟩
/-- isinstance(board, Board) -/
structure BdIs (K : PySem.W.Frag) (G : Ads) : Prop where
  ha : PySem.W.findIn K (.ref G.Board) "__class__" = some (some (.builtin "object.__class__"))
  hn : PySem.W.specialIn K (.builtin "object.__class__") "__get__" = some (some (.builtin "getset_descriptor.__get__"))
  ht : PySem.W.takesIn K (.builtin "object.__class__") = some true
  hm : PySem.W.mroIn K G.Board (.type "object") = some true
  ki : PySem.W.kitOne K (.ref G.Board) (.ref G.Board) = some true
theorem isi_board {K : PySem.W.Frag} {G : Ads} {H : Hp} {Q : VK} {b dx : Addr} {fs : List (Str × V)} (bi : BdIs K G) (bd : BdOk K G) (e : H b = some (.ins G.Board dx fs)) (h : Q (.bl true) H) : rIsi K [.ref b, .ref G.Board] H Q :=
  ⟨.ref b, .ref G.Board, .ref G.Board, .ref G.Board, true, rfl, .own _, .base (.ins e bd.cl bi.ha bi.hn bi.ht bi.hm), bi.ki, h⟩
/-- an item of any list -/
theorem g_ixV {K : PySem.W.Frag} {H : Hp} {Q : VK} {p : Addr} {xs : List V} {i : Int} {v : V} (s : SqL K H p xs) (h0 : 0 ≤ i) (e : xs[i.toNat]? = some v) (h : Q v H) : rIxL K (.ref p) (.int i) H Q :=
  ⟨p, _, i, _, rfl, rfl, s, at_of (j := i.toNat) (by omega) e, h⟩

/-! methods and makings inside a try body; isinstance of a caught error -/
section
variable {X : Cx} {CX : CXT} {k : Nat} {f C : Addr} {fd : FuncData} {ps : List Str} {sp : Sp} {E : L2.St → XK} {x m : Str} {p pos apos : Pos} {e o : Expr} {es : List Expr} {ta : TE} {t : TA}
theorem pe_methT {pl : Sem Bool} (he : PE X o ta) (c : Cls X.K C) (hm : Meth X.K C m f) (F : FnOk X.prog X.w X.K X.mg X.base CX k f fd ps sp) (hr : Room k X.A) (hb : Binds X.K fd ps []) (hx : ∀ σ, PassesAt CX X σ (E σ)) (ha : PA X (e :: es) t)
    (hst : starEach (e :: es) X.env = (false, eval e X.env) :: starEach es X.env := by rfl) (hpl : (backTo pos (starEach es X.env)).any (·.1) = false := by rfl)
    (ht : eval (.Call (.Attribute o m apos) (e :: es) [] pos) X.env = (do
      let ov ← eval o X.env
      standAt apos.atName
      let (f, first) ← holding [ov] (getMethod ov m pl)
      callWith pos f first (backTo pos (starEach (e :: es) X.env)) (backToKw pos (keywordEach [] X.env))) := by rfl) :
    PE X (.Call (.Attribute o m apos) (e :: es) [] pos) (tMethT C m sp E ta t) := by
  refine ⟨fun pins s σ H Q I h => ?_⟩
  refine PySem.W.methodCall_KW (pl := pl) (thn (he.run pins s σ H _ I h) fun u s1 ⟨x, H1, I1, rx, a, dx, fs, ex, ea, l, q⟩ => ?_) ht
  subst ex
  obtain rfl : u = Value.ref a := rx
  refine getmeth_ok I1 ea c hm l ?_
  refine PySem.W.callWith_K (first := [.ref a]) (h₀ := X.base) I.ok.mod.kin hm.kp (thn (ha.run pos pins s1 σ H1 _ I1 q) fun us s2 ⟨vs, H2, I2, r, q2⟩ => ⟨I2.kIn, ?_⟩) hst hpl
  exact run_fnS (us := .ref a :: us) (vs := .ref a :: vs) F hr hb (hx σ) I2 (.cons rfl r) q2
theorem run_makeS {pins : List (Addr × Obj)} {σ : L2.St} {H : Hp} {s : Shared} {Q : VK} {us : List Value} {vs : List V} (M : Mk X.K C f) (F : FnOk X.prog X.w X.K X.mg X.base CX k f fd ps sp) (hr : Room (k + 1) X.A) (hb : Binds X.K fd ps [])
    (hx : PassesAt CX X σ (E σ)) (I : Inv X pins σ H s) (r : Vals vs us)
    (h : ∀ x dx, H x = none → H dx = none → dx ≠ x → sp (.ref x :: vs) (upd (upd H dx (.own x)) x (.ins C dx [])) (fun v H2 => v = .non ∧ Q (.ref x) H2) (E σ)) :
    wpAny (model X.prog X.w) X.A (call (.ref C) us) (EP X pins σ Q) X.xe s := by
  have hq := h (s.heap.objs.size + 1) s.heap.objs.size (I.hok.fresh (Nat.le_succ _)) (I.hok.fresh (Nat.le_refl _)) (Nat.ne_of_lt (Nat.lt_succ_self _))
  have I2 := Inv.made (C := C) I
  have r2 : Vals (V.ref (s.heap.objs.size + 1) :: vs) (Value.ref (s.heap.objs.size + 1) :: us) := .cons rfl r
  have hl : (Value.ref (s.heap.objs.size + 1) :: us).length = ps.length := by
    have e := r2.length
    rw [F.len _ _ _ _ hq] at e
    exact e.symm
  have b := hb { s with heap := _ } (Value.ref (s.heap.objs.size + 1) :: us) I2.kIn (by rw [List.append_nil]; exact hl)
  rw [List.append_nil] at b
  refine wpAny_call (make_map (f := f) I.kIn M.makes M.init (beq_iff_eq.mp M.fn) (codeAny_mono (F.run _ X.stack _ _ ⟨Value.ref (s.heap.objs.size + 1) :: us, []⟩ (Value.ref (s.heap.objs.size + 1) :: us) _ _ (E σ) (hr.make C us [])
    (I2.env0.make C us []) b r2 hq) fun r s' hq' => ?_))
  cases r with
  | error e => exact hx pins _ _ e s' I2 hq'
  | ok fl =>
    cases fl with
    | ret u =>
      obtain ⟨v, H', I3, rv, ev, q3⟩ := I2.after hq'
      subst ev
      exact ⟨rv, ⟨V.ref (s.heap.objs.size + 1), H', I3, rfl, q3⟩⟩
    | next => exact False.elim hq'
    | brk => exact False.elim hq'
    | cont => exact False.elim hq'
theorem pe_makeT (M : Mk X.K C f) (F : FnOk X.prog X.w X.K X.mg X.base CX k f fd ps sp) (hr : Room (k + 1) X.A) (hg : Gl X x) (hm : X.mg x = some (.ref C)) (hb : Binds X.K fd ps []) (hx : ∀ σ, PassesAt CX X σ (E σ))
    (ha : PA X (e :: es) t) (hdb : (x == ("__debug__" : Str)) = false := by decide) (he : starEach (e :: es) X.env = (false, eval e X.env) :: starEach es X.env := by rfl) (hpl : (backTo pos (starEach es X.env)).any (·.1) = false := by rfl) :
    PE X (.Call (.Name x p) (e :: es) [] pos) (tMakeT C sp E t) := by
  refine ⟨fun pins s σ H Q I h => ?_⟩
  refine wpAny_Call_Name_kw (ld_glob I hg hm ?_ hdb)
  refine PySem.W.callWith_K (h₀ := X.base) I.ok.mod.kin M.kp (thn (ha.run pos pins s σ H _ I h) fun us s1 ⟨vs, H1, I1, r, q⟩ => ⟨I1.kIn, ?_⟩) he hpl
  exact run_makeS M F hr hb (hx σ) I1 r q
end
def rIsX (K : PySem.W.Frag) (a : Addr) (cls : Value) (d : Option Addr) : List V → Hp → VK → Prop := fun xs H Q => ∃ D, cls = .ref D ∧ d = none ∧ ExcC K D ∧ rIsE K D a xs H Q
theorem call_isX {X : Cx} {a : Addr} {cls : Value} {d : Option Addr} {oe : Obj} {pn : List (Addr × Obj)} (hz : Zc cls d oe) (hf : ∃ vs, oe.data = .fields vs) : CallR (X.suite a ((a, oe) :: pn)) (.builtin "isinstance") (rIsX X.K a cls d) := by
  intro pins s σ H xs us Q I r h
  obtain ⟨D, rfl, rfl, C, h⟩ := h
  exact call_isE C hz hf pins s σ H xs us Q I r h
/-- isinstance of the caught error of class D -/
theorem g_isX {K : PySem.W.Frag} {a D c : Addr} {b : Bool} {H : Hp} {Q : VK} (C : ExcC K D) (e : PySem.W.kitOne K (.ref D) (.ref c) = some b) (q : Q (.bl b) H) : rIsX K a (.ref D) none [.ref a, .ref c] H Q :=
  ⟨D, rfl, rfl, C, .ref c, .ref c, b, rfl, fun _ h => h, e, q⟩
theorem g_isXt {K : PySem.W.Frag} {a D : Addr} {c : String} {b : Bool} {H : Hp} {Q : VK} (C : ExcC K D) (e : PySem.W.kitOne K (.ref D) (.type c) = some b) (q : Q (.bl b) H) : rIsX K a (.ref D) none [.ref a, .ty c] H Q :=
  ⟨D, rfl, rfl, C, .ty c, .type c, b, rfl, fun _ h => h, e, q⟩

local macro_rules | `(tactic| walk_at "sq") => `(tactic| first | assumption | exact SqL.of (by assumption) | exact Led.base (by assumption) (by assumption) | exact Led.sq (by assumption) 0 rfl | exact Led.sq (by assumption) 1 rfl | exact Led.sq (by assumption) 2 rfl | exact Led.sq (by assumption) 3 rfl | exact Led.sq (by assumption) 4 rfl | exact Led.sq (by assumption) 5 rfl | exact Led.sq (by assumption) 6 rfl | exact Led.sq (by assumption) 7 rfl | exact Led.sq (by assumption) 8 rfl | exact Led.sq (by assumption) 9 rfl)
local macro_rules | `(tactic| walk_at "ar") => `(tactic| first | omega | assumption | ((with_reducible show (0 : Int) ≤ (_ : Int) % (_ : Int)); exact Int.emod_nonneg _ (by omega)) | ((with_reducible show (_ : Int) % (_ : Int) < (_ : Int)); exact Int.emod_lt_of_pos _ (by omega)) | decide)
local macro_rules | `(tactic| walk_at "g1") => `(tactic| with_reducible first | refine g_seq ?_ | refine g_asg ?_ | refine g_name ?_ | refine g_c ?_ | refine g_op ?_ | refine g_un ?_ | refine g_call ?_ | refine g_cons ?_ | refine g_nil ?_ | refine g_I0 ?_ | refine g_tTest ?_ | refine g_tB ?_ | refine g_bl ?_ | refine g_blV ?_ | refine g_and ?_ | refine g_or ?_ | refine g_not ?_ | refine g_andV ?_ | refine g_orV ?_ | refine g_notV ?_ | refine g_ifE ?_ | refine g_ifS ?_ | refine g_next ?_ | refine g_ret ?_ | refine g_retN ?_ | refine g_drop ?_ | refine g_raise ?_ | refine g_cb ?_ | refine g_lst ?_ | refine g_tFld ?_ | refine g_for1 ?_ | refine g_for2 ?_ | refine g_forL ?_ | refine g_lc1 ?_ | refine g_lcL ?_ | refine g_lcV ?_ | refine g_yes ?_ | refine g_make ?_ | refine g_meth ?_ | refine g_methT ?_ | refine g_makeT ?_ | refine g_callS ?_ | refine g_sfld ?_ | refine g_sub ?_ | refine g_bm ?_ | refine g_try1 ?_ | refine g_tryAs ?_ | refine g_tryN ?_ | refine g_sl ?_ | refine g_noPart ?_ | refine g_part ?_ | refine g_partI ?_ | refine g_eqI ?_ | refine g_neI ?_ | refine g_eqB ?_ | refine g_neB ?_ | refine g_eqS ?_ | refine g_neS ?_ | refine g_U ?_ | refine g_notNn ?_ | refine g_notNi ?_ | refine g_isNn ?_ | refine g_isNi ?_)
local macro_rules | `(tactic| walk_at "ra") => `(tactic| first | assumption | exact Led.ra (by assumption) (by assumption) | exact NewRows.at_ (by assumption))
local macro_rules | `(tactic| walk_at "gif") => `(tactic| ((with_reducible show @ite _ _ _ _ _); first | refine iteT ?_ | refine iteF ?_ | refine ifNT ?_ | refine ifNF ?_ | ((with_reducible show @ite _ (@decide _ _ = true) _ _ _); first | refine ifPt (by walk_at "ar") ?_ | refine ifPf (by walk_at "ar") ?_) | refine ifNt (by walk_at "ar") ?_ | refine ifNf (by walk_at "ar") ?_))
local macro_rules | `(tactic| walk_at "g2") => `(tactic| with_reducible first | ((show Exists _); first | refine g_rng1 (by walk_at "ar") (by walk_at "ar") ?_ | refine g_rng2 (by walk_at "ar") (by walk_at "ar") (by walk_at "ar") (by walk_at "ar") ?_ | refine g_lstwR (by walk_at "ra") ?_ | refine g_lstw (by walk_at "sq") ?_) | ((show mLen _ _ _ _); first | refine g_lenR (by walk_at "ra") ?_ | refine g_lenI (by walk_at "sq") ?_ | refine g_len (by walk_at "sq") ?_) | ((show rIxL _ _ _ _ _); refine g_ixI (by walk_at "sq") (by walk_at "ar") (by walk_at "ar") ?_) | ((show mMod _ _ _ _); refine g_mod (by walk_at "ar") ?_) | ((show mFdiv _ _ _ _); refine g_fdiv (by walk_at "ar") (by walk_at "ar") ?_) | ((show mMul _ _ _ _); first | refine g_mulL (by walk_at "ar") ?_ | refine g_mulR (by walk_at "ar") ?_) | ((show And _ _); refine g_ty (by walk_at "sq") ?_) | ((show rSum _ _ _ _); refine g_sum (by walk_at "sq") ?_) | refine isi_ii ?_ | refine isi_ib ?_ | refine isi_bb ?_ | walk_at "gif")
local macro_rules | `(tactic| walk_at "g") => `(tactic| repeat (first | walk_at "g1" | ((with_reducible show tVar _ _ _ _); refine g_var rfl ?_) | walk_at "g2"))
local macro_rules | `(tactic| walk_at "row") => `(tactic| with_reducible refine g_row (by walk_at "ra") (by walk_at "ar") (by walk_at "ar") ?_)
/-! A board's state on paper, and one step of it -/
structure Sta where
  turns : List Int
  loads : List Int
  steps : List Int
  taken : Int
def exitOf (rows : List (List Int)) (turns : List Int) (k : Nat) : Int := (rows.getD k []).getD (turns.getD k 0).toNat 0
def gone (g : Int) (loads : List Int) : List Int := if g = -1 then loads else loads.set g.toNat (loads.getD g.toNat 0 + 1)
def stepS (rows : List (List Int)) (S : Sta) (k : Nat) : Sta where
  turns := S.turns.set k ((S.turns.getD k 0 + 1) % ((rows.getD k []).length : Int))
  loads := gone (exitOf rows S.turns k) (S.loads.set k (S.loads.getD k 0 - 1))
  steps := S.steps.set k (S.steps.getD k 0 + 1)
  taken := if exitOf rows S.turns k = -1 then S.taken + 1 else S.taken
/-- a state that goes with rows -/
structure SOk (rows : List (List Int)) (S : Sta) : Prop where
  tk : TurnsOk rows S.turns
  ll : S.loads.length = rows.length
  ls : S.steps.length = rows.length
theorem gone_len (g : Int) (loads : List Int) : (gone g loads).length = loads.length := by
  unfold gone
  split <;> simp
theorem TurnsOk.on {rows : List (List Int)} {turns : List Int} (h : TurnsOk rows turns) (k : Nat) {x : Int} (hx : k < rows.length → 0 ≤ x ∧ x < (rows.getD k []).length) : TurnsOk rows (turns.set k x) := by
  refine ⟨by rw [List.length_set]; exact h.1, fun j hj => ?_⟩
  by_cases hk : k < turns.length
  · rw [getD_set hk]
    by_cases e : k = j
    · subst e
      rw [if_pos rfl]
      exact hx hj
    · rw [if_neg e]
      exact h.2 j hj
  · rw [List.set_eq_of_length_le (by omega)]
    exact h.2 j hj
theorem SOk.step {rows : List (List Int)} {S : Sta} (h : SOk rows S) (ok : OkRows rows) (k : Nat) : SOk rows (stepS rows S k) where
  tk := h.tk.on k fun hk => by
    have := (ok.row hk).1
    exact ⟨Int.emod_nonneg _ (by omega), Int.emod_lt_of_pos _ (by omega)⟩
  ll := by
    show (gone _ _).length = _
    rw [gone_len, List.length_set]
    exact h.ll
  ls := by
    show (List.set _ _ _).length = _
    rw [List.length_set]
    exact h.ls
theorem exitOf_range {rows : List (List Int)} {turns : List Int} {k : Nat} (ok : OkRows rows) (tk : TurnsOk rows turns) (hk : k < rows.length) : -1 ≤ exitOf rows turns k ∧ exitOf rows turns k < rows.length := by
  have := tk.2 k hk
  exact ok.exit hk (by omega)
theorem exitOf_mem {rows : List (List Int)} {turns : List Int} {k : Nat} (tk : TurnsOk rows turns) (hk : k < rows.length) : exitOf rows turns k ∈ rows.getD k [] := by
  have := tk.2 k hk
  exact getD_mem (by omega)
/-- the same on lists with the pit's number behind -/
theorem gone_lying {g : Int} {loads : List Int} {taken : Int} (h0 : -1 ≤ g) (h1 : g < loads.length) :
    (if g = -1 then (loads ++ [taken]).set loads.length ((loads ++ [taken]).getD loads.length 0 + 1) else (loads ++ [taken]).set g.toNat ((loads ++ [taken]).getD g.toNat 0 + 1)) = gone g loads ++ [if g = -1 then taken + 1 else taken] := by
  unfold gone
  by_cases e : g = -1
  · rw [if_pos e, if_pos e, if_pos e]
    rw [List.getD_eq_getElem?_getD, List.getElem?_append_right (Nat.le_refl _), Nat.sub_self]
    rw [List.set_append_right _ _ (Nat.le_refl _), Nat.sub_self]
    rfl
  · rw [if_neg e, if_neg e, if_neg e]
    have hl : g.toNat < loads.length := by omega
    rw [List.getD_eq_getElem?_getD, List.getElem?_append_left hl, ← List.getD_eq_getElem?_getD, List.set_append_left _ _ hl]
theorem set_nonneg {xs : List Int} {k : Nat} {x : Int} (h : ∀ y, y ∈ xs → 0 ≤ y) (hx : 0 ≤ x) : ∀ y, y ∈ xs.set k x → 0 ≤ y := fun y hy => by
  rcases List.mem_or_eq_of_mem_set hy with h1 | h1
  · exact h y h1
  · rw [h1]
    exact hx
theorem getD_nonneg {xs : List Int} (h : ∀ y, y ∈ xs → 0 ≤ y) (k : Nat) : 0 ≤ xs.getD k 0 := by
  by_cases hk : k < xs.length
  · exact h _ (getD_mem hk)
  · rw [List.getD_eq_getElem?_getD, List.getElem?_eq_none (by omega)]
    exact Int.le_refl 0
theorem sum_setD {xs : List Int} {k : Nat} (hk : k < xs.length) (x : Int) : (xs.set k x).sum = xs.sum - xs.getD k 0 + x := by
  rw [List.getD_eq_getElem?_getD, List.getElem?_eq_getElem hk]
  exact sum_set (List.getElem?_eq_getElem hk)
theorem lying_getD {loads : List Int} {taken : Int} {k : Nat} (hk : k < loads.length) : (loads ++ [taken]).getD k 0 = loads.getD k 0 := by
  rw [List.getD_eq_getElem?_getD, List.getElem?_append_left hk, ← List.getD_eq_getElem?_getD]
theorem OkRows.exits {rows : List (List Int)} (ok : OkRows rows) : ∀ k : Nat, k < rows.length → ∀ g, g ∈ rows.getD k [] → -1 ≤ g ∧ g < rows.length := fun _ hk => (ok.row hk).2.2

/-! What is reached: sites from which the pit is reached in at most m goings -/
inductive Rch (rows : List (List Int)) : Nat → Nat → Prop where
  | pit {k m : Nat} : k < rows.length → (-1 : Int) ∈ rows.getD k [] → Rch rows (m + 1) k
  | via {k j m : Nat} : k < rows.length → (j : Int) ∈ rows.getD k [] → Rch rows m j → Rch rows (m + 1) k
theorem Rch.lt {rows : List (List Int)} {m k : Nat} (h : Rch rows m k) : k < rows.length := by
  cases h <;> assumption
theorem Rch.mono {rows : List (List Int)} {m k : Nat} (h : Rch rows m k) : Rch rows (m + 1) k := by
  induction h with
  | pit h1 h2 => exact .pit h1 h2
  | via h1 h2 _ ih => exact .via h1 h2 ih
theorem Rch.mono' {rows : List (List Int)} {m n k : Nat} (h : Rch rows m k) (hn : m ≤ n) : Rch rows n k := by
  induction hn with
  | refl => exact h
  | step _ ih => exact ih.mono
theorem Rch.zero {rows : List (List Int)} {k : Nat} (h : Rch rows 0 k) : False := by cases h
def Reached (rows : List (List Int)) (k : Nat) : Prop := ∃ m, Rch rows m k
def Open (rows : List (List Int)) : Prop := ∀ k, k < rows.length → Reached rows k
theorem Rch.stable {rows : List (List Int)} {m : Nat} (h : ∀ k, Rch rows (m + 1) k → Rch rows m k) {j k : Nat} (r : Rch rows j k) : Rch rows m k := by
  induction r with
  | pit h1 h2 => exact h _ (.pit h1 h2)
  | via h1 h2 _ ih => exact h _ (.via h1 h2 ih)
section
open Classical
theorem countP_strict {α : Type} {p q : α → Bool} : ∀ {l : List α}, (∀ x, p x = true → q x = true) → (∃ x, x ∈ l ∧ q x = true ∧ p x = false) → l.countP p + 1 ≤ l.countP q
  | [], _, h => by
    obtain ⟨x, hx, _⟩ := h
    simp at hx
  | a :: l, hm, h => by
    have hle : l.countP p ≤ l.countP q := List.countP_mono_left fun x _ => hm x
    rw [List.countP_cons, List.countP_cons]
    by_cases e : q a = true ∧ p a = false
    · rw [e.1, e.2]
      simp
      exact hle
    · obtain ⟨x, hx, h1, h2⟩ := h
      rcases List.mem_cons.mp hx with rfl | hx
      · exact absurd ⟨h1, h2⟩ e
      · have ih := countP_strict hm ⟨x, hx, h1, h2⟩
        have : (if p a = true then 1 else 0) ≤ (if q a = true then 1 else 0) := by
          by_cases pa : p a = true
          · rw [if_pos pa, if_pos (hm a pa)]
            exact Nat.le_refl _
          · rw [if_neg pa]
            exact Nat.zero_le _
        omega
theorem Reached.short {rows : List (List Int)} {k : Nat} (h : Reached rows k) : Rch rows rows.length k := by
  by_cases st : ∃ m, m ≤ rows.length ∧ ∀ k, Rch rows (m + 1) k → Rch rows m k
  · obtain ⟨m, hm, st⟩ := st
    obtain ⟨j, r⟩ := h
    exact (Rch.stable st r).mono' hm
  · have grow : ∀ m, m ≤ rows.length + 1 → m ≤ (List.range rows.length).countP (fun k => decide (Rch rows m k)) := by
      intro m
      induction m with
      | zero => intro _; exact Nat.zero_le _
      | succ m ih =>
        intro hm
        have h1 := ih (by omega)
        have h2 : ∃ k, Rch rows (m + 1) k ∧ ¬ Rch rows m k := by
          refine Classical.byContradiction fun n => st ⟨m, by omega, fun k r => Classical.byContradiction fun z => n ⟨k, r, z⟩⟩
        obtain ⟨k, r1, r2⟩ := h2
        have h3 := countP_strict (p := fun k => decide (Rch rows m k)) (q := fun k => decide (Rch rows (m + 1) k)) (l := List.range rows.length) (fun x hx => by
          rw [decide_eq_true_eq] at hx ⊢
          exact hx.mono) ⟨k, List.mem_range.mpr r1.lt, decide_eq_true r1, decide_eq_false r2⟩
        omega
    have h1 := grow (rows.length + 1) (Nat.le_refl _)
    have h2 := List.countP_le_length (p := fun k => decide (Rch rows (rows.length + 1) k)) (l := List.range rows.length)
    rw [List.length_range] at h2
    omega
noncomputable def reachL (rows : List (List Int)) : List Bool := (List.range rows.length).map fun k => decide (Reached rows k)
noncomputable def openB (rows : List (List Int)) : Bool := decide (Open rows)
theorem reachL_len (rows : List (List Int)) : (reachL rows).length = rows.length := by simp [reachL]
theorem reachL_get {rows : List (List Int)} {k : Nat} (h : k < rows.length) : (reachL rows).getD k false = decide (Reached rows k) := by
  unfold reachL
  rw [List.getD_eq_getElem?_getD, List.getElem?_map, List.getElem?_range h]
  rfl
theorem bools_ext {a b : List Bool} (hl : a.length = b.length) (h : ∀ i, i < a.length → a.getD i false = b.getD i false) : a = b := by
  apply List.ext_getElem hl
  intro k h1 h2
  have q := h k h1
  rw [List.getD_eq_getElem?_getD, List.getD_eq_getElem?_getD, List.getElem?_eq_getElem h1, List.getElem?_eq_getElem h2] at q
  exact q
theorem reachL_of {rows : List (List Int)} {bs : List Bool} (hl : bs.length = rows.length) (h : ∀ k, k < rows.length → (bs.getD k false = true ↔ Reached rows k)) : bs = reachL rows := by
  refine bools_ext (by rw [reachL_len]; exact hl) fun k hk => ?_
  rw [reachL_get (by omega)]
  rw [Bool.eq_iff_iff, decide_eq_true_eq]
  exact h k (by omega)
theorem reachL_all (rows : List (List Int)) : (reachL rows).all id = openB rows := by
  rw [Bool.eq_iff_iff, List.all_eq_true]
  unfold openB
  rw [decide_eq_true_eq]
  constructor
  · intro h k hk
    have z := h ((reachL rows).getD k false) (getD_mem (by rw [reachL_len]; exact hk))
    rw [reachL_get hk] at z
    exact of_decide_eq_true z
  · intro h x hx
    obtain ⟨k, hk, rfl⟩ := List.getElem_of_mem hx
    rw [reachL_len] at hk
    have z := reachL_get hk
    rw [List.getD_eq_getElem?_getD, List.getElem?_eq_getElem (by rw [reachL_len]; exact hk)] at z
    show id (reachL rows)[k] = true
    exact z.trans (decide_eq_true (h k hk))
theorem openB_true {rows : List (List Int)} (h : Open rows) : openB rows = true := decide_eq_true h
theorem openB_false {rows : List (List Int)} (h : ¬ Open rows) : openB rows = false := decide_eq_false h
theorem openB_in (rows : List (List Int)) : (!decide (false ∈ reachL rows)) = openB rows := by
  rw [← reachL_all, Bool.eq_iff_iff, List.all_eq_true]
  simp only [Bool.not_eq_true', decide_eq_false_iff_not, id]
  constructor
  · intro h x hx
    cases x with
    | true => rfl
    | false => exact absurd hx h
  · intro h hx
    have := h false hx
    cases this
end
/-- what is known within lap l (of goings), the first j sites seen to again -/
structure Lap (rows : List (List Int)) (l j : Nat) (bs : List Bool) : Prop where
  len : bs.length = rows.length
  sound : ∀ k, k < rows.length → bs.getD k false = true → Reached rows k
  done : ∀ k, Rch rows l k → bs.getD k false = true
  more : ∀ k, k < j → Rch rows (l + 1) k → bs.getD k false = true
theorem Lap.put {rows : List (List Int)} {l j k : Nat} {bs : List Bool} (h : Lap rows l j bs) (hk : k < rows.length) (hr : Reached rows k) : Lap rows l j (bs.set k true) := by
  have hb : ∀ i, bs.getD i false = true → (bs.set k true).getD i false = true := fun i hi => by
    rw [getD_set (by rw [h.len]; exact hk)]
    split
    · rfl
    · exact hi
  refine ⟨by rw [List.length_set]; exact h.len, fun i hi e => ?_, fun i r => hb i (h.done i r), fun i hi r => hb i (h.more i hi r)⟩
  rw [getD_set (by rw [h.len]; exact hk)] at e
  by_cases z : k = i
  · subst z
    exact hr
  · rw [if_neg z] at e
    exact h.sound i hi e

/-! More comprehensions: with a test, of truths -/
section
variable {K : PySem.W.Frag} {σ : L2.St} {H : Hp} {Q : VK} {te : TE} {tt : TT} {i : Nat} {vs : List Nat}
theorem filter_push {α : Type} {l : List α} {x : α} {b : α → Bool} {β : Type} {f : α → β} (h : b x = true) : ((l ++ [x]).filter b).map f = (l.filter b).map f ++ [f x] := by
  rw [List.filter_append, List.map_append]
  simp [h]
theorem filter_skip {α : Type} {l : List α} {x : α} {b : α → Bool} {β : Type} {f : α → β} (h : b x = false) : ((l ++ [x]).filter b).map f = (l.filter b).map f := by
  rw [List.filter_append, List.map_append]
  simp [h]
/-- [f k for k in range(n) if b k] -/
theorem lcRF {n : Nat} (b : Nat → Bool) (f : Nat → Int) (hn : n ≤ 100000) (hw : ∀ x : Int, wipe ((wipe σ vs).set i (some (.int x))) vs = wipe σ vs)
    (ht : ∀ D k ns H1 (R : Bool → Hp → Prop), k < n → Led H [(D, ilst ns)] H1 → (∀ H2, Led H [(D, ilst ns)] H2 → R (b k) H2) → tt ((wipe σ vs).set i (some (.int (0 + k)))) H1 R)
    (he : ∀ D k ns H1 (R : VK), k < n → Led H [(D, ilst ns)] H1 → (∀ H2, Led H [(D, ilst ns)] H2 → R (.int (f k)) H2) → te ((wipe σ vs).set i (some (.int (0 + k)))) H1 R)
    (hd : ∀ D H1, H D = none → Same H H1 → H1 D = some (ilst (((List.range n).filter b).map f)) → Q (.ref D) H1) : LcR 0 n i tt te vs σ H Q := by
  refine lcRT (fun D k H1 => Led H [(D, ilst (((List.range k).filter b).map f))] H1) (fun D nD => (Led.nil H).alloc nD _) hw (fun D k H1 nD hk l1 => ?_) (fun D H1 nD l1 => hd D H1 nD l1.same (l1.get 0 rfl))
  refine ht D k _ H1 _ hk l1 fun H2 l2 => ?_
  cases hb : b k with
  | false =>
    refine iteF ?_
    show Led H [(D, ilst (((List.range (k + 1)).filter b).map f))] H2
    rw [List.range_succ, filter_skip hb]
    exact l2
  | true =>
    refine iteT ?_
    refine he D k _ H2 _ hk l2 fun H3 l3 => ?_
    refine ⟨_, l3.get 0 rfl, ?_, ?_⟩
    · have h1 := List.length_filter_le b (List.range k)
      rw [List.length_range] at h1
      rw [List.length_map, List.length_map]
      exact Nat.lt_of_lt_of_le (show _ < 100000 by omega) (by decide)
    · show Led H [(D, ilst (((List.range (k + 1)).filter b).map f))] _
      rw [List.range_succ, filter_push hb]
      exact ints_push l3
/-- [f x for x in xs if b x], xs ints -/
theorem lcLF {a : Addr} {xs : List Int} (b : Int → Bool) (f : Int → Int) (hn : xs.length ≤ 100000) (s : SqL K H a (xs.map V.int)) (hw : ∀ x : V, wipe ((wipe σ vs).set i (some x)) vs = wipe σ vs)
    (ht : ∀ D x ns H1 (R : Bool → Hp → Prop), x ∈ xs → Led H [(D, ilst ns)] H1 → (∀ H2, Led H [(D, ilst ns)] H2 → R (b x) H2) → tt ((wipe σ vs).set i (some (.int x))) H1 R)
    (he : ∀ D x ns H1 (R : VK), x ∈ xs → Led H [(D, ilst ns)] H1 → (∀ H2, Led H [(D, ilst ns)] H2 → R (.int (f x)) H2) → te ((wipe σ vs).set i (some (.int x))) H1 R)
    (hd : ∀ D H1, H D = none → Same H H1 → H1 D = some (ilst ((xs.filter b).map f)) → Q (.ref D) H1) : LcL K a i tt te vs σ H Q := by
  intro D nD
  refine lc_list (xs := xs.map V.int) (g := gName i) (fun k H1 => Led H [(D, ilst (((xs.take k).filter b).map f))] H1) ((Led.nil H).alloc nD _) (fun k H1 hk l1 => l1.base s) (fun k x H1 hx l1 => ⟨hw _, ?_⟩) (fun H1 l1 => hd D H1 nD l1.same (by
    have z := l1.get 0 rfl
    rw [List.length_map, List.take_length] at z
    exact z))
  have hk : k < xs.length := by
    have := (List.getElem?_eq_some_iff.mp hx).1
    simpa using this
  rw [List.getElem?_map, List.getElem?_eq_getElem hk] at hx
  cases hx
  have e : xs.take (k + 1) = xs.take k ++ [xs[k]] := by rw [List.take_add_one, List.getElem?_eq_getElem hk]; rfl
  refine ht D _ _ H1 _ (List.getElem_mem hk) l1 fun H2 l2 => ?_
  cases hb : b xs[k] with
  | false =>
    refine iteF ?_
    show Led H [(D, ilst (((xs.take (k + 1)).filter b).map f))] H2
    rw [e, filter_skip hb]
    exact l2
  | true =>
    refine iteT ?_
    refine he D _ _ H2 _ (List.getElem_mem hk) l2 fun H3 l3 => ?_
    refine ⟨_, l3.get 0 rfl, ?_, ?_⟩
    · have h1 := List.length_filter_le b (xs.take k)
      rw [List.length_take] at h1
      rw [List.length_map, List.length_map]
      exact Nat.lt_of_lt_of_le (show _ < 100000 by omega) (by decide)
    · show Led H [(D, ilst (((xs.take (k + 1)).filter b).map f))] _
      rw [e, filter_push hb]
      exact ints_push l3
theorem bls_push {H2 : Hp} {D : Addr} {ns : List Bool} {x : Bool} (h : Led H [(D, blst ns)] H2) : Led H [(D, blst (ns ++ [x]))] (upd H2 D (.lst (ns.map V.bl ++ [V.bl x]))) := by
  have z := h.set (i := 0) rfl (.lst (ns.map V.bl ++ [V.bl x]))
  have e2 : blst (ns ++ [x]) = .lst (ns.map V.bl ++ [V.bl x]) := by rw [blst, List.map_append]; rfl
  rw [e2]
  exact z
/-- [f k for k in range(n)], truths -/
theorem lcRB {n : Nat} (f : Nat → Bool) (hn : n ≤ 100000) (hw : ∀ x : Int, wipe ((wipe σ vs).set i (some (.int x))) vs = wipe σ vs)
    (he : ∀ D k ns H1 (R : VK), k < n → Led H [(D, blst ns)] H1 → (∀ H2, Led H [(D, blst ns)] H2 → R (.bl (f k)) H2) → te ((wipe σ vs).set i (some (.int (0 + k)))) H1 R)
    (hd : ∀ D H1, H D = none → Same H H1 → H1 D = some (blst ((List.range n).map f)) → Q (.ref D) H1) : LcR 0 n i tYes te vs σ H Q := by
  refine lcR (fun D k H1 => Led H [(D, blst ((List.range k).map f))] H1) (fun D nD => (Led.nil H).alloc nD _) hw (fun D k H1 nD hk l1 => ?_) (fun D H1 nD l1 => hd D H1 nD l1.same (l1.get 0 rfl))
  refine he D k _ H1 _ hk l1 fun H2 l2 => ⟨_, l2.get 0 rfl, ?_, ?_⟩
  · rw [List.length_map, List.length_map, List.length_range]
    exact Nat.lt_of_lt_of_le (show _ < 100000 by omega) (by decide)
  · show Led H [(D, blst ((List.range (k + 1)).map f))] _
    rw [List.range_succ, List.map_append]
    exact bls_push l2
/-- one and the same value for each item -/
theorem lcRowsV {a : Addr} {rows : List (List Int)} {v : V} (R : RowsAt H a rows) (hn : rows.length ≤ 100000) (hw : ∀ x : V, wipe ((wipe σ vs).set i (some x)) vs = wipe σ vs)
    (hd : ∀ D H1, H D = none → Same H H1 → H1 D = some (.lst (List.replicate rows.length v)) → Q (.ref D) H1) : LcL K a i tYes (tC v) vs σ H Q := by
  obtain ⟨as, e1, e2, _⟩ := R.sq (K := K)
  refine lcL (xs := as.map V.ref) (fun D k H1 => Led H [(D, .lst (List.replicate k v))] H1) (fun D nD => (Led.nil H).alloc nD _) (fun D k H1 _ l1 => l1.base e1) hw (fun D k x H1 nD hx l1 => ?_) (fun D H1 nD l1 => hd D H1 nD l1.same (by
    have z := l1.get 0 rfl
    rw [List.length_map, e2] at z
    exact z))
  have hk : k < rows.length := by
    have := (List.getElem?_eq_some_iff.mp hx).1
    rw [List.length_map, e2] at this
    exact this
  refine ⟨_, l1.get 0 rfl, ?_, ?_⟩
  · rw [List.length_replicate]
    exact Nat.lt_of_lt_of_le (show _ < 100000 by omega) (by decide)
  · have z := l1.set (i := 0) rfl (.lst (List.replicate k v ++ [v]))
    rw [← List.replicate_succ'] at z ⊢
    exact z
end
section
variable {K : PySem.W.Frag} {H : Hp} {Q : VK} {B : Hp} {L : List (Addr × HO)}
theorem g_setBl (led : Led B L H) (j : Nat) {p : Addr} {ns : List Bool} {i : Int} {x : Bool} {R : Hp → Prop} (e : L[j]? = some (p, blst ns)) (h0 : 0 ≤ i) (h1 : i < ns.length) (q : ∀ H', Led B (L.set j (p, blst (ns.set i.toNat x))) H' → R H') :
    rSetL (.ref p) (.int i) (.bl x) H R := by
  refine ⟨p, ns.map V.bl, i, i.toNat, rfl, rfl, led.get j e, ?_, ?_⟩
  · rw [List.length_map]
    exact ixN_of h0 h1
  · rw [show (ns.map V.bl).set i.toNat (V.bl x) = (ns.set i.toNat x).map V.bl from List.map_set.symm]
    exact q _ (led.set e _)
theorem g_all {p : Addr} {bs : List Bool} (s : SqL K H p (bs.map V.bl)) (h : Q (.bl (bs.all id)) H) : rAll K [.ref p] H Q := ⟨p, bs, rfl, s, h⟩
theorem g_any {p : Addr} {bs : List Bool} (s : SqL K H p (bs.map V.bl)) (h : Q (.bl (bs.any id)) H) : rAny K [.ref p] H Q := ⟨p, bs, rfl, s, h⟩
theorem inV_ints {x : Int} {ns : List Int} : inV (.int x) (ns.map V.int) = decide (x ∈ ns) := by
  unfold inV
  rw [List.any_map]
  induction ns with
  | nil => rfl
  | cons n ns ih =>
    rw [List.any_cons, ih]
    show ((n == x) || _) = _
    by_cases e : n = x
    · subst e
      simp
    · have e2 : ¬ x = n := fun z => e z.symm
      simp [e, e2]
theorem flat_ints : ∀ ns : List Int, (ns.map V.int).all flatV = true
  | [] => rfl
  | n :: ns => by
    rw [List.map_cons, List.all_cons, flat_ints ns]
    rfl
theorem g_inI {p : Addr} {ns : List Int} {x : Int} (s : SqL K H p (ns.map V.int)) (h : Q (.bl (decide (x ∈ ns))) H) : rIn K false (.int x) (.ref p) H Q :=
  ⟨p, _, rfl, .inl s, rfl, flat_ints ns, by rw [if_neg (by decide), inV_ints]; exact h⟩
theorem inV_bls {x : Bool} {ns : List Bool} : inV (.bl x) (ns.map V.bl) = decide (x ∈ ns) := by
  unfold inV
  rw [List.any_map]
  induction ns with
  | nil => rfl
  | cons n ns ih =>
    rw [List.any_cons, ih]
    show ((n == x) || _) = _
    cases n <;> cases x <;> simp
theorem flat_bls : ∀ ns : List Bool, (ns.map V.bl).all flatV = true
  | [] => rfl
  | n :: ns => by
    rw [List.map_cons, List.all_cons, flat_bls ns]
    rfl
theorem g_ninB {p : Addr} {ns : List Bool} {x : Bool} (s : SqL K H p (ns.map V.bl)) (h : Q (.bl (!decide (x ∈ ns))) H) : rIn K true (.bl x) (.ref p) H Q :=
  ⟨p, _, rfl, .inl s, rfl, flat_bls ns, by rw [if_pos rfl, inV_bls]; exact h⟩
end
theorem whileN {tt : TT} {tb : TS} {D : Ends} {σ : L2.St} {H : Hp} (W : Nat → L2.St → Hp → Prop) (m0 : Nat) (h0 : W m0 σ H)
    (hs : ∀ m σ H, W m σ H → tt σ H fun b H1 => if b = true then ∃ N : L2.St → Hp → Prop, (∀ σ' H', N σ' H' → ∃ m', m' < m ∧ W m' σ' H') ∧ tb { D with nx := N, ct := N, bk := D.nx } σ H1 else D.nx σ H1) : tWhile tt tb D σ H := ⟨W, ⟨m0, h0⟩, hs⟩
section
variable {K : PySem.W.Frag} {σ : L2.St} {H : Hp} {Q : VK} {te : TE} {tt : TT} {i : Nat} {vs : List Nat}
theorem lcLRowsL {a : Addr} {xs : List V} (P : List (List Int) → Prop) (h0 : P []) (hn : xs.length ≤ 100000) (s : SqL K H a xs) (hw : ∀ x : V, wipe ((wipe σ vs).set i (some x)) vs = wipe σ vs)
    (hs : ∀ D k v as rows H1 (R : VK), xs[k]? = some v → rows.length = k → P rows → Led H (rowLed D as rows) H1 → (∀ r row H2, P (rows ++ [row]) → Led H (rowLed D as rows ++ [(r, ilst row)]) H2 → R (.ref r) H2) → te ((wipe σ vs).set i (some v)) H1 R)
    (hd : ∀ D as rows H1, as.length = rows.length → rows.length = xs.length → P rows → Led H (rowLed D as rows) H1 → Q (.ref D) H1) : LcL K a i tYes te vs σ H Q :=
  lcL (xs := xs) (RowsUp H P) (fun D nD => RowsUp.start h0 D nD) (fun D k H1 _ ⟨as, rows, e0, e, p1, l1⟩ => l1.base s) hw
    (fun D k v H1 nD hx ⟨as, rows, e0, e, p1, l1⟩ => hs D k v as rows H1 _ hx e p1 l1 fun r row H2 p2 l2 => RowsUp.step e0 e (by have := (List.getElem?_eq_some_iff.mp hx).1; omega) p2 l2)
    (fun D H1 nD ⟨as, rows, e0, e, p1, l1⟩ => hd D as rows H1 e0 e p1 l1)
/-- each row copied, the copies in the ledger -/
theorem lcCopyL {a : Addr} {rows : List (List Int)} (R : RowsAt H a rows) (hn : rows.length ≤ 100000) (hw : ∀ x : V, wipe ((wipe σ vs).set i (some x)) vs = wipe σ vs) (hi : ∀ x : V, ((wipe σ vs).set i (some x))[i]? = some (some x))
    (hd : ∀ D as H1, as.length = rows.length → Led H (rowLed D as rows) H1 → Q (.ref D) H1) : LcL K a i tYes (tCB (mList K) (tCons (tVar i) tNil)) vs σ H Q := by
  obtain ⟨as, e1, e2, e3⟩ := R.sq (K := K)
  refine lcLRowsL (fun rs => rs = rows.take rs.length) rfl (by rw [List.length_map, e2]; exact hn) e1 hw (fun D k v bs rs H1 S hx e p l q => ?_) (fun D as' rs H1 e0 e p l => ?_)
  · obtain ⟨r, rfl, hk, hr⟩ := e3 k v hx
    refine g_cb (g_cons (g_var (hi _) (g_nil (g_list (l.base hr) fun m nm => q m (rows.getD k []) _ ?_ (l.alloc nm _)))))
    rw [List.length_append, e]
    show rs ++ [rows.getD k []] = rows.take (k + 1)
    rw [p, e, List.take_add_one, List.getD_eq_getElem?_getD, List.getElem?_eq_getElem hk]
    rfl
  · rw [List.length_map, e2] at e
    rw [e, List.take_length] at p
    subst p
    exact hd D as' H1 e0 l
end

/-! The rows that a law draws: what is known of them -/
def other (g many : Int) : Int := if g < 0 then g else many - 1 - g
def flipRows (rows : List (List Int)) : List (List Int) := (rows.map (fun row => row.map (fun g => other g rows.length))).reverse
/-- how many exits of a row, the k-th, do not lead downwards -/
def ups (k : Nat) (row : List Int) : Nat := row.countP (fun g => decide ((k : Int) ≤ g))
def upsFrom : Nat → List (List Int) → Nat
  | _, [] => 0
  | k, row :: r => ups k row + upsFrom (k + 1) r
def Down (rows : List (List Int)) : Prop := ∀ k : Nat, k < rows.length → ∃ g, g ∈ rows.getD k [] ∧ g < k
def K0 (rows : List (List Int)) : Prop := OkRows rows ∧ Down rows ∧ ((rows.length ≤ 4 ∧ ∀ row, row ∈ rows → row.length ≤ 3) ∨ upsFrom 0 rows ≤ 3)
def Shape (rows : List (List Int)) : Prop := ∃ r0, K0 r0 ∧ (rows = r0 ∨ rows = flipRows r0)
theorem flip_length (rows : List (List Int)) : (flipRows rows).length = rows.length := by simp [flipRows]
theorem other_range {g many : Int} (h1 : -1 ≤ g) (h2 : g < many) : -1 ≤ other g many ∧ other g many < many := by
  unfold other
  split <;> omega
theorem other_other {g many : Int} (h2 : g < many) : other (other g many) many = g := by
  by_cases h : g < 0
  · simp only [other, h, if_true]
  · have q : ¬ (many - 1 - g < 0) := by omega
    simp only [other, h, q, if_false]
    omega
theorem flip_at {rows : List (List Int)} {k : Nat} (hk : k < rows.length) : (flipRows rows).getD k [] = (rows.getD (rows.length - 1 - k) []).map (fun g => other g rows.length) := by
  unfold flipRows
  have h1 : k < (rows.map (fun row => row.map (fun g => other g rows.length))).length := by simpa using hk
  have h2 : rows.length - 1 - k < rows.length := by omega
  rw [List.getD_eq_getElem?_getD, List.getElem?_reverse h1, List.length_map, List.getElem?_map, List.getElem?_eq_getElem h2, List.getD_eq_getElem?_getD, List.getElem?_eq_getElem h2]
  rfl
theorem rows_ext {r1 r2 : List (List Int)} (hl : r1.length = r2.length) (h : ∀ k, k < r1.length → r1.getD k [] = r2.getD k []) : r1 = r2 := by
  apply List.ext_getElem hl
  intro k h1 h2
  have q := h k h1
  rw [List.getD_eq_getElem?_getD, List.getD_eq_getElem?_getD, List.getElem?_eq_getElem h1, List.getElem?_eq_getElem h2] at q
  exact q
theorem flip_flip {rows : List (List Int)} (h : ∀ row, row ∈ rows → ∀ g, g ∈ row → g < rows.length) : flipRows (flipRows rows) = rows := by
  refine rows_ext (by rw [flip_length, flip_length]) fun k hk => ?_
  rw [flip_length, flip_length] at hk
  rw [flip_at (by rw [flip_length]; exact hk), flip_length, flip_at (by omega), List.map_map]
  have e : rows.length - 1 - (rows.length - 1 - k) = k := by omega
  rw [e]
  refine (List.map_congr_left fun g hg => ?_).trans (List.map_id _)
  exact other_other (h _ (getD_mem hk) g hg)
theorem flip_ok {rows : List (List Int)} (h : OkRows rows) : OkRows (flipRows rows) := by
  refine ⟨by rw [flip_length]; exact h.1, by rw [flip_length]; exact h.2.1, fun row hr => ?_⟩
  rw [flip_length]
  unfold flipRows at hr
  rw [List.mem_reverse] at hr
  obtain ⟨row', hm, rfl⟩ := List.mem_map.mp hr
  obtain ⟨h1, h2, h3⟩ := h.2.2 row' hm
  refine ⟨by rw [List.length_map]; exact h1, by rw [List.length_map]; exact h2, fun g hg => ?_⟩
  obtain ⟨g', hg', rfl⟩ := List.mem_map.mp hg
  exact other_range (h3 g' hg').1 (h3 g' hg').2
theorem Shape.ok {rows : List (List Int)} (h : Shape rows) : OkRows rows := by
  obtain ⟨r0, h, rfl | rfl⟩ := h
  · exact h.1
  · exact flip_ok h.1
theorem upsFrom_append : ∀ (k : Nat) (a b : List (List Int)), upsFrom k (a ++ b) = upsFrom k a + upsFrom (k + a.length) b
  | k, [], b => by simp [upsFrom]
  | k, x :: a, b => by
    show ups k x + upsFrom (k + 1) (a ++ b) = ups k x + upsFrom (k + 1) a + upsFrom (k + (a.length + 1)) b
    rw [upsFrom_append (k + 1) a b, Nat.add_assoc, Nat.add_assoc, Nat.add_comm 1 a.length]
theorem upsFrom_set : ∀ (k : Nat) (a : List (List Int)) (i : Nat) (row : List Int), i < a.length → upsFrom k (a.set i row) + ups (k + i) (a.getD i []) = upsFrom k a + ups (k + i) row
  | k, [], i, row, h => by simp at h
  | k, x :: a, 0, row, h => by
    show ups k row + upsFrom (k + 1) a + ups (k + 0) x = ups k x + upsFrom (k + 1) a + ups (k + 0) row
    simp only [Nat.add_zero]
    omega
  | k, x :: a, i + 1, row, h => by
    have ih := upsFrom_set (k + 1) a i row (by simpa using h)
    show ups k x + upsFrom (k + 1) (a.set i row) + ups (k + (i + 1)) (a.getD i []) = ups k x + upsFrom (k + 1) a + ups (k + (i + 1)) row
    have e : k + 1 + i = k + (i + 1) := by omega
    have ih2 : upsFrom (k + 1) (a.set i row) + ups (k + (i + 1)) (a.getD i []) = upsFrom (k + 1) a + ups (k + (i + 1)) row := by rw [← e]; exact ih
    rw [Nat.add_assoc, ih2, Nat.add_assoc]
theorem ups_insert {k : Nat} (row : List Int) (i : Nat) (x : Int) : ups k (row.take i ++ [x] ++ row.drop i) ≤ ups k row + 1 := by
  have e : ups k row = ups k (row.take i) + ups k (row.drop i) := by
    unfold ups
    rw [← List.countP_append, List.take_append_drop]
  unfold ups at e ⊢
  rw [List.countP_append, List.countP_append]
  have : List.countP (fun g => decide ((k : Int) ≤ g)) [x] ≤ 1 := by simpa using List.countP_le_length (p := fun g => decide ((k : Int) ≤ g)) (l := [x])
  omega
theorem ups_zero {k : Nat} {row : List Int} (h : ∀ g, g ∈ row → g < k) : ups k row = 0 := by
  unfold ups
  rw [List.countP_eq_zero]
  intro g hg
  have := h g hg
  simp
  omega

/-! Runs on paper: steps of the least laden site; how many at most -/
def First (loads : List Int) (k : Nat) : Prop := k < loads.length ∧ 0 < loads.getD k 0 ∧ ∀ j, j < k → ¬ 0 < loads.getD j 0
def Bare (loads : List Int) : Prop := ∀ k, k < loads.length → ¬ 0 < loads.getD k 0
inductive Runs (rows : List (List Int)) : Sta → Nat → Sta → Prop where
  | zero (S : Sta) : Runs rows S 0 S
  | step {S S' : Sta} {k n : Nat} : First S.loads k → Runs rows (stepS rows S k) n S' → Runs rows S (n + 1) S'
def RunTo (rows : List (List Int)) (S : Sta) (n : Nat) (S' : Sta) : Prop := Runs rows S n S' ∧ Bare S'.loads
theorem First.uniq {loads : List Int} {j k : Nat} (h1 : First loads j) (h2 : First loads k) : j = k := by
  rcases Nat.lt_trichotomy j k with h | h | h
  · exact absurd h1.2.1 (h2.2.2 j h)
  · exact h
  · exact absurd h2.2.1 (h1.2.2 k h)
theorem first_or {loads : List Int} : Bare loads ∨ ∃ k, First loads k := by
  have gen : ∀ n, n ≤ loads.length → (∀ j, j < n → ¬ 0 < loads.getD j 0) ∨ ∃ k, First loads k := by
    intro n
    induction n with
    | zero => intro _; exact .inl fun j hj => by omega
    | succ n ih =>
      intro hn
      rcases ih (by omega) with h | h
      · by_cases p : 0 < loads.getD n 0
        · exact .inr ⟨n, by omega, p, h⟩
        · refine .inl fun j hj => ?_
          by_cases e : j = n
          · subst e
            exact p
          · exact h j (by omega)
      · exact .inr h
  rcases gen loads.length (Nat.le_refl _) with h | h
  · exact .inl h
  · exact .inr h
theorem Runs.sok {rows : List (List Int)} {S S' : Sta} {n : Nat} (h : Runs rows S n S') (ok : OkRows rows) (sk : SOk rows S) : SOk rows S' := by
  induction h with
  | zero => exact sk
  | step _ _ ih => exact ih (sk.step ok _)
theorem Runs.det {rows : List (List Int)} {S S1 S2 : Sta} {n m : Nat} (h1 : RunTo rows S n S1) (h2 : RunTo rows S m S2) : n = m ∧ S1 = S2 := by
  obtain ⟨h1, b1⟩ := h1
  obtain ⟨h2, b2⟩ := h2
  induction h1 generalizing m S2 with
  | zero S =>
    cases h2 with
    | zero => exact ⟨rfl, rfl⟩
    | step f _ => exact absurd f.2.1 (b1 _ f.1)
  | step f _ ih =>
    cases h2 with
    | zero => exact absurd f.2.1 (b2 _ f.1)
    | step f2 r2 =>
      have e := f.uniq f2
      subst e
      obtain ⟨e1, e2⟩ := ih b1 r2 b2
      exact ⟨by omega, e2⟩
theorem Runs.inv {rows : List (List Int)} {S F : Sta} {n k : Nat} (h : Runs rows S n F) (hf : First S.loads k) (hb : Bare F.loads) : ∃ m, n = m + 1 ∧ Runs rows (stepS rows S k) m F := by
  cases h with
  | zero => exact absurd hf.2.1 (hb _ hf.1)
  | step f r =>
    have e := f.uniq hf
    subst e
    exact ⟨_, rfl, r⟩
theorem Runs.inv0 {rows : List (List Int)} {S F : Sta} {n : Nat} (h : Runs rows S n F) (hb : Bare S.loads) : n = 0 ∧ S = F := by
  cases h with
  | zero => exact ⟨rfl, rfl⟩
  | step f _ => exact absurd f.2.1 (hb _ f.1)
/-! ### sums -/
theorem gone_sum {g : Int} {loads : List Int} (h0 : -1 ≤ g) (h1 : g < loads.length) : (gone g loads).sum = loads.sum + (if g = -1 then 0 else 1) := by
  unfold gone
  by_cases e : g = -1
  · rw [if_pos e, if_pos e]
    omega
  · rw [if_neg e, if_neg e, sum_setD (by omega)]
    omega
theorem gone_nonneg {g : Int} {loads : List Int} (h : ∀ x, x ∈ loads → 0 ≤ x) : ∀ x, x ∈ gone g loads → 0 ≤ x := by
  unfold gone
  split
  · exact h
  · exact set_nonneg h (by have := getD_nonneg h g.toNat; omega)
theorem step_nonneg {rows : List (List Int)} {S : Sta} {k : Nat} (h : ∀ x, x ∈ S.loads → 0 ≤ x) (hp : 0 < S.loads.getD k 0) : ∀ x, x ∈ (stepS rows S k).loads → 0 ≤ x :=
  gone_nonneg (set_nonneg h (by omega))
theorem Runs.nonneg {rows : List (List Int)} {S S' : Sta} {n : Nat} (r : Runs rows S n S') (h : ∀ x, x ∈ S.loads → 0 ≤ x) : ∀ x, x ∈ S'.loads → 0 ≤ x := by
  induction r with
  | zero => exact h
  | step f _ ih => exact ih (step_nonneg h f.2.1)
theorem step_count {rows : List (List Int)} {S : Sta} {k : Nat} (hk : k < S.steps.length) : (stepS rows S k).steps.sum = S.steps.sum + 1 := by
  show (S.steps.set k _).sum = _
  rw [sum_setD hk]
  omega
theorem Runs.count {rows : List (List Int)} {S S' : Sta} {n : Nat} (r : Runs rows S n S') (ok : OkRows rows) (sk : SOk rows S) : S'.steps.sum = S.steps.sum + n := by
  induction r with
  | zero => simp
  | step f _ ih =>
    rw [ih (sk.step ok _), step_count (by rw [sk.ls, ← sk.ll]; exact f.1)]
    omega
theorem bare_zero {loads : List Int} (h : ∀ x, x ∈ loads → 0 ≤ x) (b : Bare loads) : loads = List.replicate loads.length 0 := by
  apply List.ext_getElem (by simp)
  intro i h1 h2
  have z := b i h1
  have y := h loads[i] (List.getElem_mem h1)
  rw [List.getD_eq_getElem?_getD, List.getElem?_eq_getElem h1] at z
  rw [List.getElem_replicate]
  have z : ¬ 0 < loads[i] := z
  omega
theorem bare_sum {loads : List Int} (h : ∀ x, x ∈ loads → 0 ≤ x) (b : Bare loads) : loads.sum = 0 := by
  rw [bare_zero h b]
  simp
/-! ### a height for each site: how many steps there can be -/
structure Pot (rows : List (List Int)) (h : Int → Int) (T : Int) : Prop where
  pit : h (-1) = 0
  lo : ∀ k : Nat, k < rows.length → 0 ≤ h k
  hi : ∀ k : Nat, k < rows.length → h k ≤ T
  dn : ∀ k : Nat, k < rows.length → 0 ≤ ((rows.getD k []).map fun g => h k - h g - 1).sum
theorem Pot.pos {rows : List (List Int)} {h : Int → Int} {T : Int} (p : Pot rows h T) (n : rows ≠ []) : 0 ≤ T := by
  have := List.length_pos_iff.mpr n
  exact Int.le_trans (p.lo 0 this) (p.hi 0 this)
/-- the part of a row ahead of its turn -/
def turnW (h : Int → Int) (rows : List (List Int)) (k : Nat) (t : Int) : Int := (((rows.getD k []).take t.toNat).map fun g => h k - h g - 1).sum
def loadW (h : Int → Int) : Nat → List Int → Int
  | _, [] => 0
  | k, x :: r => x * h k + loadW h (k + 1) r
def turnsW (h : Int → Int) (rows : List (List Int)) : Nat → List Int → Int
  | _, [] => 0
  | k, t :: r => turnW h rows k t + turnsW h rows (k + 1) r
def Phi (h : Int → Int) (rows : List (List Int)) (S : Sta) : Int := loadW h 0 S.loads + turnsW h rows 0 S.turns
theorem loadW_set (h : Int → Int) : ∀ (k : Nat) (l : List Int) (i : Nat) (x : Int), i < l.length → loadW h k (l.set i x) = loadW h k l + (x - l.getD i 0) * h ((k + i : Nat) : Int)
  | _, [], i, _, hi => by simp at hi
  | k, y :: r, 0, x, _ => by
    show x * h k + loadW h (k + 1) r = y * h k + loadW h (k + 1) r + (x - y) * h ((k + 0 : Nat) : Int)
    simp only [Nat.add_zero, Int.sub_mul]
    omega
  | k, y :: r, i + 1, x, hi => by
    have ih := loadW_set h (k + 1) r i x (by simpa using hi)
    show y * h k + loadW h (k + 1) (r.set i x) = y * h k + loadW h (k + 1) r + (x - r.getD i 0) * h ((k + (i + 1) : Nat) : Int)
    rw [ih, show k + 1 + i = k + (i + 1) by omega]
    omega
theorem turnsW_set (h : Int → Int) (rows : List (List Int)) : ∀ (k : Nat) (l : List Int) (i : Nat) (x : Int), i < l.length → turnsW h rows k (l.set i x) = turnsW h rows k l + turnW h rows (k + i) x - turnW h rows (k + i) (l.getD i 0)
  | _, [], i, _, hi => by simp at hi
  | k, y :: r, 0, x, _ => by
    show turnW h rows k x + turnsW h rows (k + 1) r = turnW h rows k y + turnsW h rows (k + 1) r + turnW h rows (k + 0) x - turnW h rows (k + 0) y
    simp only [Nat.add_zero]
    omega
  | k, y :: r, i + 1, x, hi => by
    have ih := turnsW_set h rows (k + 1) r i x (by simpa using hi)
    show turnW h rows k y + turnsW h rows (k + 1) (r.set i x) = turnW h rows k y + turnsW h rows (k + 1) r + turnW h rows (k + (i + 1)) x - turnW h rows (k + (i + 1)) (r.getD i 0)
    rw [ih, show k + 1 + i = k + (i + 1) by omega]
    omega
theorem gone_W {h : Int → Int} {g : Int} {loads : List Int} (hp : h (-1) = 0) (h0 : -1 ≤ g) (h1 : g < loads.length) : loadW h 0 (gone g loads) = loadW h 0 loads + h g := by
  unfold gone
  by_cases e : g = -1
  · rw [if_pos e, e, hp]
    omega
  · rw [if_neg e, loadW_set h 0 _ _ _ (by omega)]
    have e2 : ((0 + g.toNat : Nat) : Int) = g := by omega
    rw [e2, show loads.getD g.toNat 0 + 1 - loads.getD g.toNat 0 = 1 by omega, Int.one_mul]
theorem turnW_next {h : Int → Int} {rows : List (List Int)} {T : Int} (p : Pot rows h T) {k : Nat} (hk : k < rows.length) {t : Int} (h0 : 0 ≤ t) (h1 : t < (rows.getD k []).length) :
    turnW h rows k ((t + 1) % ((rows.getD k []).length : Int)) ≤ turnW h rows k t + (h k - h ((rows.getD k []).getD t.toNat 0) - 1) := by
  have tk := take_getD (d := (0 : Int)) (l := rows.getD k []) (j := t.toNat) (by omega)
  have full : (((rows.getD k []).take (t.toNat + 1)).map fun g => h k - h g - 1).sum = turnW h rows k t + (h k - h ((rows.getD k []).getD t.toNat 0) - 1) := by
    rw [tk, List.map_append, List.sum_append]
    unfold turnW
    simp
  by_cases e : t + 1 = (rows.getD k []).length
  · rw [e, Int.emod_self]
    rw [← full, List.take_of_length_le (by omega)]
    show (List.map _ (List.take 0 _)).sum ≤ _
    simp only [List.take_zero, List.map_nil, List.sum_nil]
    exact p.dn k hk
  · rw [Int.emod_eq_of_lt (by omega) (by omega), ← full]
    unfold turnW
    rw [show (t + 1).toNat = t.toNat + 1 by omega]
    exact Int.le_refl _
theorem Phi_step {h : Int → Int} {rows : List (List Int)} {T : Int} (p : Pot rows h T) (ok : OkRows rows) {S : Sta} (sk : SOk rows S) {k : Nat} (hk : k < rows.length) : Phi h rows (stepS rows S k) ≤ Phi h rows S - 1 := by
  have tk := sk.tk.2 k hk
  have gr := exitOf_range ok sk.tk hk
  have nx := turnW_next p hk tk.1 tk.2
  unfold Phi
  show loadW h 0 (gone (exitOf rows S.turns k) _) + turnsW h rows 0 (S.turns.set k _) ≤ _
  rw [gone_W p.pit gr.1 (by rw [List.length_set, sk.ll]; exact gr.2), loadW_set h 0 _ _ _ (by rw [sk.ll]; exact hk), turnsW_set h rows 0 _ _ _ (by rw [sk.tk.1]; exact hk), Nat.zero_add]
  have e : (S.loads.getD k 0 - 1 - S.loads.getD k 0) * h (k : Int) = - h (k : Int) := by
    rw [show S.loads.getD k 0 - 1 - S.loads.getD k 0 = -1 by omega]
    omega
  rw [e]
  have e2 : h (exitOf rows S.turns k) = h ((rows.getD k []).getD (S.turns.getD k 0).toNat 0) := rfl
  rw [e2]
  omega
theorem loadW_lo {h : Int → Int} : ∀ (k : Nat) (l : List Int), (∀ x, x ∈ l → 0 ≤ x) → (∀ i : Nat, i < l.length → 0 ≤ h ((k + i : Nat) : Int)) → 0 ≤ loadW h k l
  | _, [], _, _ => Int.le_refl _
  | k, x :: r, h1, h2 => by
    have ih := loadW_lo (k + 1) r (fun y hy => h1 y (by simp [hy])) (fun i hi => by
      have := h2 (i + 1) (by simpa using hi)
      rw [show k + 1 + i = k + (i + 1) by omega]
      exact this)
    have a := h1 x (by simp)
    have b := h2 0 (by simp)
    rw [Nat.add_zero] at b
    have c := Int.mul_nonneg a b
    show 0 ≤ x * h k + loadW h (k + 1) r
    omega
theorem loadW_hi {h : Int → Int} {T : Int} : ∀ (k : Nat) (l : List Int), (∀ x, x ∈ l → 0 ≤ x) → (∀ i : Nat, i < l.length → h ((k + i : Nat) : Int) ≤ T) → loadW h k l ≤ l.sum * T
  | _, [], _, _ => by simp [loadW]
  | k, x :: r, h1, h2 => by
    have ih := loadW_hi (k + 1) r (fun y hy => h1 y (by simp [hy])) (fun i hi => by
      have := h2 (i + 1) (by simpa using hi)
      rw [show k + 1 + i = k + (i + 1) by omega]
      exact this)
    have a := h1 x (by simp)
    have b := h2 0 (by simp)
    rw [Nat.add_zero] at b
    have c := Int.mul_le_mul_of_nonneg_left b a
    show x * h k + loadW h (k + 1) r ≤ (x :: r).sum * T
    rw [List.sum_cons, Int.add_mul]
    omega
/-- sums of things that lie in a strip -/
theorem sum_strip {α : Type} {f : α → Int} {a b : Int} : ∀ l : List α, (∀ x, x ∈ l → a ≤ f x ∧ f x ≤ b) → l.length * a ≤ (l.map f).sum ∧ (l.map f).sum ≤ l.length * b
  | [], _ => by simp
  | x :: r, hx => by
    have ih := sum_strip r fun y hy => hx y (by simp [hy])
    have q := hx x (by simp)
    rw [List.map_cons, List.sum_cons, List.length_cons]
    have e1 : ((r.length + 1 : Nat) : Int) * a = r.length * a + a := by rw [Int.natCast_add, Int.add_mul]; simp
    have e2 : ((r.length + 1 : Nat) : Int) * b = r.length * b + b := by rw [Int.natCast_add, Int.add_mul]; simp
    rw [e1, e2]
    omega
theorem turnW_strip {h : Int → Int} {rows : List (List Int)} {T : Int} (p : Pot rows h T) (ok : OkRows rows) {W : Nat} (hW : ∀ row, row ∈ rows → row.length ≤ W + 1) {k : Nat} (hk : k < rows.length) {t : Int} (h0 : 0 ≤ t) (h1 : t < (rows.getD k []).length) :
    -(W * (T + 1)) ≤ turnW h rows k t ∧ turnW h rows k t ≤ W * T := by
  have T0 := p.pos (List.length_pos_iff.mp (by omega))
  have hl := hW _ (getD_mem (d := []) hk)
  have b := sum_strip (f := fun g => h k - h g - 1) (a := -(T + 1)) (b := T) ((rows.getD k []).take t.toNat) fun g hg => by
    have hg := List.mem_of_mem_take hg
    have r := (ok.row hk).2.2 g hg
    have k0 := p.lo k hk
    have k1 := p.hi k hk
    by_cases e : g = -1
    · subst e
      rw [p.pit]
      omega
    · have g0 := p.lo g.toNat (by omega)
      have g1 := p.hi g.toNat (by omega)
      rw [show ((g.toNat : Nat) : Int) = g by omega] at g0 g1
      omega
  have hlen : ((rows.getD k []).take t.toNat).length ≤ W := by rw [List.length_take]; omega
  unfold turnW
  have m1 : ((((rows.getD k []).take t.toNat).length : Nat) : Int) * (T + 1) ≤ W * (T + 1) := Int.mul_le_mul_of_nonneg_right (by omega) (by omega)
  have m2 : ((((rows.getD k []).take t.toNat).length : Nat) : Int) * T ≤ W * T := Int.mul_le_mul_of_nonneg_right (by omega) T0
  rw [Int.mul_neg] at b
  omega
theorem turnsW_strip {h : Int → Int} {rows : List (List Int)} {a b : Int} : ∀ (k : Nat) (l : List Int), (∀ i : Nat, i < l.length → a ≤ turnW h rows (k + i) (l.getD i 0) ∧ turnW h rows (k + i) (l.getD i 0) ≤ b) → l.length * a ≤ turnsW h rows k l ∧ turnsW h rows k l ≤ l.length * b
  | _, [], _ => by simp [turnsW]
  | k, x :: r, hx => by
    have ih := turnsW_strip (k + 1) r fun i hi => by
      have := hx (i + 1) (by simpa using hi)
      rw [show k + 1 + i = k + (i + 1) by omega]
      exact this
    have q := hx 0 (by simp)
    rw [Nat.add_zero] at q
    have q : a ≤ turnW h rows k x ∧ turnW h rows k x ≤ b := q
    show ((r.length + 1 : Nat) : Int) * a ≤ turnW h rows k x + turnsW h rows (k + 1) r ∧ turnW h rows k x + turnsW h rows (k + 1) r ≤ ((r.length + 1 : Nat) : Int) * b
    have e1 : ((r.length + 1 : Nat) : Int) * a = r.length * a + a := by rw [Int.natCast_add, Int.add_mul]; simp
    have e2 : ((r.length + 1 : Nat) : Int) * b = r.length * b + b := by rw [Int.natCast_add, Int.add_mul]; simp
    rw [e1, e2]
    omega
theorem Phi_lo {h : Int → Int} {rows : List (List Int)} {T : Int} (p : Pot rows h T) (ok : OkRows rows) {W : Nat} (hW : ∀ row, row ∈ rows → row.length ≤ W + 1) {S : Sta} (sk : SOk rows S) (nn : ∀ x, x ∈ S.loads → 0 ≤ x) : -(rows.length * (W * (T + 1))) ≤ Phi h rows S := by
  have a := loadW_lo (h := h) 0 S.loads nn fun i hi => by rw [Nat.zero_add]; exact p.lo i (by rw [← sk.ll]; exact hi)
  have b := turnsW_strip (h := h) (rows := rows) (a := -(W * (T + 1))) (b := W * T) 0 S.turns fun i hi => by
    rw [Nat.zero_add]
    have tk := sk.tk.2 i (by rw [← sk.tk.1]; exact hi)
    exact turnW_strip p ok hW (by rw [← sk.tk.1]; exact hi) tk.1 tk.2
  rw [sk.tk.1, Int.mul_neg] at b
  unfold Phi
  omega
theorem Phi_hi {h : Int → Int} {rows : List (List Int)} {T : Int} (p : Pot rows h T) (ok : OkRows rows) {W : Nat} (hW : ∀ row, row ∈ rows → row.length ≤ W + 1) {S : Sta} (sk : SOk rows S) (nn : ∀ x, x ∈ S.loads → 0 ≤ x) : Phi h rows S ≤ S.loads.sum * T + rows.length * (W * T) := by
  have a := loadW_hi (h := h) (T := T) 0 S.loads nn fun i hi => by rw [Nat.zero_add]; exact p.hi i (by rw [← sk.ll]; exact hi)
  have b := turnsW_strip (h := h) (rows := rows) (a := -(W * (T + 1))) (b := W * T) 0 S.turns fun i hi => by
    rw [Nat.zero_add]
    have tk := sk.tk.2 i (by rw [← sk.tk.1]; exact hi)
    exact turnW_strip p ok hW (by rw [← sk.tk.1]; exact hi) tk.1 tk.2
  rw [sk.tk.1] at b
  unfold Phi
  omega
/-- the run comes to its end, and it is not long -/
theorem Pot.run {h : Int → Int} {rows : List (List Int)} {T : Int} (p : Pot rows h T) (ok : OkRows rows) {W : Nat} (hW : ∀ row, row ∈ rows → row.length ≤ W + 1) : ∀ (m : Nat) (S : Sta), SOk rows S → (∀ x, x ∈ S.loads → 0 ≤ x) → Phi h rows S + rows.length * (W * (T + 1)) ≤ m → ∃ n S', RunTo rows S n S' ∧ n ≤ m := by
  intro m
  induction m with
  | zero =>
    intro S sk nn hm
    rcases first_or (loads := S.loads) with b | ⟨k, f⟩
    · exact ⟨0, S, ⟨.zero S, b⟩, Nat.le_refl _⟩
    · have hk : k < rows.length := by rw [← sk.ll]; exact f.1
      have a := Phi_step p ok sk hk
      have b := Phi_lo p ok hW (sk.step ok k) (step_nonneg nn f.2.1)
      omega
  | succ m ih =>
    intro S sk nn hm
    rcases first_or (loads := S.loads) with b | ⟨k, f⟩
    · exact ⟨0, S, ⟨.zero S, b⟩, Nat.zero_le _⟩
    · have hk : k < rows.length := by rw [← sk.ll]; exact f.1
      have a := Phi_step p ok sk hk
      obtain ⟨n, S', ⟨r, b⟩, hn⟩ := ih (stepS rows S k) (sk.step ok k) (step_nonneg nn f.2.1) (by omega)
      exact ⟨n + 1, S', ⟨.step f r, b⟩, by omega⟩
/-- rows with heights lead to the pit -/
theorem Pot.isOpen {h : Int → Int} {rows : List (List Int)} {T : Int} (p : Pot rows h T) (ok : OkRows rows) : Open rows := by
  -- by the height
  have gen : ∀ (m : Nat) (k : Nat), k < rows.length → h k ≤ m → Reached rows k := by
    intro m
    induction m with
    | zero =>
      intro k hk hm
      refine Classical.byContradiction fun nr => ?_
      have b := sum_strip (f := fun g => h k - h g - 1) (a := -(T + 1)) (b := -1) (rows.getD k []) fun g hg => by
        have r := (ok.row hk).2.2 g hg
        by_cases e : g = -1
        · subst e
          exact absurd ⟨1, .pit hk hg⟩ nr
        · have g0 := p.lo g.toNat (by omega)
          have g1 := p.hi g.toNat (by omega)
          have k0 := p.lo k hk
          rw [show ((g.toNat : Nat) : Int) = g by omega] at g0 g1
          omega
      have d := p.dn k hk
      have := (ok.row hk).1
      omega
    | succ m ih =>
      intro k hk hm
      refine Classical.byContradiction fun nr => ?_
      have b := sum_strip (f := fun g => h k - h g - 1) (a := -(T + 1)) (b := -1) (rows.getD k []) fun g hg => by
        have r := (ok.row hk).2.2 g hg
        by_cases e : g = -1
        · subst e
          exact absurd ⟨1, .pit hk hg⟩ nr
        · have g0 := p.lo g.toNat (by omega)
          have g1 := p.hi g.toNat (by omega)
          have k0 := p.lo k hk
          have low : ¬ h (g.toNat : Int) ≤ m := fun z => by
            obtain ⟨j, rj⟩ := ih g.toNat (by omega) z
            exact nr ⟨j + 1, .via hk (by rw [show ((g.toNat : Nat) : Int) = g by omega]; exact hg) rj⟩
          rw [show ((g.toNat : Nat) : Int) = g by omega] at g0 g1 low
          omega
      have d := p.dn k hk
      have := (ok.row hk).1
      omega
  intro k hk
  have k0 := p.lo k hk
  exact gen (h k).toNat k hk (by omega)
theorem step_sum {rows : List (List Int)} {S : Sta} {k : Nat} (ok : OkRows rows) (sk : SOk rows S) (hk : k < rows.length) : (stepS rows S k).loads.sum ≤ S.loads.sum := by
  have gr := exitOf_range ok sk.tk hk
  show (gone _ _).sum ≤ _
  rw [gone_sum gr.1 (by rw [List.length_set, sk.ll]; exact gr.2), sum_setD (by rw [sk.ll]; exact hk)]
  split <;> omega

/-! Last exits, trees -/
def lastAt (rows : List (List Int)) (k : Nat) (t : Int) : Int := (rows.getD k []).getD ((t - 1) % ((rows.getD k []).length : Int)).toNat 0
def lastOf (rows : List (List Int)) (turns : List Int) (k : Nat) : Int := lastAt rows k (turns.getD k 0)
def lastRows (rows : List (List Int)) (turns : List Int) : List (List Int) := (List.range rows.length).map fun k => [lastOf rows turns k]
def Tree (rows : List (List Int)) (turns : List Int) : Prop := Open (lastRows rows turns)
noncomputable def treeB (rows : List (List Int)) (turns : List Int) : Bool := openB (lastRows rows turns)
theorem lastRows_len (rows : List (List Int)) (turns : List Int) : (lastRows rows turns).length = rows.length := by simp [lastRows]
theorem lastRows_get {rows : List (List Int)} {turns : List Int} {k : Nat} (h : k < rows.length) : (lastRows rows turns).getD k [] = [lastOf rows turns k] := by
  unfold lastRows
  rw [List.getD_eq_getElem?_getD, List.getElem?_map, List.getElem?_range h]
  rfl
theorem lastAt_range {rows : List (List Int)} (ok : OkRows rows) {k : Nat} (hk : k < rows.length) (t : Int) : -1 ≤ lastAt rows k t ∧ lastAt rows k t < rows.length := by
  have h1 := (ok.row hk).1
  have a := Int.emod_nonneg (t - 1) (b := ((rows.getD k []).length : Int)) (by omega)
  have b := Int.emod_lt_of_pos (t - 1) (b := ((rows.getD k []).length : Int)) (by omega)
  exact ok.exit hk (by omega)
theorem lastAt_mem {rows : List (List Int)} (ok : OkRows rows) {k : Nat} (hk : k < rows.length) (t : Int) : lastAt rows k t ∈ rows.getD k [] := by
  have h1 := (ok.row hk).1
  have a := Int.emod_nonneg (t - 1) (b := ((rows.getD k []).length : Int)) (by omega)
  have b := Int.emod_lt_of_pos (t - 1) (b := ((rows.getD k []).length : Int)) (by omega)
  exact getD_mem (by omega)
theorem lastRows_exits {rows : List (List Int)} {turns : List Int} (ok : OkRows rows) : ∀ k : Nat, k < (lastRows rows turns).length → ∀ g, g ∈ (lastRows rows turns).getD k [] → -1 ≤ g ∧ g < (lastRows rows turns).length := by
  intro k hk g hg
  rw [lastRows_len] at hk ⊢
  rw [lastRows_get hk, List.mem_singleton] at hg
  subst hg
  exact lastAt_range ok hk _
/-! ### going on by last exits -/
def nxt (rows : List (List Int)) (turns : List Int) (h : Int) : Int := if 0 ≤ h then lastOf rows turns h.toNat else h
def goOn (rows : List (List Int)) (turns : List Int) : Nat → Int → Int
  | 0, h => h
  | m + 1, h => nxt rows turns (goOn rows turns m h)
theorem goOn_front (rows : List (List Int)) (turns : List Int) : ∀ (m : Nat) (h : Int), goOn rows turns (m + 1) h = goOn rows turns m (nxt rows turns h)
  | 0, _ => rfl
  | m + 1, h => by
    show nxt rows turns (goOn rows turns (m + 1) h) = nxt rows turns (goOn rows turns m (nxt rows turns h))
    rw [goOn_front rows turns m h]
theorem goOn_neg (rows : List (List Int)) (turns : List Int) : ∀ (m : Nat) (h : Int), h < 0 → goOn rows turns m h = h
  | 0, _, _ => rfl
  | m + 1, h, hn => by
    show nxt rows turns (goOn rows turns m h) = h
    rw [goOn_neg rows turns m h hn]
    unfold nxt
    rw [if_neg (by omega)]
theorem goOn_range {rows : List (List Int)} {turns : List Int} (ok : OkRows rows) : ∀ (m : Nat) (h : Int), -1 ≤ h → h < rows.length → -1 ≤ goOn rows turns m h ∧ goOn rows turns m h < rows.length
  | 0, _, h0, h1 => ⟨h0, h1⟩
  | m + 1, h, h0, h1 => by
    obtain ⟨a, b⟩ := goOn_range (turns := turns) ok m h h0 h1
    show -1 ≤ nxt rows turns _ ∧ nxt rows turns _ < _
    unfold nxt
    split
    · exact lastAt_range ok (by omega) _
    · exact ⟨a, b⟩
theorem goOn_rch {rows : List (List Int)} {turns : List Int} (ok : OkRows rows) : ∀ (m k : Nat), k < rows.length → (goOn rows turns m k < 0 ↔ Rch (lastRows rows turns) m k)
  | 0, k, _ => ⟨fun h => by
      have h : (k : Int) < 0 := h
      omega, fun r => r.zero.elim⟩
  | m + 1, k, hk => by
    rw [goOn_front]
    have e : nxt rows turns (k : Int) = lastOf rows turns k := by
      unfold nxt
      rw [if_pos (by omega), show ((k : Int)).toNat = k by omega]
    rw [e]
    have gr := lastAt_range ok hk (turns.getD k 0)
    have gr : -1 ≤ lastOf rows turns k ∧ lastOf rows turns k < rows.length := gr
    have mem : ∀ g : Int, g ∈ (lastRows rows turns).getD k [] ↔ g = lastOf rows turns k := fun g => by rw [lastRows_get hk, List.mem_singleton]
    have kl : k < (lastRows rows turns).length := by rw [lastRows_len]; exact hk
    by_cases z : lastOf rows turns k < 0
    · rw [goOn_neg _ _ _ _ z]
      exact ⟨fun _ => .pit kl ((mem _).mpr (by omega)), fun _ => z⟩
    · have ih := goOn_rch (turns := turns) ok m (lastOf rows turns k).toNat (by omega)
      rw [show (((lastOf rows turns k).toNat : Nat) : Int) = lastOf rows turns k by omega] at ih
      rw [ih]
      constructor
      · intro r
        exact .via kl ((mem _).mpr (by omega)) r
      · intro r
        cases r with
        | pit _ h2 =>
          have := (mem _).mp h2
          omega
        | via _ h2 r =>
          have := (mem _).mp h2
          rw [← this]
          exact r
theorem tree_iff {rows : List (List Int)} {turns : List Int} (ok : OkRows rows) : Tree rows turns ↔ ∀ k : Nat, k < rows.length → goOn rows turns rows.length k < 0 := by
  constructor
  · intro h k hk
    have := (h k (by rw [lastRows_len]; exact hk)).short
    rw [lastRows_len] at this
    exact (goOn_rch ok _ k hk).mpr this
  · intro h k hk
    rw [lastRows_len] at hk
    exact ⟨_, (goOn_rch ok _ k hk).mp (h k hk)⟩
/-! ### turns given one by one -/
inductive Ro (rows : List (List Int)) (os : List (Option Int)) : Nat → Nat → Prop where
  | pit {k m : Nat} {t : Int} : k < rows.length → os.getD k none = some t → lastAt rows k t = -1 → Ro rows os (m + 1) k
  | via {k j m : Nat} {t : Int} : k < rows.length → os.getD k none = some t → lastAt rows k t = (j : Int) → Ro rows os m j → Ro rows os (m + 1) k
theorem Ro.set {rows : List (List Int)} {os : List (Option Int)} {m k i : Nat} {x : Option Int} (h : Ro rows os m k) (n : os.getD i none = none) (hi : i < os.length) : Ro rows (os.set i x) m k := by
  have keep : ∀ k t, os.getD k none = some t → (os.set i x).getD k none = some t := fun k t e => by
    rw [getD_set hi, if_neg (fun z => by rw [z] at n; rw [e] at n; cases n)]
    exact e
  induction h with
  | pit h1 h2 h3 => exact .pit h1 (keep _ _ h2) h3
  | via h1 h2 h3 _ ih => exact .via h1 (keep _ _ h2) h3 ih
theorem Ro.rch {rows : List (List Int)} {turns : List Int} {m k : Nat} (h : Ro rows (turns.map some) m k) : Rch (lastRows rows turns) m k := by
  have val : ∀ k t, (turns.map some).getD k none = some t → turns.getD k 0 = t := fun k t e => by
    rw [List.getD_eq_getElem?_getD, List.getElem?_map] at e
    rw [List.getD_eq_getElem?_getD]
    cases z : turns[k]? with
    | none => rw [z] at e; cases e
    | some y =>
      rw [z] at e
      cases e
      rfl
  induction h with
  | pit h1 h2 h3 =>
    refine .pit (by rw [lastRows_len]; exact h1) ?_
    rw [lastRows_get h1, List.mem_singleton]
    unfold lastOf
    rw [val _ _ h2, h3]
  | via h1 h2 h3 _ ih =>
    refine .via (by rw [lastRows_len]; exact h1) ?_ ih
    rw [lastRows_get h1, List.mem_singleton]
    unfold lastOf
    rw [val _ _ h2, h3]
structure TB (rows : List (List Int)) (l j : Nat) (os : List (Option Int)) : Prop where
  len : os.length = rows.length
  good : ∀ k t, k < rows.length → os.getD k none = some t → (0 ≤ t ∧ t < (rows.getD k []).length) ∧ ∃ m, Ro rows os m k
  done : ∀ k, Rch rows l k → (os.getD k none).isSome = true
  more : ∀ k, k < j → Rch rows (l + 1) k → (os.getD k none).isSome = true

/-! Heights for the rows that are drawn -/
def upD : Nat → List (List Int) → Int
  | _, [] => 0
  | k, row :: r => ((ups k row : Nat) + 1) * (upD (k + 1) r + 1)
theorem upD_nonneg : ∀ (k : Nat) (l : List (List Int)), 0 ≤ upD k l
  | _, [] => Int.le_refl _
  | k, row :: r => Int.mul_nonneg (by omega) (by have := upD_nonneg (k + 1) r; omega)
theorem upD_more (k : Nat) (row : List Int) (r : List (List Int)) : upD (k + 1) r + 1 ≤ upD k (row :: r) := by
  have a := upD_nonneg (k + 1) r
  show upD (k + 1) r + 1 ≤ ((ups k row : Nat) + 1) * (upD (k + 1) r + 1)
  have b : (1 : Int) * (upD (k + 1) r + 1) ≤ ((ups k row : Nat) + 1) * (upD (k + 1) r + 1) := Int.mul_le_mul_of_nonneg_right (by omega) (by omega)
  omega
theorem upD_pow : ∀ (k : Nat) (l : List (List Int)), upD k l ≤ ((2 ^ upsFrom k l * l.length : Nat) : Int)
  | _, [] => by simp [upD]
  | k, row :: r => by
    have ih := upD_pow (k + 1) r
    have a := upD_nonneg (k + 1) r
    have h1 : ups k row + 1 ≤ 2 ^ ups k row := Nat.lt_two_pow_self
    have h2 : 1 ≤ 2 ^ upsFrom (k + 1) r := Nat.one_le_two_pow
    show ((ups k row : Nat) + 1 : Int) * (upD (k + 1) r + 1) ≤ ((2 ^ (ups k row + upsFrom (k + 1) r) * (r.length + 1) : Nat) : Int)
    have e1 : ((ups k row : Nat) + 1 : Int) * (upD (k + 1) r + 1) ≤ ((2 ^ ups k row : Nat) : Int) * (upD (k + 1) r + 1) := Int.mul_le_mul_of_nonneg_right (by omega) (by omega)
    have e2 : ((2 ^ ups k row : Nat) : Int) * (upD (k + 1) r + 1) ≤ ((2 ^ ups k row : Nat) : Int) * ((2 ^ upsFrom (k + 1) r * (r.length + 1) : Nat) : Int) := by
      refine Int.mul_le_mul_of_nonneg_left ?_ (Int.natCast_nonneg _)
      rw [Nat.mul_add, Nat.mul_one]
      omega
    rw [Nat.pow_add, Nat.mul_assoc, Int.natCast_mul]
    omega
def c3 : Nat → Int
  | 0 => 0
  | n + 1 => 3 * (c3 n + 1)
theorem upD_c3 : ∀ (k : Nat) (l : List (List Int)), (∀ j : Nat, j < l.length → ups (k + j) (l.getD j []) ≤ 2) → upD k l ≤ c3 l.length
  | _, [], _ => Int.le_refl _
  | k, row :: r, h => by
    have ih := upD_c3 (k + 1) r fun j hj => by
      have := h (j + 1) (by simpa using hj)
      rw [show k + 1 + j = k + (j + 1) by omega]
      exact this
    have a := upD_nonneg (k + 1) r
    have b : ups k row ≤ 2 := h 0 (by simp)
    show ((ups k row : Nat) + 1 : Int) * (upD (k + 1) r + 1) ≤ 3 * (c3 r.length + 1)
    have e1 : ((ups k row : Nat) + 1 : Int) * (upD (k + 1) r + 1) ≤ 3 * (upD (k + 1) r + 1) := Int.mul_le_mul_of_nonneg_right (by omega) (by omega)
    omega
def up_at (rows : List (List Int)) (j : Nat) : Int := upD j (rows.drop j)
theorem up_at_next {rows : List (List Int)} {j : Nat} (h : j < rows.length) : up_at rows j = ((ups j (rows.getD j []) : Nat) + 1) * (up_at rows (j + 1) + 1) := by
  unfold up_at
  rw [List.drop_eq_getElem_cons h, List.getD_eq_getElem?_getD, List.getElem?_eq_getElem h]
  rfl
theorem up_at_mono {rows : List (List Int)} {i j : Nat} (h : i ≤ j) (hj : j ≤ rows.length) : up_at rows j + (j - i : Nat) ≤ up_at rows i := by
  induction h with
  | refl => simp
  | step hm ih =>
    rename_i m
    have a := ih (by omega)
    have hm : i ≤ m := hm
    have b : up_at rows (m + 1) + 1 ≤ up_at rows m := by
      unfold up_at
      rw [List.drop_eq_getElem_cons (show m < rows.length by omega)]
      exact upD_more _ _ _
    have : m.succ - i = m - i + 1 := by omega
    rw [this]
    show up_at rows (m + 1) + _ ≤ _
    omega
theorem sum_ups {f : Int → Int} {k : Nat} {A B : Int} (hA : 0 ≤ A) (hB : 0 ≤ B) : ∀ l : List Int, (∀ g, g ∈ l → g < k → A ≤ f g) → (∀ g, g ∈ l → (k : Int) ≤ g → -B ≤ f g) → -((ups k l : Nat) * B) ≤ (l.map f).sum ∧ ((∃ g, g ∈ l ∧ g < k) → A - (ups k l : Nat) * B ≤ (l.map f).sum)
  | [], _, _ => ⟨by simp [ups], fun ⟨g, hg, _⟩ => by simp at hg⟩
  | x :: l, h1, h2 => by
    obtain ⟨a, b⟩ := sum_ups hA hB l (fun g hg => h1 g (by simp [hg])) (fun g hg => h2 g (by simp [hg]))
    rw [List.map_cons, List.sum_cons]
    by_cases e : (k : Int) ≤ x
    · have u : ups k (x :: l) = ups k l + 1 := by
        unfold ups
        rw [List.countP_cons, if_pos (decide_eq_true e)]
      have q := h2 x (by simp) e
      have e3 : ((ups k l + 1 : Nat) : Int) * B = (ups k l : Nat) * B + B := by rw [Int.natCast_add, Int.add_mul]; simp
      rw [u, e3]
      refine ⟨by omega, fun ⟨g, hg, hgk⟩ => ?_⟩
      rcases List.mem_cons.mp hg with rfl | hg
      · omega
      · have := b ⟨g, hg, hgk⟩
        omega
    · have u : ups k (x :: l) = ups k l := by
        unfold ups
        rw [List.countP_cons, if_neg (by simpa using e)]
        rfl
      have q := h1 x (by simp) (by omega)
      rw [u]
      exact ⟨by omega, fun _ => by omega⟩
theorem K0.potU {rows : List (List Int)} (ok : OkRows rows) (dn : Down rows) : Pot rows (fun g => up_at rows 0 - up_at rows (g + 1).toNat) (up_at rows 0) := by
  refine ⟨?_, fun k hk => ?_, fun k hk => ?_, fun k hk => ?_⟩
  · show up_at rows 0 - up_at rows (-1 + 1 : Int).toNat = 0
    rw [show (-1 + 1 : Int).toNat = 0 by decide]
    omega
  · show 0 ≤ up_at rows 0 - up_at rows ((k : Int) + 1).toNat
    have := up_at_mono (rows := rows) (i := 0) (j := k + 1) (by omega) (by omega)
    rw [show ((k : Int) + 1).toNat = k + 1 by omega]
    omega
  · show up_at rows 0 - up_at rows ((k : Int) + 1).toNat ≤ up_at rows 0
    have : 0 ≤ up_at rows ((k : Int) + 1).toNat := upD_nonneg _ _
    omega
  · have e0 : ((k : Int) + 1).toNat = k + 1 := by omega
    have n1 : 0 ≤ up_at rows (k + 1) := upD_nonneg _ _
    have nx := up_at_next hk
    have u0 : (0 : Int) ≤ (ups k (rows.getD k []) : Nat) := by omega
    have A0 : 0 ≤ ((ups k (rows.getD k []) : Nat) : Int) * (up_at rows (k + 1) + 1) := Int.mul_nonneg u0 (by omega)
    have z := (sum_ups (f := fun g => (up_at rows 0 - up_at rows ((k : Int) + 1).toNat) - (up_at rows 0 - up_at rows (g + 1).toNat) - 1) (k := k) A0 (show 0 ≤ up_at rows (k + 1) + 1 by omega) (rows.getD k []) (fun g hg hgk => by
      have r := (ok.row hk).2.2 g hg
      have m := up_at_mono (rows := rows) (i := (g + 1).toNat) (j := k) (by omega) (by omega)
      rw [e0]
      rw [Int.add_mul, Int.one_mul] at nx
      omega) (fun g hg hgk => by
      have : 0 ≤ up_at rows (g + 1).toNat := upD_nonneg _ _
      rw [e0]
      omega)).2 (dn k hk)
    have z2 : (0 : Int) ≤ ((ups k (rows.getD k []) : Nat) : Int) * (up_at rows (k + 1) + 1) - ((ups k (rows.getD k []) : Nat) : Int) * (up_at rows (k + 1) + 1) := by omega
    exact Int.le_trans z2 z
/-- heights that are not great -/
def LowPot (rows : List (List Int)) : Prop := ∃ h T, Pot rows h T ∧ ((rows.length ≤ 4 ∧ (∀ row, row ∈ rows → row.length ≤ 3) ∧ T ≤ 120) ∨ T ≤ 96)
theorem K0.low {rows : List (List Int)} (h : K0 rows) : LowPot rows := by
  obtain ⟨ok, dn, h⟩ := h
  refine ⟨_, _, K0.potU ok dn, ?_⟩
  rcases h with ⟨h1, h2⟩ | h
  · refine .inl ⟨h1, h2, ?_⟩
    have a : up_at rows 0 ≤ c3 rows.length := upD_c3 0 rows fun j hj => by
      rw [Nat.zero_add]
      obtain ⟨g, hg, hl⟩ := dn j hj
      have l3 := h2 _ (getD_mem (d := []) hj)
      have s := List.length_eq_countP_add_countP (p := fun g => decide ((j : Int) ≤ g)) (l := rows.getD j [])
      have p : 0 < (rows.getD j []).countP (fun a => ¬ (decide ((j : Int) ≤ a)) = true) := List.countP_pos_iff.mpr ⟨g, hg, by simp; omega⟩
      unfold ups
      omega
    have b : c3 rows.length ≤ 120 := by
      have : rows.length = 0 ∨ rows.length = 1 ∨ rows.length = 2 ∨ rows.length = 3 ∨ rows.length = 4 := by omega
      rcases this with e | e | e | e | e <;> rw [e] <;> decide
    omega
  · refine .inr ?_
    have a : up_at rows 0 ≤ ((2 ^ upsFrom 0 rows * rows.length : Nat) : Int) := upD_pow 0 rows
    have b : 2 ^ upsFrom 0 rows ≤ 2 ^ 3 := Nat.pow_le_pow_right (by decide) h
    have c : 2 ^ upsFrom 0 rows * rows.length ≤ 2 ^ 3 * 12 := Nat.mul_le_mul b ok.2.1
    have : (2 : Nat) ^ 3 * 12 = 96 := by decide
    omega
theorem Pot.flip {rows : List (List Int)} {h : Int → Int} {T : Int} (ok : OkRows rows) (p : Pot rows h T) : Pot (flipRows rows) (fun g => h (other g rows.length)) T := by
  have oth : ∀ k : Nat, k < rows.length → other (k : Int) rows.length = ((rows.length - 1 - k : Nat) : Int) := fun k hk => by
    unfold other
    rw [if_neg (by omega)]
    omega
  refine ⟨?_, fun k hk => ?_, fun k hk => ?_, fun k hk => ?_⟩
  · show h (other (-1) rows.length) = 0
    rw [show other (-1) (rows.length : Int) = -1 by simp [other]]
    exact p.pit
  · rw [flip_length] at hk
    show 0 ≤ h (other (k : Int) rows.length)
    rw [oth k hk]
    exact p.lo _ (by omega)
  · rw [flip_length] at hk
    show h (other (k : Int) rows.length) ≤ T
    rw [oth k hk]
    exact p.hi _ (by omega)
  · rw [flip_length] at hk
    rw [flip_at hk, List.map_map]
    have d := p.dn (rows.length - 1 - k) (by omega)
    have e : (rows.getD (rows.length - 1 - k) []).map ((fun g => h (other (k : Int) rows.length) - h (other g rows.length) - 1) ∘ fun g => other g rows.length) = (rows.getD (rows.length - 1 - k) []).map fun g => h ((rows.length - 1 - k : Nat) : Int) - h g - 1 := by
      refine List.map_congr_left fun g hg => ?_
      have r := (ok.row (show rows.length - 1 - k < rows.length by omega)).2.2 g hg
      show h (other (k : Int) rows.length) - h (other (other g rows.length) rows.length) - 1 = _
      rw [other_other r.2, oth k hk]
    rw [e]
    exact d
theorem Shape.low {rows : List (List Int)} (h : Shape rows) : LowPot rows := by
  obtain ⟨r0, k0, rfl | rfl⟩ := h
  · exact k0.low
  · obtain ⟨h, T, p, c⟩ := k0.low
    refine ⟨_, T, p.flip k0.1, ?_⟩
    rcases c with ⟨c1, c2, c3⟩ | c
    · refine .inl ⟨by rw [flip_length]; exact c1, fun row hr => ?_, c3⟩
      unfold flipRows at hr
      rw [List.mem_reverse] at hr
      obtain ⟨row', hm, rfl⟩ := List.mem_map.mp hr
      rw [List.length_map]
      exact c2 row' hm
    · exact .inr c
theorem Shape.isOpen {rows : List (List Int)} (h : Shape rows) : Open rows := by
  obtain ⟨f, T, p, _⟩ := h.low
  exact p.isOpen h.ok
theorem LowPot.run {rows : List (List Int)} (l : LowPot rows) (ok : OkRows rows) {S : Sta} (sk : SOk rows S) (nn : ∀ x, x ∈ S.loads → 0 ≤ x) (hs : S.loads.sum ≤ 39) : ∃ n S', RunTo rows S n S' ∧ n ≤ 20000 := by
  obtain ⟨h, T, p, c⟩ := l
  have T0 := p.pos (List.length_pos_iff.mp ok.1)
  have s0 : 0 ≤ S.loads.sum := by
    have := loadW_lo (h := fun _ => 1) 0 S.loads nn (fun _ _ => by decide)
    have e : ∀ (k : Nat) (l : List Int), loadW (fun _ => 1) k l = l.sum := by
      intro k l
      induction l generalizing k with
      | nil => rfl
      | cons x r ih =>
        show x * 1 + loadW (fun _ => 1) (k + 1) r = (x :: r).sum
        rw [ih, List.sum_cons]
        omega
    rw [e] at this
    exact this
  have m1 : S.loads.sum * T ≤ 39 * T := Int.mul_le_mul_of_nonneg_right hs T0
  rcases c with ⟨c1, c2, c3⟩ | c
  · have hW : ∀ row, row ∈ rows → row.length ≤ 2 + 1 := c2
    have hi := Phi_hi p ok hW sk nn
    have m2 : (rows.length : Int) * (((2 : Nat) : Int) * T) ≤ 4 * (((2 : Nat) : Int) * T) := Int.mul_le_mul_of_nonneg_right (by omega) (Int.mul_nonneg (by decide) T0)
    have m3 : (rows.length : Int) * (((2 : Nat) : Int) * (T + 1)) ≤ 4 * (((2 : Nat) : Int) * (T + 1)) := Int.mul_le_mul_of_nonneg_right (by omega) (Int.mul_nonneg (by decide) (by omega))
    exact p.run ok hW 20000 S sk nn (by omega)
  · have hW : ∀ row, row ∈ rows → row.length ≤ 7 + 1 := fun row hr => (ok.2.2 row hr).2.1
    have hi := Phi_hi p ok hW sk nn
    have n12 := ok.2.1
    have m2 : (rows.length : Int) * (((7 : Nat) : Int) * T) ≤ 12 * (((7 : Nat) : Int) * T) := Int.mul_le_mul_of_nonneg_right (by omega) (Int.mul_nonneg (by decide) T0)
    have m3 : (rows.length : Int) * (((7 : Nat) : Int) * (T + 1)) ≤ 12 * (((7 : Nat) : Int) * (T + 1)) := Int.mul_le_mul_of_nonneg_right (by omega) (Int.mul_nonneg (by decide) (by omega))
    exact p.run ok hW 20000 S sk nn (by omega)

/-! Steps in any order: the end is one and the same -/
theorem ints_eq {a b : List Int} (hl : a.length = b.length) (h : ∀ i, i < a.length → a.getD i 0 = b.getD i 0) : a = b := by
  apply List.ext_getElem hl
  intro k h1 h2
  have q := h k h1
  rw [List.getD_eq_getElem?_getD, List.getD_eq_getElem?_getD, List.getElem?_eq_getElem h1, List.getElem?_eq_getElem h2] at q
  exact q
def one (p : Prop) [Decidable p] : Int := if p then 1 else 0
theorem gone_get {g : Int} {loads : List Int} (h0 : -1 ≤ g) (h1 : g < loads.length) (x : Nat) : (gone g loads).getD x 0 = loads.getD x 0 + one (g = (x : Int)) := by
  unfold gone one
  by_cases e : g = -1
  · rw [if_pos e, if_neg (by omega)]
    omega
  · rw [if_neg e, getD_set (by omega)]
    by_cases z : g.toNat = x
    · rw [if_pos z, if_pos (by omega), z]
    · rw [if_neg z, if_neg (by omega)]
      omega
theorem step_load {rows : List (List Int)} {S : Sta} {k : Nat} (ok : OkRows rows) (sk : SOk rows S) (hk : k < rows.length) (x : Nat) : (stepS rows S k).loads.getD x 0 = S.loads.getD x 0 - one (k = x) + one (exitOf rows S.turns k = (x : Int)) := by
  have gr := exitOf_range ok sk.tk hk
  show (gone _ _).getD x 0 = _
  rw [gone_get gr.1 (by rw [List.length_set, sk.ll]; exact gr.2), getD_set (by rw [sk.ll]; exact hk)]
  unfold one
  by_cases z : k = x
  · rw [if_pos z, if_pos z, z]
  · rw [if_neg z, if_neg z]
    omega
theorem exitOf_step {rows : List (List Int)} {S : Sta} {j k : Nat} (sk : SOk rows S) (hj : j < rows.length) (n : j ≠ k) : exitOf rows (stepS rows S j).turns k = exitOf rows S.turns k := by
  unfold exitOf
  show (rows.getD k []).getD ((S.turns.set j _).getD k 0).toNat 0 = _
  rw [getD_set (by rw [sk.tk.1]; exact hj), if_neg n]
theorem step_comm {rows : List (List Int)} {S : Sta} {j k : Nat} (ok : OkRows rows) (sk : SOk rows S) (hj : j < rows.length) (hk : k < rows.length) (n : j ≠ k) : stepS rows (stepS rows S j) k = stepS rows (stepS rows S k) j := by
  have sj := sk.step ok j
  have s2 := sk.step ok k
  have ej := exitOf_step sk hk n.symm
  have ek := exitOf_step sk hj n
  have lt := sk.tk.1
  have ls := sk.ls
  have set_comm : ∀ (l : List Int) (f g : Int → Int), j < l.length → k < l.length → (l.set j (f (l.getD j 0))).set k (g ((l.set j (f (l.getD j 0))).getD k 0)) = (l.set k (g (l.getD k 0))).set j (f ((l.set k (g (l.getD k 0))).getD j 0)) := by
    intro l f g h1 h2
    rw [getD_set h1, if_neg n, getD_set h2, if_neg n.symm]
    exact List.set_comm _ _ n
  have e1 : (stepS rows (stepS rows S j) k).turns = (stepS rows (stepS rows S k) j).turns := set_comm S.turns (fun t => (t + 1) % ((rows.getD j []).length : Int)) (fun t => (t + 1) % ((rows.getD k []).length : Int)) (by omega) (by omega)
  have e3 : (stepS rows (stepS rows S j) k).steps = (stepS rows (stepS rows S k) j).steps := set_comm S.steps (fun t => t + 1) (fun t => t + 1) (by omega) (by omega)
  have e2 : (stepS rows (stepS rows S j) k).loads = (stepS rows (stepS rows S k) j).loads := by
    refine ints_eq (by rw [(sj.step ok k).ll, (s2.step ok j).ll]) fun x _ => ?_
    rw [step_load ok sj hk, step_load ok s2 hj, step_load ok sk hj, step_load ok sk hk, ej, ek]
    omega
  have e4 : (stepS rows (stepS rows S j) k).taken = (stepS rows (stepS rows S k) j).taken := by
    show (if exitOf rows (stepS rows S j).turns k = -1 then (if exitOf rows S.turns j = -1 then S.taken + 1 else S.taken) + 1 else (if exitOf rows S.turns j = -1 then S.taken + 1 else S.taken)) = (if exitOf rows (stepS rows S k).turns j = -1 then (if exitOf rows S.turns k = -1 then S.taken + 1 else S.taken) + 1 else (if exitOf rows S.turns k = -1 then S.taken + 1 else S.taken))
    rw [ej, ek]
    split <;> split <;> omega
  calc stepS rows (stepS rows S j) k = ⟨(stepS rows (stepS rows S j) k).turns, (stepS rows (stepS rows S j) k).loads, (stepS rows (stepS rows S j) k).steps, (stepS rows (stepS rows S j) k).taken⟩ := rfl
    _ = ⟨(stepS rows (stepS rows S k) j).turns, (stepS rows (stepS rows S k) j).loads, (stepS rows (stepS rows S k) j).steps, (stepS rows (stepS rows S k) j).taken⟩ := by rw [e1, e2, e3, e4]
    _ = stepS rows (stepS rows S k) j := rfl
/-- steps of laden sites, in any order, until none is -/
inductive Any (rows : List (List Int)) : Sta → Nat → Sta → Prop where
  | zero {S : Sta} : Bare S.loads → Any rows S 0 S
  | step {S S' : Sta} {k n : Nat} : k < rows.length → 0 < S.loads.getD k 0 → Any rows (stepS rows S k) n S' → Any rows S (n + 1) S'
theorem RunTo.any {rows : List (List Int)} {S F : Sta} {n : Nat} (h : RunTo rows S n F) (ok : OkRows rows) (sk : SOk rows S) : Any rows S n F := by
  obtain ⟨r, b⟩ := h
  induction r with
  | zero => exact .zero b
  | step f _ ih => exact .step (by rw [← sk.ll]; exact f.1) f.2.1 (ih (sk.step ok _) b)
theorem step_still {rows : List (List Int)} {S : Sta} {j k : Nat} (ok : OkRows rows) (sk : SOk rows S) (hj : j < rows.length) (n : j ≠ k) (h : 0 < S.loads.getD k 0) : 0 < (stepS rows S j).loads.getD k 0 := by
  rw [step_load ok sk hj]
  unfold one
  rw [if_neg n]
  split <;> omega
/-- from one laden site on: the same end -/
theorem Any.go {rows : List (List Int)} (ok : OkRows rows) : ∀ (n : Nat) {S F : Sta}, SOk rows S → Any rows S n F → ∀ {k : Nat}, k < rows.length → 0 < S.loads.getD k 0 → ∃ m, n = m + 1 ∧ Any rows (stepS rows S k) m F := by
  intro n
  induction n with
  | zero =>
    intro S F sk h k hk hp
    cases h with
    | zero b => exact absurd hp (b k (by rw [sk.ll]; exact hk))
  | succ n ih =>
    intro S F sk h k hk hp
    cases h with
    | @step _ _ j _ hj hpj r =>
      by_cases e : j = k
      · subst e
        exact ⟨n, rfl, r⟩
      · obtain ⟨m, em, r2⟩ := ih (sk.step ok j) r hk (step_still ok sk hj e hp)
        refine ⟨n, rfl, ?_⟩
        rw [step_comm ok sk hj hk e] at r2
        rw [em]
        exact .step hj (step_still ok sk hk (fun z => e z.symm) hpj) r2
theorem Any.det {rows : List (List Int)} (ok : OkRows rows) : ∀ (n m : Nat) {S F F' : Sta}, SOk rows S → Any rows S n F → Any rows S m F' → n = m ∧ F = F' := by
  intro n
  induction n with
  | zero =>
    intro m S F F' sk h1 h2
    cases h1 with
    | zero b =>
      cases h2 with
      | zero _ => exact ⟨rfl, rfl⟩
      | step hk hp _ => exact absurd hp (b _ (by rw [sk.ll]; exact hk))
  | succ n ih =>
    intro m S F F' sk h1 h2
    cases h1 with
    | @step _ _ k _ hk hp r =>
      obtain ⟨m', rfl, r'⟩ := h2.go ok _ sk hk hp
      obtain ⟨e1, e2⟩ := ih m' (sk.step ok k) r r'
      exact ⟨by omega, e2⟩
theorem Any.bare {rows : List (List Int)} {S F : Sta} {n : Nat} (h : Any rows S n F) : Bare F.loads := by
  induction h with
  | zero b => exact b
  | step _ _ _ ih => exact ih
theorem Any.end_ {rows : List (List Int)} {S F : Sta} {n : Nat} (h : Any rows S n F) (b : Bare S.loads) (sk : SOk rows S) : n = 0 ∧ S = F := by
  cases h with
  | zero _ => exact ⟨rfl, rfl⟩
  | step hk hp _ => exact absurd hp (b _ (by rw [sk.ll]; exact hk))

/-! Runs gone back -/
/-- last exits, and the way from the pit to the start -/
def lx (rows : List (List Int)) (turns : List Int) (at_ v : Int) : Int := if v < 0 then at_ else lastOf rows turns v.toNat
def hop (rows : List (List Int)) (turns : List Int) (at_ : Int) : Nat → Int → Int
  | 0, v => v
  | m + 1, v => lx rows turns at_ (hop rows turns at_ m v)
theorem hop_add (rows : List (List Int)) (turns : List Int) (at_ : Int) (a : Nat) : ∀ (b : Nat) (v : Int), hop rows turns at_ (a + b) v = hop rows turns at_ b (hop rows turns at_ a v)
  | 0, _ => rfl
  | b + 1, v => by
    show lx rows turns at_ (hop rows turns at_ (a + b) v) = lx rows turns at_ (hop rows turns at_ b (hop rows turns at_ a v))
    rw [hop_add rows turns at_ a b v]
theorem hop_front (rows : List (List Int)) (turns : List Int) (at_ : Int) (m : Nat) (v : Int) : hop rows turns at_ (m + 1) v = hop rows turns at_ m (lx rows turns at_ v) := by
  rw [Nat.add_comm, hop_add]
  rfl
theorem lx_range {rows : List (List Int)} (ok : OkRows rows) {turns : List Int} {at_ v : Int} (ha : -1 ≤ at_ ∧ at_ < rows.length) (h0 : -1 ≤ v) (h1 : v < rows.length) : -1 ≤ lx rows turns at_ v ∧ lx rows turns at_ v < rows.length := by
  unfold lx
  split
  · exact ha
  · exact lastAt_range ok (by omega) _
theorem hop_range {rows : List (List Int)} (ok : OkRows rows) {turns : List Int} {at_ : Int} (ha : -1 ≤ at_ ∧ at_ < rows.length) : ∀ (m : Nat) {v : Int}, -1 ≤ v → v < rows.length → -1 ≤ hop rows turns at_ m v ∧ hop rows turns at_ m v < rows.length
  | 0, _, h0, h1 => ⟨h0, h1⟩
  | m + 1, _, h0, h1 => by
    obtain ⟨a, b⟩ := hop_range ok ha m h0 h1
    exact lx_range ok ha a b
/-- from everywhere one comes to y -/
def Uni (rows : List (List Int)) (turns : List Int) (at_ y : Int) : Prop := ∀ v : Int, -1 ≤ v → v < rows.length → ∃ m, hop rows turns at_ m v = y
/-- the first time -/
theorem first_hit {rows : List (List Int)} {turns : List Int} {at_ v y : Int} (h : ∃ m, hop rows turns at_ m v = y) : ∃ m, hop rows turns at_ m v = y ∧ ∀ i, i < m → ¬ hop rows turns at_ i v = y := by
  obtain ⟨m, h⟩ := h
  induction m using Nat.strongRecOn with
  | ind m ih =>
    by_cases e : ∃ i, i < m ∧ hop rows turns at_ i v = y
    · obtain ⟨i, hi, e⟩ := e
      exact ih i hi e
    · exact ⟨m, h, fun i hi z => e ⟨i, hi, z⟩⟩
/-- turns that differ at x alone lead alike up to x -/
theorem hop_same {rows : List (List Int)} {t1 t2 : List Int} {at_ x v : Int} (hd : ∀ w : Int, w ≠ x → lx rows t1 at_ w = lx rows t2 at_ w) : ∀ m, (∀ i, i < m → ¬ hop rows t1 at_ i v = x) → hop rows t2 at_ m v = hop rows t1 at_ m v
  | 0, _ => rfl
  | m + 1, h => by
    show lx rows t2 at_ (hop rows t2 at_ m v) = lx rows t1 at_ (hop rows t1 at_ m v)
    rw [hop_same hd m fun i hi => h i (by omega), hd _ (h m (by omega))]
theorem Uni.move {rows : List (List Int)} {t1 t2 : List Int} {at_ x : Int} (hd : ∀ w : Int, w ≠ x → lx rows t1 at_ w = lx rows t2 at_ w) (u : Uni rows t1 at_ x) : Uni rows t2 at_ x := fun v h0 h1 => by
  obtain ⟨m, e, mn⟩ := first_hit (u v h0 h1)
  exact ⟨m, by rw [hop_same hd m mn]; exact e⟩
theorem lx_set {rows : List (List Int)} {turns : List Int} {at_ : Int} {x : Nat} {t : Int} (hx : x < turns.length) (w : Int) (h0 : w ≠ x) : lx rows turns at_ w = lx rows (turns.set x t) at_ w := by
  unfold lx
  by_cases z : w < 0
  · rw [if_pos z, if_pos z]
  · rw [if_neg z, if_neg z]
    unfold lastOf
    rw [getD_set hx, if_neg (by omega)]
theorem lx_at {rows : List (List Int)} {turns : List Int} {at_ : Int} (k : Nat) : lx rows turns at_ (k : Int) = lastOf rows turns k := by
  unfold lx
  rw [if_neg (by omega), Int.toNat_natCast]
/-! ### ahead on the ring -/
def Pred (rows : List (List Int)) (turns : List Int) (at_ y x : Int) : Prop := ∃ j, x = hop rows turns at_ j y ∧ lx rows turns at_ x = y ∧ ∀ i, i < j → ¬ hop rows turns at_ (i + 1) y = y
theorem pred_ex {rows : List (List Int)} (ok : OkRows rows) {turns : List Int} {at_ y : Int} (ha : -1 ≤ at_ ∧ at_ < rows.length) (h0 : -1 ≤ y) (h1 : y < rows.length) (u : Uni rows turns at_ y) : ∃ x, Pred rows turns at_ y x ∧ -1 ≤ x ∧ x < rows.length := by
  have r := lx_range ok (turns := turns) ha h0 h1
  obtain ⟨m, e⟩ := u _ r.1 r.2
  rw [← hop_front] at e
  obtain ⟨m, e, mn⟩ : ∃ m, hop rows turns at_ (m + 1) y = y ∧ ∀ i, i < m → ¬ hop rows turns at_ (i + 1) y = y := by
    induction m using Nat.strongRecOn with
    | ind m ih =>
      by_cases z : ∃ i, i < m ∧ hop rows turns at_ (i + 1) y = y
      · obtain ⟨i, hi, z⟩ := z
        exact ih i hi z
      · exact ⟨m, e, fun i hi w => z ⟨i, hi, w⟩⟩
  exact ⟨_, ⟨m, rfl, e, mn⟩, hop_range ok ha m h0 h1⟩
theorem pred_uniq {rows : List (List Int)} {turns : List Int} {at_ y x z : Int} (h : Pred rows turns at_ y x) (hz : ∃ m, z = hop rows turns at_ m y) (hl : lx rows turns at_ z = y) : z = x := by
  obtain ⟨j, rfl, hx, mn⟩ := h
  obtain ⟨m, rfl⟩ := hz
  have ret : hop rows turns at_ (j + 1) y = y := hx
  have mul : ∀ q, hop rows turns at_ ((j + 1) * q) y = y := by
    intro q
    induction q with
    | zero => rfl
    | succ q ih => rw [Nat.mul_succ, hop_add, ih, ret]
  have e : m = (j + 1) * (m / (j + 1)) + m % (j + 1) := (Nat.div_add_mod m (j + 1)).symm
  have hm : hop rows turns at_ m y = hop rows turns at_ (m % (j + 1)) y := by
    rw [e, hop_add, mul, ← e]
  have lt := Nat.mod_lt m (show 0 < j + 1 by omega)
  rw [hm] at hl ⊢
  have : m % (j + 1) = j := by
    by_cases z : m % (j + 1) < j
    · exact absurd hl (mn _ z)
    · omega
  rw [this]
/-! ### one marble -/
def oneAt (n : Nat) (y : Int) : List Int := if y < 0 then List.replicate n 0 else (List.replicate n 0).set y.toNat 1
def undo (rows : List (List Int)) (turns : List Int) (x : Nat) : List Int := turns.set x ((turns.getD x 0 - 1) % ((rows.getD x []).length : Int))
theorem rep_get (n k : Nat) : (List.replicate n (0 : Int)).getD k 0 = 0 := by
  rw [List.getD_eq_getElem?_getD, List.getElem?_replicate]
  split <;> rfl
theorem oneAt_len (n : Nat) (y : Int) : (oneAt n y).length = n := by
  unfold oneAt
  split <;> simp
theorem oneAt_get {n : Nat} {y : Int} (h1 : y < n) (k : Nat) : (oneAt n y).getD k 0 = one (y = (k : Int)) := by
  unfold oneAt one
  by_cases z : y < 0
  · rw [if_pos z, rep_get, if_neg (by omega)]
  · rw [if_neg z, getD_set (by simp; omega), rep_get]
    by_cases w : y.toNat = k
    · rw [if_pos w, if_pos (by omega)]
    · rw [if_neg w, if_neg (by omega)]
theorem oneAt_first {n : Nat} {y : Int} (h1 : y < n) {k : Nat} (h : First (oneAt n y) k) : y = k := by
  have := h.2.1
  rw [oneAt_get h1] at this
  unfold one at this
  split at this
  · assumption
  · omega
theorem oneAt_is {n : Nat} {k : Nat} (h : k < n) : First (oneAt n (k : Int)) k := by
  refine ⟨by rw [oneAt_len]; exact h, ?_, fun j hj => ?_⟩
  · rw [oneAt_get (by omega)]
    unfold one
    rw [if_pos rfl]
    decide
  · rw [oneAt_get (by omega)]
    unfold one
    rw [if_neg (by omega)]
    decide
theorem oneAt_bare {n : Nat} {y : Int} (h0 : -1 ≤ y) (h1 : y < n) (b : Bare (oneAt n y)) : y = -1 := by
  refine Classical.byContradiction fun z => ?_
  have f := oneAt_is (n := n) (k := y.toNat) (by omega)
  rw [show ((y.toNat : Nat) : Int) = y by omega] at f
  exact b _ f.1 f.2.1
theorem oneAt_sok {rows : List (List Int)} {turns steps : List Int} {y taken : Int} (tk : TurnsOk rows turns) (ls : steps.length = rows.length) : SOk rows ⟨turns, oneAt rows.length y, steps, taken⟩ := ⟨tk, oneAt_len _ _, ls⟩
theorem oneAt_nn (n : Nat) (y : Int) : ∀ x, x ∈ oneAt n y → 0 ≤ x := by
  unfold oneAt
  split
  · exact fun x hx => by rw [(List.mem_replicate.mp hx).2]; decide
  · exact set_nonneg (fun x hx => by rw [(List.mem_replicate.mp hx).2]; decide) (by decide)
theorem oneAt_sum {n : Nat} {y : Int} (h1 : y < n) : (oneAt n y).sum ≤ 1 := by
  unfold oneAt
  split
  · simp
  · rw [sum_setD (by simp; omega), rep_get]
    simp
theorem oneAt_step {rows : List (List Int)} {turns steps : List Int} {taken : Int} (ok : OkRows rows) (tk : TurnsOk rows turns) (ls : steps.length = rows.length) {k : Nat} (hk : k < rows.length) :
    (stepS rows ⟨turns, oneAt rows.length (k : Int), steps, taken⟩ k).loads = oneAt rows.length (exitOf rows turns k) := by
  have sk := oneAt_sok (y := (k : Int)) (taken := taken) tk ls
  have gr := exitOf_range ok tk hk
  refine ints_eq (by rw [(sk.step ok k).ll, oneAt_len]) fun x hx => ?_
  rw [step_load ok sk hk, oneAt_get gr.2]
  show (oneAt rows.length (k : Int)).getD x 0 - one (k = x) + one (exitOf rows turns k = (x : Int)) = _
  rw [oneAt_get (by omega)]
  have : one ((k : Int) = (x : Int)) = one (k = x) := by
    unfold one
    by_cases z : k = x
    · rw [if_pos z, if_pos (by omega)]
    · rw [if_neg z, if_neg (by omega)]
  rw [this]
  omega
/-! ### ways back -/
inductive BackFrom (rows : List (List Int)) (at_ : Int) : List Int → Int → Nat → List Int → Prop where
  | zero {turns : List Int} {y : Int} : Pred rows turns at_ y (-1) → BackFrom rows at_ turns y 0 turns
  | step {turns T : List Int} {y : Int} {x n : Nat} : x < rows.length → Pred rows turns at_ y (x : Int) → BackFrom rows at_ (undo rows turns x) (x : Int) n T → BackFrom rows at_ turns y (n + 1) T
theorem undo_ok {rows : List (List Int)} {turns : List Int} (ok : OkRows rows) (tk : TurnsOk rows turns) (x : Nat) : TurnsOk rows (undo rows turns x) := tk.on x fun hx => by
  have := (ok.row hx).1
  exact ⟨Int.emod_nonneg _ (by omega), Int.emod_lt_of_pos _ (by omega)⟩
theorem undo_next {rows : List (List Int)} {turns : List Int} (ok : OkRows rows) (tk : TurnsOk rows turns) {x : Nat} (hx : x < rows.length) : (undo rows turns x).set x (((undo rows turns x).getD x 0 + 1) % ((rows.getD x []).length : Int)) = turns := by
  have t := tk.2 x hx
  have r := (ok.row hx).1
  have lt := tk.1
  unfold undo
  rw [getD_set (by omega), if_pos rfl, List.set_set]
  have e : ((turns.getD x 0 - 1) % ((rows.getD x []).length : Int) + 1) % ((rows.getD x []).length : Int) = turns.getD x 0 := by
    rw [Int.emod_add_emod, Int.sub_add_cancel, Int.emod_eq_of_lt t.1 t.2]
  rw [e]
  refine ints_eq (by simp) fun i hi => ?_
  rw [getD_set (by omega)]
  split
  · rename_i z
    rw [z]
  · rfl
theorem undo_exit {rows : List (List Int)} {turns : List Int} (tk : TurnsOk rows turns) {x : Nat} (hx : x < rows.length) : exitOf rows (undo rows turns x) x = lastOf rows turns x := by
  unfold exitOf undo lastOf lastAt
  rw [getD_set (by rw [tk.1]; exact hx), if_pos rfl]
theorem next_undo {rows : List (List Int)} {turns : List Int} (ok : OkRows rows) (tk : TurnsOk rows turns) {x : Nat} (hx : x < rows.length) : undo rows (turns.set x ((turns.getD x 0 + 1) % ((rows.getD x []).length : Int))) x = turns := by
  have t := tk.2 x hx
  have r := (ok.row hx).1
  have lt := tk.1
  unfold undo
  rw [getD_set (by omega), if_pos rfl, List.set_set]
  have e : ((turns.getD x 0 + 1) % ((rows.getD x []).length : Int) - 1) % ((rows.getD x []).length : Int) = turns.getD x 0 := by
    rw [Int.emod_sub_emod, Int.add_sub_cancel, Int.emod_eq_of_lt t.1 t.2]
  rw [e]
  refine ints_eq (by simp) fun i hi => ?_
  rw [getD_set (by omega)]
  split
  · rename_i z
    rw [z]
  · rfl
theorem next_last {rows : List (List Int)} {turns : List Int} (ok : OkRows rows) (tk : TurnsOk rows turns) {x : Nat} (hx : x < rows.length) : lastOf rows (turns.set x ((turns.getD x 0 + 1) % ((rows.getD x []).length : Int))) x = exitOf rows turns x := by
  have t := tk.2 x hx
  have lt := tk.1
  unfold lastOf lastAt exitOf
  rw [getD_set (by omega), if_pos rfl, Int.emod_sub_emod, Int.add_sub_cancel, Int.emod_eq_of_lt t.1 t.2]
/-- the run forth keeps the ring, and can be gone back -/
theorem forth_back {rows : List (List Int)} {at_ : Int} (ok : OkRows rows) (ha : -1 ≤ at_ ∧ at_ < rows.length) {S F : Sta} {n : Nat} (r : Runs rows S n F) (b : Bare F.loads) : ∀ y : Int, -1 ≤ y → y < rows.length → S.loads = oneAt rows.length y → SOk rows S → Uni rows S.turns at_ y →
    Uni rows F.turns at_ (-1) ∧ ∀ i T, BackFrom rows at_ S.turns y i T → BackFrom rows at_ F.turns (-1) (i + n) T := by
  induction r with
  | zero S =>
    intro y h0 h1 e sk u
    rw [e] at b
    have := oneAt_bare h0 h1 b
    subst this
    exact ⟨u, fun i T h => h⟩
  | @step S S' k n f _ ih =>
    intro y h0 h1 e sk u
    rw [e] at f
    have ey := oneAt_first h1 f
    subst ey
    have hk : k < rows.length := by omega
    have gr := exitOf_range ok sk.tk hk
    have lt := sk.tk.1
    have eS : S = ⟨S.turns, oneAt rows.length (k : Int), S.steps, S.taken⟩ := by rw [← e]
    have el : (stepS rows S k).loads = oneAt rows.length (exitOf rows S.turns k) := by
      rw [eS]
      exact oneAt_step ok sk.tk sk.ls hk
    have u1 : Uni rows (stepS rows S k).turns at_ (k : Int) := u.move fun w hw => lx_set (by omega) w hw
    have ll : lx rows (stepS rows S k).turns at_ (k : Int) = exitOf rows S.turns k := by
      rw [lx_at]
      exact next_last ok sk.tk hk
    have u2 : Uni rows (stepS rows S k).turns at_ (exitOf rows S.turns k) := fun v v0 v1 => by
      obtain ⟨m, hm⟩ := u1 v v0 v1
      exact ⟨m + 1, by
        show lx rows _ at_ (hop rows _ at_ m v) = _
        rw [hm, ll]⟩
    obtain ⟨a1, a2⟩ := ih b (exitOf rows S.turns k) gr.1 gr.2 el (sk.step ok k) u2
    refine ⟨a1, fun i T h => ?_⟩
    have z := a2 (i + 1) T (.step hk ?_ ?_)
    · rw [show i + (n + 1) = i + 1 + n by omega]
      exact z
    · obtain ⟨x, px, _, _⟩ := pred_ex ok ha gr.1 gr.2 u2
      have := pred_uniq px (z := (k : Int)) (by
        obtain ⟨m, hm⟩ := u1 _ gr.1 gr.2
        exact ⟨m, hm.symm⟩) ll
      rw [this]
      exact px
    · have : undo rows (stepS rows S k).turns k = S.turns := next_undo ok sk.tk hk
      rw [this]
      exact h
theorem tree_uni {rows : List (List Int)} {turns : List Int} {at_ : Int} (ok : OkRows rows) : (Tree rows turns ↔ Uni rows turns at_ (-1)) := by
  have key : ∀ (m : Nat) (v : Int), -1 ≤ v → v < rows.length → (goOn rows turns m v < 0 ↔ ∃ i, i ≤ m ∧ hop rows turns at_ i v = -1) := by
    intro m
    induction m with
    | zero =>
      intro v h0 h1
      constructor
      · intro h
        have h : v < 0 := h
        exact ⟨0, Nat.le_refl _, by show v = -1; omega⟩
      · rintro ⟨i, hi, e⟩
        have : i = 0 := by omega
        subst this
        have e : v = -1 := e
        show v < 0
        omega
    | succ m ih =>
      intro v h0 h1
      rw [goOn_front]
      by_cases z : v < 0
      · have : v = -1 := by omega
        subst this
        constructor
        · intro _
          exact ⟨0, Nat.zero_le _, rfl⟩
        · intro _
          have e : nxt rows turns (-1) = -1 := rfl
          rw [e, goOn_neg _ _ _ _ (by decide)]
          decide
      · have e : nxt rows turns v = lastOf rows turns v.toNat := if_pos (by omega)
        have e2 : lx rows turns at_ v = lastOf rows turns v.toNat := if_neg z
        have gr := lastAt_range ok (show v.toNat < rows.length by omega) (turns.getD v.toNat 0)
        rw [e, ih (lastOf rows turns v.toNat) gr.1 gr.2]
        constructor
        · rintro ⟨i, hi, h⟩
          exact ⟨i + 1, by omega, by rw [hop_front, e2]; exact h⟩
        · rintro ⟨i, hi, h⟩
          cases i with
          | zero =>
            have h : v = -1 := h
            omega
          | succ i =>
            rw [hop_front, e2] at h
            exact ⟨i, by omega, h⟩
  constructor
  · intro h v h0 h1
    by_cases z : v < 0
    · exact ⟨0, by show v = -1; omega⟩
    · have := (tree_iff ok).mp h v.toNat (by omega)
      rw [show ((v.toNat : Nat) : Int) = v by omega] at this
      obtain ⟨i, _, e⟩ := (key _ v h0 h1).mp this
      exact ⟨i, e⟩
  · intro u k hk
    rw [lastRows_len] at hk
    obtain ⟨i, e⟩ := u k (by omega) (by omega)
    exact ⟨i, (goOn_rch ok i k hk).mp ((key i k (by omega) (by omega)).mpr ⟨i, Nat.le_refl _, e⟩)⟩
/-- at a tree the way back from the start is at its end -/
theorem tree_start {rows : List (List Int)} {turns : List Int} {k : Nat} (ok : OkRows rows) (hk : k < rows.length) (h : Tree rows turns) : Uni rows turns (k : Int) (k : Int) ∧ BackFrom rows (k : Int) turns (k : Int) 0 turns := by
  have u := (tree_uni (at_ := (k : Int)) ok).mp h
  have l : lx rows turns (k : Int) (-1) = (k : Int) := if_pos (by decide)
  have u2 : Uni rows turns (k : Int) (k : Int) := fun v h0 h1 => by
    obtain ⟨m, e⟩ := u v h0 h1
    exact ⟨m + 1, by
      show lx rows _ _ (hop rows _ _ m v) = _
      rw [e, l]⟩
  refine ⟨u2, .zero ?_⟩
  obtain ⟨x, px, _, _⟩ := pred_ex ok (at_ := (k : Int)) (by omega) (by omega) (by omega) u2
  have := pred_uniq px (z := -1) (by
    obtain ⟨m, e⟩ := u (k : Int) (by omega) (by omega)
    exact ⟨m, e.symm⟩) l
  rw [this]
  exact px
theorem BackFrom.det {rows : List (List Int)} {at_ : Int} {turns T T' : List Int} {y : Int} {n m : Nat} (h1 : BackFrom rows at_ turns y n T) (h2 : BackFrom rows at_ turns y m T') : n = m ∧ T = T' := by
  have pu : ∀ {turns : List Int} {y x z : Int}, Pred rows turns at_ y x → Pred rows turns at_ y z → z = x := fun p q => by
    obtain ⟨j, e, l, _⟩ := q
    exact pred_uniq p ⟨j, e⟩ l
  induction h1 generalizing m T' with
  | zero p =>
    cases h2 with
    | zero _ => exact ⟨rfl, rfl⟩
    | step _ q _ =>
      have := pu p q
      omega
  | step hx p _ ih =>
    cases h2 with
    | zero q =>
      have := pu p q
      omega
    | step hx' q r =>
      have := pu p q
      have e : ∀ {a b : Nat}, ((a : Int) = (b : Int)) → a = b := fun h => by omega
      have := e this
      subst this
      obtain ⟨e1, e2⟩ := ih r
      exact ⟨by omega, e2⟩
/-- what the way back comes to: a tree, from which the run forth leads here -/
theorem back_forth {rows : List (List Int)} {at_ : Int} (ok : OkRows rows) (ha : 0 ≤ at_ ∧ at_ < rows.length) {turns T : List Int} {y : Int} {n : Nat} (h : BackFrom rows at_ turns y n T) : ∀ (r : Nat) (T2 : List Int), -1 ≤ y → y < rows.length → TurnsOk rows turns → Uni rows turns at_ y →
    (∀ (steps : List Int) (taken : Int), steps.length = rows.length → ∃ F, RunTo rows ⟨turns, oneAt rows.length y, steps, taken⟩ r F ∧ F.turns = T2) →
    TurnsOk rows T ∧ Tree rows T ∧ ∀ (steps : List Int) (taken : Int), steps.length = rows.length → ∃ F, RunTo rows ⟨T, oneAt rows.length at_, steps, taken⟩ (n + r) F ∧ F.turns = T2 := by
  induction h with
  | @zero turns y p =>
    intro r T2 h0 h1 tk u hf
    obtain ⟨j, e, l, _⟩ := p
    have l2 : lx rows turns at_ (-1) = at_ := if_pos (by decide)
    have ey : at_ = y := l2.symm.trans l
    refine ⟨tk, (tree_uni (at_ := at_) ok).mpr fun v v0 v1 => ?_, fun steps taken ls => ?_⟩
    · obtain ⟨m, em⟩ := u v v0 v1
      exact ⟨m + j, by rw [hop_add, em, ← e]⟩
    · rw [Nat.zero_add, ey]
      exact hf steps taken ls
  | @step turns T y x n hx p _ ih =>
    intro r T2 h0 h1 tk u hf
    have tk2 := undo_ok ok tk x
    have lt := tk.1
    have lxe : lastOf rows turns x = y := by
      obtain ⟨_, _, l, _⟩ := p
      rw [lx_at] at l
      exact l
    have ux : Uni rows turns at_ (x : Int) := fun v v0 v1 => by
      obtain ⟨m, em⟩ := u v v0 v1
      obtain ⟨j, e, _, _⟩ := p
      exact ⟨m + j, by rw [hop_add, em, ← e]⟩
    have u2 : Uni rows (undo rows turns x) at_ (x : Int) := ux.move fun w hw => lx_set (by omega) w hw
    have z := ih (r + 1) T2 (by omega) (by omega) tk2 u2 fun steps taken ls => by
      have es : stepS rows ⟨undo rows turns x, oneAt rows.length (x : Int), steps, taken⟩ x = ⟨turns, oneAt rows.length y, steps.set x (steps.getD x 0 + 1), if exitOf rows (undo rows turns x) x = -1 then taken + 1 else taken⟩ := by
        have e1 : (stepS rows ⟨undo rows turns x, oneAt rows.length (x : Int), steps, taken⟩ x).turns = turns := undo_next ok tk hx
        have e2 := oneAt_step (taken := taken) ok tk2 ls hx
        rw [undo_exit tk hx, lxe] at e2
        calc stepS rows ⟨undo rows turns x, oneAt rows.length (x : Int), steps, taken⟩ x = ⟨(stepS rows ⟨undo rows turns x, oneAt rows.length (x : Int), steps, taken⟩ x).turns, (stepS rows ⟨undo rows turns x, oneAt rows.length (x : Int), steps, taken⟩ x).loads, steps.set x (steps.getD x 0 + 1), if exitOf rows (undo rows turns x) x = -1 then taken + 1 else taken⟩ := rfl
          _ = _ := by rw [e1, e2]
      obtain ⟨F, ⟨rn, bf⟩, eF⟩ := hf (steps.set x (steps.getD x 0 + 1)) (if exitOf rows (undo rows turns x) x = -1 then taken + 1 else taken) (by rw [List.length_set]; exact ls)
      refine ⟨F, ⟨.step (oneAt_is hx) ?_, bf⟩, eF⟩
      rw [es]
      exact rn
    rw [show n + 1 + r = n + (r + 1) by omega]
    exact z
/-- there is a way back, and it is not long -/
theorem back_ex {rows : List (List Int)} {at_ : Int} (lp : LowPot rows) (ok : OkRows rows) (ha : 0 ≤ at_ ∧ at_ < rows.length) (T2 : List Int) : ∀ (fuel r : Nat) (turns : List Int) (y : Int), r + fuel = 20001 → -1 ≤ y → y < rows.length → TurnsOk rows turns → Uni rows turns at_ y →
    (∀ (steps : List Int) (taken : Int), steps.length = rows.length → ∃ F, RunTo rows ⟨turns, oneAt rows.length y, steps, taken⟩ r F ∧ F.turns = T2) → ∃ n T, BackFrom rows at_ turns y n T ∧ n + r ≤ 20000 := by
  intro fuel
  induction fuel with
  | zero =>
    intro r turns y hr h0 h1 tk u hf
    obtain ⟨F, rt, _⟩ := hf (List.replicate rows.length 0) 0 (by simp)
    have sk := oneAt_sok (y := y) (taken := 0) tk (show (List.replicate rows.length (0 : Int)).length = rows.length by simp)
    obtain ⟨n, F', rt', hn⟩ := lp.run ok sk (oneAt_nn _ _) (by have := oneAt_sum h1; show (oneAt rows.length y).sum ≤ 39; omega)
    have := (Runs.det rt rt').1
    omega
  | succ fuel ih =>
    intro r turns y hr h0 h1 tk u hf
    obtain ⟨x, px, x0, x1⟩ := pred_ex ok (by omega) h0 h1 u
    by_cases z : x = -1
    · rw [z] at px
      refine ⟨0, turns, .zero px, ?_⟩
      obtain ⟨F, rt, _⟩ := hf (List.replicate rows.length 0) 0 (by simp)
      have sk := oneAt_sok (y := y) (taken := 0) tk (show (List.replicate rows.length (0 : Int)).length = rows.length by simp)
      obtain ⟨n, F', rt', hn⟩ := lp.run ok sk (oneAt_nn _ _) (by have := oneAt_sum h1; show (oneAt rows.length y).sum ≤ 39; omega)
      have := (Runs.det rt rt').1
      omega
    · obtain ⟨k, rfl⟩ : ∃ k : Nat, x = k := ⟨x.toNat, by omega⟩
      have hk : k < rows.length := by omega
      have lt := tk.1
      have tk2 := undo_ok ok tk k
      have lxe : lastOf rows turns k = y := by
        obtain ⟨_, _, l, _⟩ := px
        rw [lx_at] at l
        exact l
      have ux : Uni rows turns at_ (k : Int) := fun v v0 v1 => by
        obtain ⟨m, em⟩ := u v v0 v1
        obtain ⟨j, e, _, _⟩ := px
        exact ⟨m + j, by rw [hop_add, em, ← e]⟩
      have u2 : Uni rows (undo rows turns k) at_ (k : Int) := ux.move fun w hw => lx_set (by omega) w hw
      obtain ⟨n, T, bf, hn⟩ := ih (r + 1) (undo rows turns k) (k : Int) (by omega) (by omega) (by omega) tk2 u2 fun steps taken ls => by
        have es : stepS rows ⟨undo rows turns k, oneAt rows.length (k : Int), steps, taken⟩ k = ⟨turns, oneAt rows.length y, steps.set k (steps.getD k 0 + 1), if exitOf rows (undo rows turns k) k = -1 then taken + 1 else taken⟩ := by
          have e1 : (stepS rows ⟨undo rows turns k, oneAt rows.length (k : Int), steps, taken⟩ k).turns = turns := undo_next ok tk hk
          have e2 := oneAt_step (taken := taken) ok tk2 ls hk
          rw [undo_exit tk hk, lxe] at e2
          calc stepS rows ⟨undo rows turns k, oneAt rows.length (k : Int), steps, taken⟩ k = ⟨(stepS rows ⟨undo rows turns k, oneAt rows.length (k : Int), steps, taken⟩ k).turns, (stepS rows ⟨undo rows turns k, oneAt rows.length (k : Int), steps, taken⟩ k).loads, steps.set k (steps.getD k 0 + 1), if exitOf rows (undo rows turns k) k = -1 then taken + 1 else taken⟩ := rfl
            _ = _ := by rw [e1, e2]
        obtain ⟨F, ⟨rn, bf⟩, eF⟩ := hf (steps.set k (steps.getD k 0 + 1)) (if exitOf rows (undo rows turns k) k = -1 then taken + 1 else taken) (by rw [List.length_set]; exact ls)
        refine ⟨F, ⟨.step (oneAt_is hk) ?_, bf⟩, eF⟩
        rw [es]
        exact rn
      exact ⟨n + 1, T, .step hk px bf, by omega⟩

/-! Texts of boards -/
def mCatS : R2 := fun x y H Q => ∃ i j, x = .str i ∧ y = .str j ∧ i.length + j.length ≤ sizeLine ∧ Q (.str (i ++ j)) H
def tJoin (K : PySem.W.Frag) (to te : TE) : TE := tM1 (fun x xs H Q => ∃ a p, ∃ ys : List Str, x = .str a ∧ xs = [.ref p] ∧ (SqL K H p (ys.map V.str) ∨ SqT K H p (ys.map V.str)) ∧ (ys.map (·.length)).sum + ys.length * a.length ≤ 16777216 ∧ Q (.str (Txt.join a ys)) H) to te
abbrev slst (xs : List Str) : HO := .lst (xs.map V.str)
section
variable {K : PySem.W.Frag} {H : Hp} {Q : VK} {σ : L2.St}
theorem g_cat {i j : Str} (h : i.length + j.length ≤ sizeLine) (q : Q (.str (i ++ j)) H) : mCatS (.str i) (.str j) H Q := ⟨i, j, rfl, rfl, h, q⟩
theorem g_str {i : Int} (h0 : -1 ≤ i) (h1 : i < 100000000000000000000) (q : Q (.str (toString i)) H) : mStr [.int i] H Q := by
  refine ⟨i, rfl, ?_, q⟩
  have h : i.natAbs < 100000000000000000000 := by omega
  by_cases z : i.natAbs = 0
  · rw [z]
    decide
  · have : i.natAbs.log2 < 67 := (Nat.log2_lt z).mpr (Nat.lt_of_lt_of_le h (by decide))
    omega
theorem g_join {to te : TE} (h : to σ H fun x H1 => (∃ a, x = .str a) ∧ te σ H1 fun y H2 => ∃ a p, ∃ ys : List Str, x = .str a ∧ [y] = [.ref p] ∧ (SqL K H2 p (ys.map V.str) ∨ SqT K H2 p (ys.map V.str)) ∧ (ys.map (·.length)).sum + ys.length * a.length ≤ 16777216 ∧ Q (.str (Txt.join a ys)) H2) : tJoin K to te σ H Q := h
theorem isi_ss {x : Str} (h : Q (.bl true) H) : rIsi K [.str x, .ty "str"] H Q := ⟨.str x, .ty "str", .type "str", .type "str", true, rfl, .ty "str", .base (.str x), kit_ty (by decide +kernel), h⟩
end
def exS (g : Int) : Str := if g < 0 then "pit" else toString g
def joinS (sep : Str) (x : Str) (xs : List Str) : Str := xs.foldl (fun acc p => acc ++ sep ++ p) x
theorem join_cons (sep x : Str) (xs : List Str) : Txt.join sep (x :: xs) = joinS sep x xs := by
  have gen : ∀ (xs : List Str) (x : Str), (⟨xs.foldl (fun acc p => acc ++ sep.cps ++ p.cps) x.cps⟩ : Str) = joinS sep x xs := by
    intro xs
    induction xs with
    | nil => intro x; rfl
    | cons y ys ih =>
      intro x
      show (⟨ys.foldl (fun acc p => acc ++ sep.cps ++ p.cps) (x.cps ++ sep.cps ++ y.cps)⟩ : Str) = joinS sep (x ++ sep ++ y) ys
      rw [← ih]
      rfl
  exact gen xs x
theorem joinS_pre (sep a x : Str) (xs : List Str) : a ++ joinS sep x xs = joinS sep (a ++ x) xs := by
  induction xs generalizing x with
  | nil => rfl
  | cons y ys ih =>
    show a ++ joinS sep (x ++ sep ++ y) ys = joinS sep (a ++ x ++ sep ++ y) ys
    rw [ih, PySem.Str.append_assoc a x sep, PySem.Str.append_assoc a (x ++ sep) y]
theorem joinS_push (sep x y : Str) (xs : List Str) : joinS sep x (xs ++ [y]) = joinS sep x xs ++ sep ++ y := by
  unfold joinS
  rw [List.foldl_append]
  rfl
/-- a site's line -/
def siteH (t l s : Int) : Str := joinS " " (toString t) [toString l, toString s, ">"]
def siteT (t l s : Int) (row : List Int) : Str := joinS " " (siteH t l s) (row.map exS)
def textT (rows : List (List Int)) (C : Sta) (k : Nat) : Str := joinS "\n" ("board " ++ toString C.taken) ((List.range k).map fun j => siteT (C.turns.getD j 0) (C.loads.getD j 0) (C.steps.getD j 0) (rows.getD j []))
theorem textT_next (rows : List (List Int)) (C : Sta) (k : Nat) : textT rows C (k + 1) = textT rows C k ++ "\n" ++ siteT (C.turns.getD k 0) (C.loads.getD k 0) (C.steps.getD k 0) (rows.getD k []) := by
  unfold textT
  rw [List.range_succ, List.map_append]
  exact joinS_push _ _ _ _
theorem site_line (t l s : Int) (row : List Int) : Txt.join " " (([toString t, toString l, toString s, ">"] : List Str) ++ row.map exS) = siteT t l s row := by
  show Txt.join " " ((toString t : Str) :: (([toString l, toString s, ">"] : List Str) ++ row.map exS)) = _
  rw [join_cons]
  unfold siteT siteH joinS
  rw [List.foldl_append]
theorem ts_len : ∀ n : Nat, n < 100 → (toString (n : Int) : Str).length ≤ 2 := by decide +kernel
theorem ts_len2 {i : Int} (h0 : 0 ≤ i) (h1 : i < 100) : (toString i : Str).length ≤ 2 := by
  have := ts_len i.toNat (by omega)
  rw [show ((i.toNat : Nat) : Int) = i by omega] at this
  exact this
theorem ts_len' {i : Int} (h0 : 0 ≤ i) (h1 : i < 100000000000000000000) : (toString i : Str).length ≤ 20 := by
  obtain ⟨n, rfl⟩ : ∃ n : Nat, i = n := ⟨i.toNat, by omega⟩
  have e : (toString (n : Int) : Str).cps.toList = TL.numL n := TL.tl_num n
  have l : (toString (n : Int) : Str).length = (toString (n : Int) : Str).cps.toList.length := TL.len_tl _
  rw [l, e]
  exact TL.numL_len (n := n) (k := 20) (by decide) (by omega)
theorem lenA (a b : Str) : (a ++ b).length = a.length + b.length := PySem.Str.length_append a b
theorem exS_len {g : Int} (h0 : -1 ≤ g) (h1 : g < 100) : (exS g).length ≤ 3 := by
  unfold exS
  split
  · decide +kernel
  · have := ts_len2 (i := g) (by omega) h1
    omega
theorem joinS_len {sep : Str} {b : Nat} : ∀ (xs : List Str) (x : Str), (∀ y, y ∈ xs → y.length ≤ b) → (joinS sep x xs).length ≤ x.length + xs.length * (sep.length + b)
  | [], x, _ => by show x.length ≤ _; omega
  | y :: ys, x, h => by
    have ih := joinS_len (sep := sep) ys (x ++ sep ++ y) fun z hz => h z (by simp [hz])
    have hy := h y (by simp)
    rw [lenA, lenA] at ih
    show (joinS sep (x ++ sep ++ y) ys).length ≤ _
    rw [List.length_cons, Nat.add_mul, Nat.one_mul]
    omega
structure Small (rows : List (List Int)) (C : Sta) : Prop where
  t : ∀ k, k < rows.length → 0 ≤ C.turns.getD k 0 ∧ C.turns.getD k 0 < 100000000000000000000
  l : ∀ k, k < rows.length → 0 ≤ C.loads.getD k 0 ∧ C.loads.getD k 0 < 100000000000000000000
  s : ∀ k, k < rows.length → 0 ≤ C.steps.getD k 0 ∧ C.steps.getD k 0 < 100000000000000000000
  n : 0 ≤ C.taken ∧ C.taken < 100000000000000000000
theorem siteH_len {t l s : Int} (ht : 0 ≤ t ∧ t < 100000000000000000000) (hl : 0 ≤ l ∧ l < 100000000000000000000) (hs : 0 ≤ s ∧ s < 100000000000000000000) : (siteH t l s).length ≤ 64 := by
  have a := ts_len' ht.1 ht.2
  have b := ts_len' hl.1 hl.2
  have c := ts_len' hs.1 hs.2
  show ((toString t : Str) ++ " " ++ (toString l : Str) ++ " " ++ (toString s : Str) ++ " " ++ (">" : Str)).length ≤ 64
  rw [lenA, lenA, lenA, lenA, lenA, lenA]
  have e1 : (" " : Str).length = 1 := by decide +kernel
  have e2 : (">" : Str).length = 1 := by decide +kernel
  omega
theorem siteT_len {t l s : Int} {row : List Int} (ht : 0 ≤ t ∧ t < 100000000000000000000) (hl : 0 ≤ l ∧ l < 100000000000000000000) (hs : 0 ≤ s ∧ s < 100000000000000000000) (hr : row.length ≤ 8) (hg : ∀ g, g ∈ row → -1 ≤ g ∧ g < 100) : (siteT t l s row).length ≤ 96 := by
  have a := siteH_len ht hl hs
  have b := joinS_len (sep := " ") (b := 3) (row.map exS) (siteH t l s) fun y hy => by
    obtain ⟨g, hg1, rfl⟩ := List.mem_map.mp hy
    exact exS_len (hg g hg1).1 (hg g hg1).2
  have e1 : (" " : Str).length = 1 := by decide +kernel
  rw [e1, List.length_map] at b
  unfold siteT
  omega
theorem head_len {n : Int} (h : 0 ≤ n ∧ n < 100000000000000000000) : (("board " : Str) ++ (toString n : Str)).length ≤ 26 := by
  have := ts_len' h.1 h.2
  have e : ("board " : Str).length = 6 := by decide +kernel
  rw [lenA, e]
  omega
theorem textT_len {rows : List (List Int)} {C : Sta} (ok : OkRows rows) (sm : Small rows C) : ∀ k, k ≤ rows.length → (textT rows C k).length ≤ 26 + 97 * k
  | 0, _ => head_len sm.n
  | k + 1, h => by
    have ih := textT_len ok sm k (by omega)
    have hk : k < rows.length := by omega
    have s := siteT_len (row := rows.getD k []) (sm.t k hk) (sm.l k hk) (sm.s k hk) (ok.row hk).2.1 fun g hg => by
      have := (ok.row hk).2.2 g hg
      have := ok.2.1
      omega
    have e1 : ("\n" : Str).length = 1 := by decide +kernel
    rw [textT_next, lenA, lenA, e1]
    omega
theorem sum_len : ∀ (ys : List Str) (b : Nat), (∀ y, y ∈ ys → y.length ≤ b) → (ys.map (·.length)).sum ≤ ys.length * b
  | [], b, _ => by show 0 ≤ _; omega
  | y :: ys, b, h => by
    have ih := sum_len ys b fun z hz => h z (by simp [hz])
    have hy := h y (by simp)
    rw [List.map_cons, List.sum_cons, List.length_cons, Nat.add_mul, Nat.one_mul]
    omega
theorem g_ext {K : PySem.W.Frag} {B H : Hp} {Q : VK} {L : List (Addr × HO)} (led : Led B L H) (j : Nat) {p b : Addr} {xs zs : List V} (e : L[j]? = some (p, .lst xs)) (e2 : H b = some (.lst zs)) (hl : xs.length + zs.length ≤ 100000) (q : ∀ H', Led B (L.set j (p, .lst (xs ++ zs))) H' → Q .non H') :
    rExtend (.ref p) [.ref b] H Q := ⟨p, b, xs, zs, rfl, rfl, led.get j e, e2, Nat.le_trans hl (by decide), q _ (led.set e _)⟩
/-- texts of a list of ints -/
theorem lcIS {K : PySem.W.Frag} {σ : L2.St} {H : Hp} {Q : VK} {te : TE} {i : Nat} {vs : List Nat} {a : Addr} {ns : List Int} (f : Int → Str) (hn : ns.length ≤ 100000) (s : SqL K H a (ns.map V.int)) (hw : ∀ x : V, wipe ((wipe σ vs).set i (some x)) vs = wipe σ vs)
    (hs : ∀ k H1 (R : VK), k < ns.length → Same H H1 → R (.str (f (ns.getD k 0))) H1 → te ((wipe σ vs).set i (some (.int (ns.getD k 0)))) H1 R)
    (hd : ∀ D H1, H D = none → Same H H1 → H1 D = some (slst (ns.map f)) → Q (.ref D) H1) : LcL K a i tYes te vs σ H Q := by
  refine lcL (xs := ns.map V.int) (fun D k H1 => Led H [(D, slst ((ns.take k).map f))] H1) (fun D nD => (Led.nil H).alloc nD _) (fun D k H1 _ l => l.base s) hw ?_ ?_
  · intro D k x H1 nD hx l
    have hk : k < ns.length := by
      have := (List.getElem?_eq_some_iff.mp hx).1
      simpa using this
    have e : x = .int (ns.getD k 0) := by
      rw [List.getElem?_map, List.getElem?_eq_getElem hk] at hx
      rw [List.getD_eq_getElem?_getD, List.getElem?_eq_getElem hk]
      exact (Option.some.inj hx).symm
    rw [e]
    refine hs k H1 _ hk l.same ⟨((ns.take k).map f).map V.str, l.get 0 rfl, ?_, ?_⟩
    · rw [List.length_map, List.length_map, List.length_take]
      exact Nat.lt_of_lt_of_le (show min k ns.length < 100000 by omega) (by decide)
    · have z := l.set (i := 0) rfl (.lst (((ns.take k).map f).map V.str ++ [V.str (f (ns.getD k 0))]))
      have e2 : slst ((ns.take (k + 1)).map f) = .lst (((ns.take k).map f).map V.str ++ [V.str (f (ns.getD k 0))]) := by
        have tk1 : ns.take (k + 1) = ns.take k ++ [ns.getD k 0] := by
          rw [List.take_add_one, List.getD_eq_getElem?_getD, List.getElem?_eq_getElem hk]
          rfl
        rw [slst, tk1, List.map_append, List.map_append]
        rfl
      rw [e2]
      exact z
  · intro D H1 nD l
    rw [List.length_map, List.take_length] at l
    exact hd D H1 nD l.same (l.get 0 rfl)
def linesT (rows : List (List Int)) (C : Sta) (k : Nat) : List Str := ("board " ++ toString C.taken) :: (List.range k).map fun j => siteT (C.turns.getD j 0) (C.loads.getD j 0) (C.steps.getD j 0) (rows.getD j [])
theorem linesT_len (rows : List (List Int)) (C : Sta) (k : Nat) : (linesT rows C k).length = k + 1 := by
  unfold linesT
  rw [List.length_cons, List.length_map, List.length_range]
theorem linesT_next (rows : List (List Int)) (C : Sta) (k : Nat) : linesT rows C (k + 1) = linesT rows C k ++ [siteT (C.turns.getD k 0) (C.loads.getD k 0) (C.steps.getD k 0) (rows.getD k [])] := by
  unfold linesT
  rw [List.range_succ, List.map_append]
  rfl
theorem linesT_join (rows : List (List Int)) (C : Sta) (k : Nat) : Txt.join "\n" (linesT rows C k) = textT rows C k := join_cons _ _ _
theorem linesT_short {rows : List (List Int)} {C : Sta} (ok : OkRows rows) (sm : Small rows C) : ∀ y, y ∈ linesT rows C rows.length → y.length ≤ 96 := fun y hy => by
  unfold linesT at hy
  rcases List.mem_cons.mp hy with rfl | hy
  · have := head_len sm.n
    omega
  · obtain ⟨k, hk, rfl⟩ := List.mem_map.mp hy
    have hk : k < rows.length := List.mem_range.mp hk
    refine siteT_len (sm.t k hk) (sm.l k hk) (sm.s k hk) (ok.row hk).2.1 fun g hg => ?_
    have := (ok.row hk).2.2 g hg
    have := ok.2.1
    omega

/-! Words and numbers read -/
def tSplit (_ : PySem.W.Frag) (to te : TE) : TE := tM1 (fun x xs H Q => ∃ a b, x = .str a ∧ xs = [.str b] ∧ (b.length == 0) = false ∧ a.length + 2 ≤ sizeLine ∧ rNewStrs (Txt.split a b) H Q) to te
def mIntS : List V → Hp → VK → Prop := fun xs H Q => ∃ a n, xs = [.str a] ∧ PySem.intText? a = some n ∧ a.length ≤ 640 ∧ Q (.int n) H
section
variable {K : PySem.W.Frag} {H : Hp} {Q : VK} {σ : L2.St} {i : Nat} {tb : TS} {D : Ends}
theorem g_lenS {z : Str} (hl : z.length ≤ 100000) (h : Q (.int z.length) H) : mLenS [.str z] H Q := ⟨z, rfl, Nat.le_trans hl (by decide), h⟩
theorem g_ixS {z : Str} {i : Int} {c : Nat} (hl : z.length ≤ 100000) (h0 : 0 ≤ i) (e : z.cps.toList[i.toNat]? = some c) (h : Q (.str ⟨#[c]⟩) H) : rIxS (.str z) (.int i) H Q :=
  ⟨z, i, c, rfl, rfl, Nat.le_trans hl (by decide), by
    have hk : i.toNat < z.cps.toList.length := (List.getElem?_eq_some_iff.mp e).1
    unfold atI
    rw [ixN_of h0 (by omega)]
    exact e, h⟩
theorem g_intS {a : Str} {n : Int} (e : PySem.intText? a = some n) (hl : a.length ≤ 640) (h : Q (.int n) H) : mIntS [.str a] H Q := ⟨a, n, rfl, e, hl, h⟩
theorem g_split {to te : TE} (h : to σ H fun x H1 => (∃ a, x = .str a) ∧ te σ H1 fun y H2 => ∃ a b, x = .str a ∧ [y] = [.str b] ∧ (b.length == 0) = false ∧ a.length + 2 ≤ sizeLine ∧ rNewStrs (Txt.split a b) H2 Q) : tSplit K to te σ H Q := h
def LoopS (x : Str) (i : Nat) (tb : TS) (D : Ends) (σ : L2.St) (H : Hp) : Prop := ∃ W : Nat → Nat → L2.St → Hp → Prop, (∃ m, W 0 m σ H) ∧ ∀ k m σ H, W k m σ H →
  ((Its x).stop k H ∧ D.nx σ H) ∨ ((Its x).go k H ∧ ∃ N : L2.St → Hp → Prop, (∀ σ' H', N σ' H' → ∃ m', m' < m ∧ W (k + 1) m' σ' H') ∧ ∀ v H', (Its x).yld k H v H' → gName i v σ H' fun σ2 H2 => tb { D with nx := N, ct := N, bk := D.nx } σ2 H2)
theorem g_forS {te : TE} (h : te σ H fun v H1 => ∃ x, v = .str x ∧ LoopS x i tb D σ H1) : tFor (iStr te) (gName i) tb D σ H := h
theorem loopS {x : Str} (Pv : Nat → L2.St → Hp → Prop) (h0 : Pv 0 σ H)
    (hs : ∀ k c σ H, x.cps.toList[k]? = some c → Pv k σ H → tb { D with nx := Pv (k + 1), ct := Pv (k + 1), bk := D.nx } (σ.set i (some (.str ⟨#[c]⟩))) H) (hd : ∀ σ H, Pv x.cps.toList.length σ H → D.nx σ H) : LoopS x i tb D σ H := by
  have hsz : x.cps.toList.length = x.cps.size := Array.length_toList
  refine ⟨fun k m σ H => m = x.cps.size - k ∧ k ≤ x.cps.size ∧ Pv k σ H, ⟨_, rfl, Nat.zero_le _, h0⟩, ?_⟩
  rintro k m σ H ⟨rfl, hk, p⟩
  by_cases hlt : k < x.cps.size
  · refine .inr ⟨hlt, Pv (k + 1), fun σ' H' p' => ⟨x.cps.size - (k + 1), by omega, rfl, hlt, p'⟩, ?_⟩
    rintro v H' ⟨rfl, c, e, rfl⟩
    exact hs k c σ H' (by rw [← e]; exact Array.getElem?_toList) p
  · have e : k = x.cps.size := by omega
    refine .inl ⟨show x.cps.size ≤ k by omega, hd σ H ?_⟩
    rw [hsz, ← e]
    exact p
end
/-- a word that writes a number -/
def NumOk (w : Str) : Prop := w.cps.toList ≠ [] ∧ w.length ≤ 20 ∧ (w.cps.toList.head? = some 48 → w.length = 1) ∧ PySem.NumText.AllDigits w.cps.toList
def numOf (w : Str) : Int := (PySem.NumText.digitsVal w.cps.toList : Nat)
theorem len_cps (w : Str) : w.length = w.cps.toList.length := TL.len_tl w
theorem figs : ("0123456789" : Str).cps.toList = [48, 49, 50, 51, 52, 53, 54, 55, 56, 57] := by decide +kernel
theorem in_figs {c : Nat} : c ∈ ("0123456789" : Str).cps.toList ↔ 48 ≤ c ∧ c ≤ 57 := by
  rw [figs]
  simp only [List.mem_cons, List.not_mem_nil, or_false]
  omega
theorem empty_iff {w : Str} : w = "" ↔ w.cps.toList = [] := by
  constructor
  · rintro rfl
    decide +kernel
  · intro h
    exact TL.ext_tl (h.trans (by decide +kernel : [] = TL.tl ("" : Str)))
theorem zero_iff {c : Nat} : (⟨#[c]⟩ : Str) = "0" ↔ c = 48 := by
  have e : ("0" : Str) = ⟨#[48]⟩ := by decide +kernel
  rw [e]
  constructor
  · intro h
    have := congrArg (fun s : Str => s.cps.toList) h
    simpa using this
  · rintro rfl
    rfl
theorem NumOk.reads {w : Str} (h : NumOk w) : PySem.intText? w = some (numOf w) := PySem.intText_digits h.2.2.2 h.1 (by have := h.2.1; omega)
theorem num_cps {n : Nat} : (toString (n : Int) : Str).cps.toList = TL.numL n := TL.tl_num n
theorem num_head : ∀ n : Nat, n ≠ 0 → (TL.numL n).head? ≠ some 48 := fun n => by
  induction n using Nat.strongRecOn with
  | _ n ih =>
    intro h0
    by_cases h : n < 10
    · rw [TL.numL_lt h]
      intro e
      have := Option.some.inj e
      omega
    · have z := ih (n / 10) (by omega) (by omega)
      obtain ⟨c, cs, e⟩ := List.exists_cons_of_ne_nil (TL.numL_ne (n / 10))
      rw [TL.numL_step (by omega), e]
      rw [e] at z
      exact z
theorem num_ok {n : Nat} (h : n < 10 ^ 20) : NumOk (toString (n : Int)) ∧ numOf (toString (n : Int)) = n := by
  have hl := TL.numL_len (n := n) (k := 20) (by decide) h
  refine ⟨⟨?_, ?_, ?_, ?_⟩, ?_⟩
  · rw [num_cps]
    exact TL.numL_ne n
  · rw [len_cps, num_cps]
    exact hl
  · rw [len_cps, num_cps]
    intro z
    by_cases h0 : n = 0
    · subst h0
      rw [TL.numL_lt (by decide)]
      rfl
    · exact absurd z (num_head n h0)
  · rw [num_cps]
    exact TL.numL_digits n
  · unfold numOf
    rw [num_cps, TL.numL_val]
theorem num_free {n s : Nat} (h : s < 48 ∨ 57 < s) : s ∉ (toString (n : Int) : Str).cps.toList := by
  rw [num_cps]
  exact TL.numL_free h
theorem split1 {y : Str} {s : Nat} {S : List Nat} (ey : y.cps.toList = s :: S) (hk : y.cps.all (· < 256) = true) {parts : List Str} (hne : parts ≠ []) (hp : ∀ p ∈ parts, s ∉ p.cps.toList) : Txt.split (Txt.join y parts) y = parts := TL.split_join ey hk hne hp
theorem nl_cps : ("\n" : Str).cps.toList = [10] := by decide +kernel
theorem bl_cps : (" " : Str).cps.toList = [32] := by decide +kernel
theorem cps_app (a b : Str) : (a ++ b).cps.toList = a.cps.toList ++ b.cps.toList := TL.tl_append a b
theorem board_cps : ("board" : Str).cps.toList = [98, 111, 97, 114, 100] := by decide +kernel
theorem head_split (n : Nat) : Txt.split ("board " ++ (toString (n : Int) : Str)) " " = [("board" : Str), (toString (n : Int) : Str)] := by
  have e : ("board " ++ (toString (n : Int) : Str) : Str) = Txt.join " " [("board" : Str), (toString (n : Int) : Str)] := by
    rw [join_cons]
    show _ = "board" ++ " " ++ (toString (n : Int) : Str)
    have : ("board " : Str) = "board" ++ " " := by decide +kernel
    rw [this]
  rw [e]
  refine split1 bl_cps (by decide +kernel) (by simp) fun p hp => ?_
  simp only [List.mem_cons, List.not_mem_nil, or_false] at hp
  rcases hp with rfl | rfl
  · rw [board_cps]
    decide
  · exact num_free (by omega)
theorem head_line (n : Nat) : 10 ∉ ("board " ++ (toString (n : Int) : Str) : Str).cps.toList := by
  rw [cps_app]
  intro h
  rcases List.mem_append.mp h with h | h
  · have : ("board " : Str).cps.toList = [98, 111, 97, 114, 100, 32] := by decide +kernel
    rw [this] at h
    revert h
    decide
  · exact num_free (by omega) h

/-! Defs that raise where nothing is handled (context None); a def that is handed the caught error -/
section
open PySem.Spec PyProof.Rows
theorem passLN {X : Cx} : Passes (L2N.CX X.prog X.w) X E0 := fun _ _ _ _ _ _ _ c => by
  obtain ⟨_, _, _, _, _, _, _, _, _, _, _, _, f⟩ := c
  exact f.elim
/-- a def whose errors have no context -/
theorem okXN {P : Program} {w : World} {K : PySem.W.Frag} {mg : Str → Option Value} {base : Heap} {nm qual : Str} {st : Stmt} {f : Addr} {fd : FuncData} {N ps : List Str} {k : Nat} {sp : Sp} (F : Fun K nm qual st f fd) (S : FnScope N ps (defScope st))
    (len : ∀ vs H Q E, sp vs H Q E → vs.length = ps.length)
    (body : ∀ (cdv : Value) (A : Around) (outer : List Env) (s : Shared) (H : Hp) (vs : List V) (Q : VK) (E : XK), Room k (A.deeper (envOfC qual (defScope st) s.heap.objs.size f cdv)) → sp vs H Q E →
      ∃ t, PSs (cxOf (L2N.CX P w) P w K mg base N qual (defScope st) f cdv A outer s H E) (defBody st) t ∧ t { nx := fun _ H' => Q .non H', rt := Q } (start N vs) H) : FnOk P w K mg base (L2N.CX P w) (k + 1) f fd ps sp := by
  obtain ⟨_, _, _, _, _, _, cdv, _, _, rfl, look, code⟩ := F.ex
  exact fn_of look code S len fun A outer s H vs Q E room h => body cdv A outer s H vs Q E room h
/-- what a def promises that is handed the error p in a suite -/
structure FnP (P : Program) (w : World) (K : PySem.W.Frag) (mg : Str → Option Value) (base : Heap) (k : Nat) (f : Addr) (fd : FuncData) (ps : List Str) (sp : Addr × Obj → Sp) : Prop where
  len : ∀ p vs H Q E, sp p vs H Q E → vs.length = ps.length
  run : ∀ (p : Addr × Obj) (A : Around) (outer : List Env) (s : Shared) (H : Hp) (args : Args) (us : List Value) (vs : List V) (Q : VK), L2H.RoomH k A → (∃ xs, p.2.data = .fields xs) → L2H.PinOk outer H s p → Env0 P w K mg base A outer s H → BindsTo s fd args (ps.zip us) → Vals vs us →
    sp p vs H Q E0 → codeAny (model P w) A (.call (.ref f) args) (CR CX0 outer P w H s Q E0) s
theorem okP {P : Program} {w : World} {K : PySem.W.Frag} {mg : Str → Option Value} {base : Heap} {nm qual : Str} {st : Stmt} {f : Addr} {fd : FuncData} {N ps : List Str} {k : Nat} {sp : Addr × Obj → Sp} (F : Fun K nm qual st f fd) (S : FnScope N ps (defScope st))
    (len : ∀ p vs H Q E, sp p vs H Q E → vs.length = ps.length)
    (body : ∀ (cdv : Value) (p : Addr × Obj) (A : Around) (outer : List Env) (s : Shared) (H : Hp) (vs : List V) (Q : VK), (∃ xs, p.2.data = .fields xs) → L2H.RoomH k (A.deeper (envOfC qual (defScope st) s.heap.objs.size f cdv)) → sp p vs H Q E0 →
      ∃ t, PSs (L2H.cxH CX0 P w K mg base N qual (defScope st) f cdv A outer s H E0 p) (defBody st) t ∧ t { nx := fun _ H' => Q .non H', rt := Q } (start N vs) H) : FnP P w K mg base (k + 1) f fd ps sp := by
  obtain ⟨_, _, _, _, _, _, cdv, _, _, rfl, look, code⟩ := F.ex
  refine ⟨len, fun p A outer s H args us vs Q room hf pin e0 bind rel h => ?_⟩
  have inK : K.In s.heap := e0.mod.kin.keeps fun b o q => (e0.bs b o q).1
  have noL : s.heap.NoLimit := e0.mod.nolimit.keeps fun b o q => (e0.bs b o q).1
  have kinds : ∀ y ∈ ps.zip us, (defScope st).names.lookup y.1 = some .local ∨ ((defScope st).names.lookup y.1 = some .cell ∧ ((cellsFrom (s.heap.objs.size + 1) (defScope st).names []).lookup y.1).isSome = true) := by
    rintro ⟨n, v⟩ hy
    refine (S.par n (List.of_mem_zip hy).1).imp id fun c => ⟨c, ?_⟩
    exact PySem.W.cellsFrom_some _ _ _ (.inl c)
  refine codeAny_call_function room.depth (inK _ _ look) rfl S.co S.gen rfl (PySem.W.codeRec_of inK code) (bind _ _ _ _ (wpAny_newFunctionEnv_cells S.kind kinds fun env he s1 x => ?_))
  subst he
  obtain ⟨t, ht, go⟩ := body cdv p A outer s H vs Q hf (room.deeper _) h
  have inv := L2H.inv_startH (CX := CX0) (E := E0) S pin e0 (len p vs H Q E0 h) rel x
  refine ⟨noL.keeps x.toInCall.keep, codeAny_func (wpAny_mono (ht.run [] s1 (start N vs) H _ inv go) (fun fl s2 hs => ?_) fun _ _ hs => hs)⟩
  cases fl with
  | next =>
    obtain ⟨_, H2, J, q⟩ := hs
    exact ⟨V.non, H2, J.os, J.bare, J.base, J.hok, rfl, q⟩
  | ret u =>
    obtain ⟨v, _, H2, J, rv, q⟩ := hs
    exact ⟨v, H2, J.os, J.bare, J.base, J.hok, rv, q⟩
  | brk => exact hs.elim fun _ ⟨_, _, q⟩ => q.elim
  | cont => exact hs.elim fun _ ⟨_, _, q⟩ => q.elim
/-- the call of such a def, the error its one argument -/
def tCallP (sp : Addr × Obj → Sp) (a : Addr) (cls : Value) (d : Option Addr) (ta : TA) : TE := fun σ H Q => ta σ H fun vs H1 => vs = [V.ref a] ∧ ∀ p : Addr × Obj, vs = [.ref p.1] → Zc cls d p.2 → (∃ xs, p.2.data = .fields xs) → sp p vs H1 Q E0
theorem g_callP {sp : Addr × Obj → Sp} {a : Addr} {cls : Value} {d : Option Addr} {ta : TA} {σ : L2.St} {H : Hp} {Q : VK} (h : ta σ H fun vs H1 => vs = [V.ref a] ∧ ∀ p : Addr × Obj, vs = [.ref p.1] → Zc cls d p.2 → (∃ xs, p.2.data = .fields xs) → sp p vs H1 Q E0) : tCallP sp a cls d ta σ H Q := h
theorem pe_callP {X : Cx} {k : Nat} {f a : Addr} {oe : Obj} {pn : List (Addr × Obj)} {cls : Value} {d : Option Addr} {fd : FuncData} {ps : List Str} {sp : Addr × Obj → Sp} {x : Str} {q pos : Pos} {e : Expr} {t : TA} (F : FnP X.prog X.w X.K X.mg X.base k f fd ps sp) (room : L2H.RoomH k (X.A.mark (some (.ref a))))
    (hz : Zc cls d oe) (hf : ∃ xs, oe.data = .fields xs) (hg : Gl (X.suite a ((a, oe) :: pn)) x) (hm : X.mg x = some (.ref f)) (hk : PySem.W.keepIn X.K (.ref f) = true) (hb : Binds X.K fd ps []) (ha : PA (X.suite a ((a, oe) :: pn)) [e] t)
    (hdb : (x == ("__debug__" : Str)) = false := by decide) (he : starEach [e] X.env = [(false, eval e X.env)] := by rfl) :
    PE (X.suite a ((a, oe) :: pn)) (.Call (.Name x q) [e] [] pos) (tCallP sp a cls d t) := by
  refine ⟨fun pins s σ H Q I h => wpAny_Call_Name_kw (ld_glob I hg hm ?_ hdb)⟩
  refine PySem.W.callWith_K (h₀ := X.base) I.ok.mod.kin hk (thn (ha.run pos pins s σ H _ I h) fun us s1 ⟨vs, H1, J, rel, ev, go⟩ => ⟨J.kIn, ?_⟩) he rfl
  obtain ⟨xs, hx⟩ := hf
  have sp1 := go (a, oe) ev hz ⟨xs, hx⟩
  have len := F.len _ _ _ _ _ sp1
  have at_ := J.pin (a, oe) (List.mem_append_left _ List.mem_cons_self)
  have pin : L2H.PinOk X.stack H1 s1 (a, oe) := ⟨at_.1, at_.2.1, fun m => ?_, at_.2.2.2.2⟩
  · have b := hb s1 us J.kIn (by rw [List.append_nil, ← rel.length]; exact len)
    rw [List.append_nil] at b
    refine wpAny_call (codeAny_mono (F.run (a, oe) (X.A.mark (some (.ref a))) X.stack s1 H1 ⟨us, []⟩ us vs Q room ⟨xs, hx⟩ pin J.env0 b rel sp1) fun r s2 hr => ?_)
    match r, hr with
    | .ok (.ret u), hr => exact J.after hr
    | .error u, hr => exact hr.elim
  · rcases List.mem_cons.mp (J.stkSub a m) with z | z
    · exact at_.2.2.1 z
    · exact at_.2.2.2.1 z
theorem roomMark {k : Nat} {A : Around} {v : Option Value} (r : Room k A) : L2H.RoomH k (A.mark v) := ⟨r.dp, r.un⟩
/-- isinstance of the error that the def was handed -/
theorem call_isP {X : Cx} {p : Addr × Obj} (hp : p ∈ X.pn) (hf : ∃ xs, p.2.data = .fields xs) : CallR X (.builtin "isinstance") (rIsX X.K p.1 p.2.cls p.2.dict) := by
  rintro pins s σ H xs us Q I r ⟨D, e1, e2, C, c, cv, b, rfl, same, e, q⟩
  obtain ⟨x, ⟨oc, od, oda, osl⟩⟩ := p
  obtain ⟨fs, hv⟩ := hf
  dsimp only at e1 e2 hv
  subst e1 e2 hv
  match us, r with
  | [u1, u2], .cons r1 (.cons r2 .nil) =>
    obtain rfl : u1 = Value.ref x := r1
    obtain rfl := same _ r2
    have inst : PySem.W.InstAt s.heap x ⟨.ref D, none, .fields fs, osl⟩ D none := ⟨(I.pin _ (List.mem_append_left _ hp)).1, rfl, rfl, trivial⟩
    exact PySem.W.kia_one (PySem.W.handS_kitx_exc C.hg C.hk C.hs C.hd C.ha C.hn C.ht C.hm) I.kIn inst e (fun z => nomatch z) fun tk => ⟨.bl b, H, I.kept (t' := tk) fun _ _ z => z, rfl, q⟩
end
def clsAt (G : Ads) (j : Nat) : Addr := [G.NoPlace, G.NoSite, G.NoExit, G.NoMarble, G.TooMany, G.NotOpen, G.NotBare, G.NotTree, G.TooLong, G.NoBoard].getD j 0
def marks (j : Nat) : List Bool := (List.range 11).map fun k => decide (k = j) || decide (k = 10)

/-! == and != over lists of ints, of rows, over told words -/
section
variable {K : PySem.W.Frag} {H : Hp} {Q : VK}
theorem dp_all_int : ∀ ns : List Int, DpAll K H (ns.map V.int) (ns.map PyData.int)
  | [] => .nil
  | n :: ns => .cons (.int n) (dp_all_int ns)
theorem dp_ints {p : Addr} {ns : List Int} (s : SqL K H p (ns.map V.int)) : Dp K H (.ref p) (.list (ns.map PyData.int)) := .lst s (dp_all_int ns)
theorem dp_all_bl : ∀ ns : List Bool, DpAll K H (ns.map V.bl) (ns.map PyData.bool)
  | [] => .nil
  | n :: ns => .cons (.bl n) (dp_all_bl ns)
theorem dp_bls {p : Addr} {ns : List Bool} (s : SqL K H p (ns.map V.bl)) : Dp K H (.ref p) (.list (ns.map PyData.bool)) := .lst s (dp_all_bl ns)
theorem dp_rows {p : Addr} {rows : List (List Int)} (R : RowsAt H p rows) : Dp K H (.ref p) (.list (rows.map fun r => .list (r.map PyData.int))) := by
  obtain ⟨as, e1, e2, e3⟩ := R
  refine .lst (SqL.of e1) ?_
  have gen : ∀ (as : List Addr) (rows : List (List Int)), as.length = rows.length → (∀ (i : Nat) (r : Addr) (row : List Int), as[i]? = some r → rows[i]? = some row → H r = some (ilst row)) → DpAll K H (as.map V.ref) (rows.map fun r => .list (r.map PyData.int)) := by
    intro as
    induction as with
    | nil =>
      intro rows hl _
      cases rows with
      | nil => exact .nil
      | cons r rs => simp at hl
    | cons a as ih =>
      intro rows hl h
      cases rows with
      | nil => simp at hl
      | cons r rs => exact .cons (dp_ints (SqL.of (h 0 a r rfl rfl))) (ih rs (by simpa using hl) fun i b row h1 h2 => h (i + 1) b row h1 h2)
  exact gen as rows e2 e3
theorem lay_ints : ∀ ns : List Int, PyData.canLayAll0 (ns.map PyData.int) = true
  | [] => by simp [PyData.canLayAll0]
  | n :: ns => by
    rw [List.map_cons, PyData.canLayAll0, lay_ints ns]
    simp [PyData.canLay0]
theorem lay_bls : ∀ ns : List Bool, PyData.canLayAll0 (ns.map PyData.bool) = true
  | [] => by simp [PyData.canLayAll0]
  | n :: ns => by
    rw [List.map_cons, PyData.canLayAll0, lay_bls ns]
    simp [PyData.canLay0]
theorem lay_rows : ∀ rows : List (List Int), PyData.canLayAll0 (rows.map fun r => .list (r.map PyData.int)) = true
  | [] => by simp [PyData.canLayAll0]
  | r :: rs => by
    rw [List.map_cons, PyData.canLayAll0, lay_rows rs, PyData.canLay0, lay_ints r]
    rfl
theorem deep_ints : ∀ ns : List Int, PyData.depthAll (ns.map PyData.int) = 0
  | [] => by simp [PyData.depthAll]
  | n :: ns => by
    rw [List.map_cons, PyData.depthAll, deep_ints ns]
    simp [PyData.depth]
theorem deep_bls : ∀ ns : List Bool, PyData.depthAll (ns.map PyData.bool) = 0
  | [] => by simp [PyData.depthAll]
  | n :: ns => by
    rw [List.map_cons, PyData.depthAll, deep_bls ns]
    simp [PyData.depth]
theorem deep_rows : ∀ rows : List (List Int), PyData.depthAll (rows.map fun r => .list (r.map PyData.int)) ≤ 1
  | [] => by simp [PyData.depthAll]
  | r :: rs => by
    rw [List.map_cons, PyData.depthAll, PyData.depth, deep_ints r]
    exact Nat.max_le.mpr ⟨Nat.le_refl _, deep_rows rs⟩
theorem sh_ints (ns : List Int) : SeqAt.shaped (.list (ns.map PyData.int)) = true := by
  unfold SeqAt.shaped
  rw [PyData.canLay0, lay_ints, PyData.depth, deep_ints]
  rfl
theorem sh_bls (ns : List Bool) : SeqAt.shaped (.list (ns.map PyData.bool)) = true := by
  unfold SeqAt.shaped
  rw [PyData.canLay0, lay_bls, PyData.depth, deep_bls]
  rfl
theorem sh_rows (rows : List (List Int)) : SeqAt.shaped (.list (rows.map fun r => .list (r.map PyData.int))) = true := by
  unfold SeqAt.shaped
  rw [PyData.canLay0, lay_rows, PyData.depth]
  have := deep_rows rows
  rw [decide_eq_true (by omega)]
  rfl
theorem eqv_ints : ∀ ns ms : List Int, PyData.eqvAll (ns.map PyData.int) (ms.map PyData.int) = decide (ns = ms)
  | [], [] => by simp [PyData.eqvAll]
  | [], _ :: _ => by simp [PyData.eqvAll]
  | _ :: _, [] => by simp [PyData.eqvAll]
  | n :: ns, m :: ms => by
    rw [List.map_cons, List.map_cons, PyData.eqvAll, eqv_ints ns ms, PyData.eqv]
    by_cases e : n = m <;> simp [e]
theorem eqv_bls : ∀ ns ms : List Bool, PyData.eqvAll (ns.map PyData.bool) (ms.map PyData.bool) = decide (ns = ms)
  | [], [] => by simp [PyData.eqvAll]
  | [], _ :: _ => by simp [PyData.eqvAll]
  | _ :: _, [] => by simp [PyData.eqvAll]
  | n :: ns, m :: ms => by
    rw [List.map_cons, List.map_cons, PyData.eqvAll, eqv_bls ns ms, PyData.eqv]
    by_cases e : n = m <;> simp [e]
theorem eqv_rows : ∀ ns ms : List (List Int), PyData.eqvAll (ns.map fun r => .list (r.map PyData.int)) (ms.map fun r => .list (r.map PyData.int)) = decide (ns = ms)
  | [], [] => by simp [PyData.eqvAll]
  | [], _ :: _ => by simp [PyData.eqvAll]
  | _ :: _, [] => by simp [PyData.eqvAll]
  | n :: ns, m :: ms => by
    rw [List.map_cons, List.map_cons, PyData.eqvAll, eqv_rows ns ms, PyData.eqv, eqv_ints]
    by_cases e : n = m <;> simp [e]
theorem g_neRows {p q : Addr} {r1 r2 : List (List Int)} (R1 : RowsAt H p r1) (R2 : RowsAt H q r2) (h : Q (.bl (!decide (r1 = r2))) H) : rNeD K (.ref p) (.ref q) H Q :=
  ⟨_, _, dp_rows R1, dp_rows R2, sh_rows r1, sh_rows r2, by rw [PyData.eqv, eqv_rows]; exact h⟩
theorem g_eqRows {p q : Addr} {r1 r2 : List (List Int)} (R1 : RowsAt H p r1) (R2 : RowsAt H q r2) (h : Q (.bl (decide (r1 = r2))) H) : rEqD K (.ref p) (.ref q) H Q :=
  ⟨_, _, dp_rows R1, dp_rows R2, sh_rows r1, sh_rows r2, by rw [PyData.eqv, eqv_rows]; exact h⟩
theorem g_neInts {p q : Addr} {r1 r2 : List Int} (R1 : SqL K H p (r1.map V.int)) (R2 : SqL K H q (r2.map V.int)) (h : Q (.bl (!decide (r1 = r2))) H) : rNeD K (.ref p) (.ref q) H Q :=
  ⟨_, _, dp_ints R1, dp_ints R2, sh_ints r1, sh_ints r2, by rw [PyData.eqv, eqv_ints]; exact h⟩
theorem g_eqInts {p q : Addr} {r1 r2 : List Int} (R1 : SqL K H p (r1.map V.int)) (R2 : SqL K H q (r2.map V.int)) (h : Q (.bl (decide (r1 = r2))) H) : rEqD K (.ref p) (.ref q) H Q :=
  ⟨_, _, dp_ints R1, dp_ints R2, sh_ints r1, sh_ints r2, by rw [PyData.eqv, eqv_ints]; exact h⟩
theorem g_eqBls {p q : Addr} {r1 r2 : List Bool} (R1 : SqL K H p (r1.map V.bl)) (R2 : SqL K H q (r2.map V.bl)) (h : Q (.bl (decide (r1 = r2))) H) : rEqD K (.ref p) (.ref q) H Q :=
  ⟨_, _, dp_bls R1, dp_bls R2, sh_bls r1, sh_bls r2, by rw [PyData.eqv, eqv_bls]; exact h⟩
theorem g_neBls {p q : Addr} {r1 r2 : List Bool} (R1 : SqL K H p (r1.map V.bl)) (R2 : SqL K H q (r2.map V.bl)) (h : Q (.bl (!decide (r1 = r2))) H) : rNeD K (.ref p) (.ref q) H Q :=
  ⟨_, _, dp_bls R1, dp_bls R2, sh_bls r1, sh_bls r2, by rw [PyData.eqv, eqv_bls]; exact h⟩
end
/-! ### (word, None) -/
section
variable {K : PySem.W.Frag} {H : Hp} {Q : VK} {σ : L2.St}
theorem g_tup {ta : TA} (h : ta σ H fun xs H1 => xs.length ≤ sizeLine ∧ ∀ p, H1 p = none → Q (.ref p) (upd H1 p (.tup xs))) : tTup ta σ H Q := h
theorem g_neWord {p q : Addr} {w : Str} (hw : PyData.strOk w = true) (e1 : H p = some (.tup [.str w, .non])) (e2 : H q = some (.tup [.str w, .non])) (h : Q (.bl false) H) : rNeD K (.ref p) (.ref q) H Q := by
  have d : ∀ p, H p = some (.tup [.str w, .non]) → Dp K H (.ref p) (.tuple [.str w, .none]) := fun p e => .tup (.inl (.inl e)) (.cons (.str w) (.cons .non .nil))
  have sh : SeqAt.shaped (.tuple [.str w, .none]) = true := by
    unfold SeqAt.shaped
    simp only [PyData.canLay0, PyData.canLayAll0, PyData.depth, PyData.depthAll]
    rw [hw]
    rfl
  refine ⟨_, _, d p e1, d q e2, sh, sh, ?_⟩
  have e : PyData.eqv (.tuple [.str w, .none]) (.tuple [.str w, .none]) = true := by
    simp [PyData.eqv, PyData.eqvAll]
  rw [e]
  exact h
end
theorem g_ixT {K : PySem.W.Frag} {H : Hp} {Q : VK} {p : Addr} {xs : List V} {i : Int} {v : V} (s : H p = some (.tup xs)) (h0 : 0 ≤ i) (e : xs[i.toNat]? = some v) (h : Q v H) : rIxT K (.ref p) (.int i) H Q :=
  ⟨p, xs, i, v, rfl, rfl, .inl (.inl s), at_of (j := i.toNat) (by omega) e, h⟩

@[irreducible] def sp_drawn (K : PySem.W.Frag) (_ : Ads) : Sp := fun vs H Q _ => ∃ (a : Addr) (ns : List Int) (k many : Int), vs = [.ref a, .int k, .int many] ∧ SqL K H a (ns.map V.int) ∧ 0 ≤ k ∧ k < 2147483648 ∧ 0 < many ∧
  ∀ d, 0 ≤ d → d < many → Q (.int d) H
theorem len_drawn {K : PySem.W.Frag} {G : Ads} {vs H Q E} (h : sp_drawn K G vs H Q E) : vs.length = 3 := by
  unfold sp_drawn at h
  obtain ⟨a, ns, k, many, rfl, _⟩ := h
  rfl
theorem c_drawn {K : PySem.W.Frag} {G : Ads} {H : Hp} {Q : VK} {E : XK} {a : Addr} {ns : List Int} {k many : Int} (s : SqL K H a (ns.map V.int)) (h0 : 0 ≤ k) (h1 : k < 2147483648) (h2 : 0 < many) (q : ∀ d, 0 ≤ d → d < many → Q (.int d) H) :
    sp_drawn K G [.ref a, .int k, .int many] H Q E := by
  unfold sp_drawn
  exact ⟨a, ns, k, many, rfl, s, h0, h1, h2, q⟩
def t_drawn_c2 (K : PySem.W.Frag) (G : Ads) (E : XK) : TS :=
  (tSeq (tAsg (tOp mAdd (tOp mAdd (tOp mMul (tVar 3) (tOp mAdd (tC (.int 48271)) (tOp mMul (tC (.int 9973)) (tOp mMod (tVar 1) (tC (.int 97)))))) (tOp mMul (tOp mMul (tOp mAdd (tVar 1) (tC (.int 1))) (tOp mAdd (tVar 1) (tC (.int 3)))) (tC (.int 16807)))) (tCB (mLen K) (tCons (tVar 0) tNil))) (gName 4))
    (tRet (tOp mMod (tOp mFdiv (tOp mMod (tVar 4) (tC (.int 2147483647))) (tC (.int 16))) (tVar 2))))
def t_drawn (K : PySem.W.Frag) (G : Ads) (E : XK) : TS :=
  (tSeq (tAsg (tC (.int 7)) (gName 3))
    (tSeq (tIfS (tTest (tOp mGt (tCB (mLen K) (tCons (tVar 0) tNil)) (tC (.int 0))))
    (tAsg (tOp (rIxL K) (tVar 0) (tOp mMod (tVar 1) (tCB (mLen K) (tCons (tVar 0) tNil)))) (gName 3))
    tNext)
    (t_drawn_c2 K G E)))
abbrev N_drawn : List Str := ["script", "k", "many", "cell", "mixed"]

theorem pure_drawn {K : PySem.W.Frag} {G : Ads} {vs H Q E} (h : sp_drawn K G vs H Q E) : t_drawn K G E { nx := fun _ H' => Q .non H', rt := Q } (start N_drawn vs) H := by
  unfold sp_drawn at h
  obtain ⟨a, ns, k, many, rfl, hS, hk, hk2, hm, q⟩ := h
  show t_drawn K G E _ [some (.ref a), some (.int k), some (.int many), none, none] H
  unfold t_drawn
  walk_at "g"
  have fin : ∀ c : Int, t_drawn_c2 K G E { nx := fun _ H' => Q .non H', rt := Q } [some (.ref a), some (.int k), some (.int many), some (.int c), none] H := fun c => by
    unfold t_drawn_c2
    walk_at "g"
    exact q _ (Int.emod_nonneg _ (by omega)) (Int.emod_lt_of_pos _ hm)
  refine ifP (fun h => ?_) (fun h => ?_)
  · walk_at "g"
    exact fin _
  · walk_at "g"
    exact fin _

@[irreducible] def sp_checked (_ : PySem.W.Frag) (G : Ads) : Sp := fun vs H Q E => ∃ (p : Addr) (rows : List (List Int)), vs = [.ref p] ∧ RowsAt H p rows ∧ rows.length ≤ 10000 ∧ (∀ row, row ∈ rows → row.length ≤ 10000) ∧
  ((rows.length < 1 ∨ 12 < rows.length) → E (.ref G.NoSite) none H) ∧ (1 ≤ rows.length → rows.length ≤ 12 → ¬ OkRows rows → E (.ref G.NoExit) none H) ∧
  (OkRows rows → ∀ (D : Addr) (H' : Hp), Same H H' → NewRows H H' D rows → Q (.ref D) H')
theorem len_checked {K : PySem.W.Frag} {G : Ads} {vs H Q E} (h : sp_checked K G vs H Q E) : vs.length = 1 := by
  unfold sp_checked at h
  obtain ⟨a, ns, rfl, _⟩ := h
  rfl
def t_checked (K : PySem.W.Frag) (G : Ads) (E : XK) : TS :=
  (tSeq (tIfS (tOr (tTest (tOp mLt (tCB (mLen K) (tCons (tVar 0) tNil)) (tC (.int 1)))) (tTest (tOp mGt (tCB (mLen K) (tCons (tVar 0) tNil)) (tC (.int 12)))))
    (tRaise E G.NoSite)
    tNext)
    (tSeq (tFor (iList K (tVar 0)) (gName 1)
    (tSeq (tIfS (tOr (tTest (tOp mLt (tCB (mLen K) (tCons (tVar 1) tNil)) (tC (.int 1)))) (tTest (tOp mGt (tCB (mLen K) (tCons (tVar 1) tNil)) (tC (.int 8)))))
    (tRaise E G.NoExit)
    tNext)
    (tFor (iList K (tVar 1)) (gName 2)
    (tIfS (tOr (tTest (tOp mLt (tVar 2) (tC (.int (-1))))) (tTest (tOp mGe (tVar 2) (tCB (mLen K) (tCons (tVar 0) tNil)))))
    (tRaise E G.NoExit)
    tNext))))
    (tRet (tLc (iList K (tVar 0)) (gName 1) tYes (tCB (mList K) (tCons (tVar 1) tNil)) [1]))))
abbrev N_checked : List Str := ["rows", "row", "gone"]

theorem pure_checked {K : PySem.W.Frag} {G : Ads} {vs H Q E} (h : sp_checked K G vs H Q E) : t_checked K G E { nx := fun _ H' => Q .non H', rt := Q } (start N_checked vs) H := by
  unfold sp_checked at h
  obtain ⟨p, rows, rfl, R, hn, hn2, q1, q2, q3⟩ := h
  show t_checked K G E _ [some (.ref p), none, none] H
  unfold t_checked
  walk_at "g"
  refine ifP (fun h => ?_) (fun h => ?_)
  · walk_at "g"
    exact q1 (.inl (by omega))
  walk_at "g"
  refine ifP (fun h2 => ?_) (fun h2 => ?_)
  · walk_at "g"
    exact q1 (.inr (by omega))
  walk_at "g"
  refine loopRows (fun k σ H' => ∃ v1 v2 : Option V, σ = [some (.ref p), v1, v2] ∧ H' = H ∧ ∀ j : Nat, j < k → OkRow rows.length (rows.getD j [])) ⟨_, _, rfl, rfl, fun j hj => by omega⟩ R (fun k σ H' ⟨_, _, _, e, _⟩ => by rw [e]; exact Same.refl H) ?_ ?_
  · rintro k r σ H' hk ⟨v1, v2, rfl, rfl, ok⟩ hr
    have hrl := hn2 _ (getD_mem (d := []) hk)
    walk_at "g"
    refine ifP (fun h => ?_) (fun h => ?_)
    · walk_at "g"
      exact q2 (by omega) (by omega) fun o => by have := (o.row hk).1; omega
    walk_at "g"
    refine ifP (fun h2 => ?_) (fun h2 => ?_)
    · walk_at "g"
      exact q2 (by omega) (by omega) fun o => by have := (o.row hk).2.1; omega
    walk_at "g"
    refine loopI (ns := rows.getD k []) (fun j σ H2 => ∃ v2 : Option V, σ = [some (.ref p), some (.ref r), v2] ∧ H2 = H' ∧ ∀ i : Nat, i < j → -1 ≤ (rows.getD k []).getD i 0 ∧ (rows.getD k []).getD i 0 < rows.length) ⟨_, rfl, rfl, fun i hi => by omega⟩ (fun j σ H2 _ ⟨_, _, e, _⟩ => by rw [e]; exact hr) ?_ ?_
    · rintro j σ H2 hj ⟨v2, rfl, rfl, ok2⟩
      walk_at "g"
      refine ifP (fun h => ?_) (fun h => ?_)
      · walk_at "g"
        exact q2 (by omega) (by omega) fun o => by have := o.exit hk hj; omega
      walk_at "g"
      refine ifP (fun h2 => ?_) (fun h2 => ?_)
      · walk_at "g"
        exact q2 (by omega) (by omega) fun o => by have := o.exit hk hj; omega
      walk_at "g"
      refine ⟨_, rfl, rfl, fun i hi => ?_⟩
      by_cases z : i = j
      · subst z
        omega
      · exact ok2 i (by omega)
    · rintro σ H2 ⟨v2, rfl, rfl, ok2⟩
      refine ⟨_, _, rfl, rfl, fun j hj => ?_⟩
      by_cases z : j = k
      · subst z
        refine ⟨by omega, by omega, fun g hg => ?_⟩
        obtain ⟨i, hi, rfl⟩ := List.getElem_of_mem hg
        have := ok2 i hi
        rw [List.getD_eq_getElem?_getD, List.getElem?_eq_getElem hi] at this
        exact this
      · exact ok j (by omega)
  · rintro σ H' ⟨v1, v2, rfl, rfl, ok⟩
    have okr : OkRows rows := ⟨by omega, by omega, fun row hr => by
      obtain ⟨j, hj, e⟩ := List.getElem_of_mem hr
      have := ok j hj
      rw [List.getD_eq_getElem?_getD, List.getElem?_eq_getElem hj] at this
      rw [← e]
      exact this⟩
    walk_at "g"
    exact lcCopy R (by omega) (fun _ => rfl) (fun _ => rfl) fun D H1 s n => q3 okr D H1 s n

/-- what __init__ leaves: the instance b filled, all else as it was -/
def InitBd (C : Addr) (H H' : Hp) (b dx r t l s : Addr) (rows : List (List Int)) : Prop := ∃ B1, (∀ q o, H q = some o → q ≠ b → B1 q = some o) ∧ NewRows H B1 r rows ∧
  Led B1 (bl C b dx r t l s (List.replicate rows.length 0) (List.replicate rows.length 0) (List.replicate rows.length 0) 0) H'
@[irreducible] def sp_Board_init (_ : PySem.W.Frag) (G : Ads) : Sp := fun vs H Q E => ∃ (b dx p : Addr) (rows : List (List Int)), vs = [.ref b, .ref p] ∧ H b = some (.ins G.Board dx []) ∧ RowsAt H p rows ∧ rows.length ≤ 10000 ∧ (∀ row, row ∈ rows → row.length ≤ 10000) ∧
  ((rows.length < 1 ∨ 12 < rows.length) → E (.ref G.NoSite) none H) ∧ (1 ≤ rows.length → rows.length ≤ 12 → ¬ OkRows rows → E (.ref G.NoExit) none H) ∧
  (OkRows rows → ∀ (r t l s : Addr) (H' : Hp), InitBd G.Board H H' b dx r t l s rows → Q .non H')
theorem len_Board_init {K : PySem.W.Frag} {G : Ads} {vs H Q E} (h : sp_Board_init K G vs H Q E) : vs.length = 2 := by
  unfold sp_Board_init at h
  obtain ⟨b, dx, p, rows, rfl, _⟩ := h
  rfl
/-- Board(rows) -/
theorem c_Board {K : PySem.W.Frag} {G : Ads} {H : Hp} {QB : Addr → Hp → Prop} {E : XK} {p : Addr} {rows : List (List Int)} (R : RowsAt H p rows) (hn : rows.length ≤ 10000) (hn2 : ∀ row, row ∈ rows → row.length ≤ 10000)
    (q1 : (rows.length < 1 ∨ 12 < rows.length) → ∀ H', Same H H' → E (.ref G.NoSite) none H') (q2 : 1 ≤ rows.length → rows.length ≤ 12 → ¬ OkRows rows → ∀ H', Same H H' → E (.ref G.NoExit) none H')
    (q3 : OkRows rows → ∀ (b dx r t l s : Addr) (H' : Hp), NewB G.Board H H' b dx r t l s rows (List.replicate rows.length 0) (List.replicate rows.length 0) (List.replicate rows.length 0) 0 → QB b H') :
    ∀ x dx, H x = none → H dx = none → dx ≠ x → sp_Board_init K G [.ref x, .ref p] (upd (upd H dx (.own x)) x (.ins G.Board dx [])) (fun v H2 => v = .non ∧ QB x H2) E := by
  intro b dx nb ndx ne
  have s0 : Same H (upd (upd H dx (.own b)) b (.ins G.Board dx [])) := fun q o e => by
    rw [upd_ne (ne_of_none e nb), upd_ne (ne_of_none e ndx)]
    exact e
  unfold sp_Board_init
  refine ⟨b, dx, p, rows, rfl, upd_same, R.mono s0, hn, hn2, fun h => q1 h _ s0, fun h1 h2 h3 => q2 h1 h2 h3 _ s0, fun ok r t l s H' I => ⟨rfl, q3 ok b dx r t l s H' ?_⟩⟩
  obtain ⟨B1, kp, nr, led⟩ := I
  exact ⟨B1, fun q o e => kp q o (s0 q o e) (ne_of_none e nb), nr.back s0, led⟩
def t_Board_init (K : PySem.W.Frag) (G : Ads) (E : XK) : TS :=
  (tSeq (sFld K (tVar 0) (tCall (sp_checked K G) [] E (tCons (tVar 1) tNil)) "rows")
    (tSeq (sFld K (tVar 0) (tLc (iList K (tVar 1)) (gName 2) tYes (tC (.int 0)) [2]) "turns")
    (tSeq (sFld K (tVar 0) (tLc (iList K (tVar 1)) (gName 2) tYes (tC (.int 0)) [2]) "loads")
    (tSeq (sFld K (tVar 0) (tLc (iList K (tVar 1)) (gName 2) tYes (tC (.int 0)) [2]) "steps")
    (sFld K (tVar 0) (tC (.int 0)) "taken")))))
abbrev N_Board_init : List Str := ["self", "rows", "row"]

theorem pure_Board_init {K : PySem.W.Frag} {G : Ads} {vs H Q E} (bd : BdOk K G) (h : sp_Board_init K G vs H Q E) : t_Board_init K G E { nx := fun _ H' => Q .non H', rt := Q } (start N_Board_init vs) H := by
  unfold sp_Board_init at h
  obtain ⟨b, dx, p, rows, rfl, hb, R, hn, hn2, q1, q2, q3⟩ := h
  show t_Board_init K G E _ [some (.ref b), some (.ref p), none] H
  unfold t_Board_init
  obtain ⟨B, led, keep⟩ := Led.one hb
  walk_at "g"
  unfold sp_checked
  refine ⟨p, rows, rfl, R, hn, hn2, q1, q2, fun ok r H1 s1 n1 => ?_⟩
  obtain ⟨B2, sB, nR, led2⟩ := led.rows s1 n1
  have R1 : RowsAt H1 p rows := R.mono s1
  walk_at "g"
  refine g_put led2 0 rfl bd.cl bd.n_rows (by show 0 < 1000; decide) rfl fun H2 led3 => ?_
  -- the rows that were handed in stand in the base, for they are lists
  have RB : RowsAt B2 p rows := by
    obtain ⟨as, e1, e2, e3⟩ := R
    refine ⟨as, sB _ _ (keep _ _ e1 (ne_of e1 hb (by intro z; cases z))), e2, fun i a row h1 h2 => sB _ _ (keep _ _ (e3 i a row h1 h2) (ne_of (e3 i a row h1 h2) hb (by intro z; cases z)))⟩
  have hlen : rows.length ≤ 100000 := by omega
  walk_at "g"
  refine lcRows0 (led3.ra RB) hlen (fun _ => rfl) fun t H3 nt st et => ?_
  have led4 := led3.add st nt et
  walk_at "g"
  refine g_put led4 0 rfl bd.cl bd.n_turns (by show 1 < 1000; decide) rfl fun H4 led5 => ?_
  walk_at "g"
  refine lcRows0 (led5.ra RB) hlen (fun _ => rfl) fun l H5 nl sl el => ?_
  have led6 := led5.add sl nl el
  walk_at "g"
  refine g_put led6 0 rfl bd.cl bd.n_loads (by show 2 < 1000; decide) rfl fun H6 led7 => ?_
  walk_at "g"
  refine lcRows0 (led7.ra RB) hlen (fun _ => rfl) fun s H7 ns ss es => ?_
  have led8 := led7.add ss ns es
  walk_at "g"
  refine g_put led8 0 rfl bd.cl bd.n_steps (by show 3 < 1000; decide) rfl fun H8 led9 => ?_
  walk_at "g"
  refine g_put led9 0 rfl bd.cl bd.n_taken (by show 4 < 1000; decide) bf_made fun H9 led10 => ?_
  walk_at "g"
  exact q3 ok r t l s H9 ⟨B2, fun q o e n => sB _ _ (keep q o e n), nR, led10⟩

@[irreducible] def sp_Board_has_site (_ : PySem.W.Frag) (G : Ads) : Sp := fun vs H Q _ => ∃ (b dx r t l s : Addr) (tk at_ : Int) (rows : List (List Int)), vs = [.ref b, .int at_] ∧ H b = some (.ins G.Board dx (bf r t l s tk)) ∧ RowsAt H r rows ∧
  Q (.bl (decide (0 ≤ at_ ∧ at_ < rows.length))) H
theorem len_Board_has_site {K : PySem.W.Frag} {G : Ads} {vs H Q E} (h : sp_Board_has_site K G vs H Q E) : vs.length = 2 := by
  unfold sp_Board_has_site at h
  obtain ⟨b, dx, r, t, l, s, tk, a, rows, rfl, _⟩ := h
  rfl
theorem c_has_site {K : PySem.W.Frag} {G : Ads} {H : Hp} {Q : VK} {E : XK} {b dx r t l s : Addr} {tk at_ : Int} {rows : List (List Int)} (e : H b = some (.ins G.Board dx (bf r t l s tk))) (R : RowsAt H r rows) (q : Q (.bl (decide (0 ≤ at_ ∧ at_ < rows.length))) H) :
    sp_Board_has_site K G [.ref b, .int at_] H Q E := by
  unfold sp_Board_has_site
  exact ⟨b, dx, r, t, l, s, tk, at_, rows, rfl, e, R, q⟩
def t_Board_has_site (K : PySem.W.Frag) (G : Ads) (E : XK) : TS :=
  (tRet (tAndV (tOp mLe (tC (.int 0)) (tVar 1)) (tOp mLt (tVar 1) (tCB (mLen K) (tCons (tFld K (tVar 0) "rows") tNil)))))
abbrev N_Board_has_site : List Str := ["self", "at"]

theorem pure_Board_has_site {K : PySem.W.Frag} {G : Ads} {vs H Q E} (bd : BdOk K G) (h : sp_Board_has_site K G vs H Q E) : t_Board_has_site K G E { nx := fun _ H' => Q .non H', rt := Q } (start N_Board_has_site vs) H := by
  unfold sp_Board_has_site at h
  obtain ⟨b, dx, r, t, l, s, tk, a, rows, rfl, e, R, q⟩ := h
  show t_Board_has_site K G E _ [some (.ref b), some (.int a)] H
  unfold t_Board_has_site
  walk_at "g"
  refine ifP (fun h => ?_) (fun h => ?_)
  · walk_at "g"
    refine g_bfld e bd.cl bd.n_rows bf_rows ?_
    walk_at "g"
    have e2 : decide (a < (rows.length : Int)) = decide (0 ≤ a ∧ a < rows.length) := decide_eq_decide.mpr ⟨fun z => ⟨h, z⟩, fun z => z.2⟩
    rw [e2]
    exact q
  · walk_at "g"
    have e2 : decide (0 ≤ a ∧ a < (rows.length : Int)) = false := decide_eq_false fun z => h z.1
    rw [e2] at q
    exact q

@[irreducible] def sp_Board_turn_to (_ : PySem.W.Frag) (G : Ads) : Sp := fun vs H Q E => ∃ (B : Hp) (L : List (Addr × HO)) (i : Nat) (b dx r t l s : Addr) (rows : List (List Int)) (turns loads steps : List Int) (taken at_ place : Int),
  vs = [.ref b, .int at_, .int place] ∧ Led B L H ∧ LB G.Board B L i b dx r t l s rows turns loads steps taken ∧ turns.length = rows.length ∧
  (¬ (0 ≤ at_ ∧ at_ < rows.length) → E (.ref G.NoSite) none H) ∧ (0 ≤ at_ → at_ < rows.length → ¬ (0 ≤ place ∧ place < (rows.getD at_.toNat []).length) → E (.ref G.NoPlace) none H) ∧
  (0 ≤ at_ → at_ < rows.length → 0 ≤ place → place < (rows.getD at_.toNat []).length → ∀ H', Led B (L.set (i + 1) (t, ilst (turns.set at_.toNat place))) H' → Q .non H')
theorem len_Board_turn_to {K : PySem.W.Frag} {G : Ads} {vs H Q E} (h : sp_Board_turn_to K G vs H Q E) : vs.length = 3 := by
  unfold sp_Board_turn_to at h
  obtain ⟨_, _, _, _, _, _, _, _, _, _, _, _, _, _, _, _, rfl, _⟩ := h
  rfl
theorem c_turn_to {K : PySem.W.Frag} {G : Ads} {H : Hp} {Q : VK} {E : XK} {B : Hp} {L : List (Addr × HO)} {i : Nat} {b dx r t l s : Addr} {rows : List (List Int)} {turns loads steps : List Int} {taken at_ place : Int}
    (led : Led B L H) (x : LB G.Board B L i b dx r t l s rows turns loads steps taken) (hl : turns.length = rows.length) (h0 : 0 ≤ at_) (h1 : at_ < rows.length) (h2 : 0 ≤ place) (h3 : place < (rows.getD at_.toNat []).length)
    (q : ∀ H', Led B (L.set (i + 1) (t, ilst (turns.set at_.toNat place))) H' → Q .non H') : sp_Board_turn_to K G [.ref b, .int at_, .int place] H Q E := by
  unfold sp_Board_turn_to
  exact ⟨B, L, i, b, dx, r, t, l, s, rows, turns, loads, steps, taken, at_, place, rfl, led, x, hl, fun h => absurd ⟨h0, h1⟩ h, fun _ _ h => absurd ⟨h2, h3⟩ h, fun _ _ _ _ => q⟩
def t_Board_turn_to (K : PySem.W.Frag) (G : Ads) (E : XK) : TS :=
  (tSeq (tIfS (tNot (tB (tMeth G.Board "has_site" (sp_Board_has_site K G) [] E0 (tVar 0) (tCons (tVar 1) tNil))))
    (tRaise E G.NoSite)
    tNext)
    (tSeq (tIfS (tOr (tTest (tOp mLt (tVar 2) (tC (.int 0)))) (tTest (tOp mGe (tVar 2) (tCB (mLen K) (tCons (tOp (rIxL K) (tFld K (tVar 0) "rows") (tVar 1)) tNil)))))
    (tRaise E G.NoPlace)
    tNext)
    (tAsg (tVar 2) (gSub (tFld K (tVar 0) "turns") (tVar 1) rSetL))))
abbrev N_Board_turn_to : List Str := ["self", "at", "place"]

theorem pure_Board_turn_to {K : PySem.W.Frag} {G : Ads} {vs H Q E} (bd : BdOk K G) (h : sp_Board_turn_to K G vs H Q E) : t_Board_turn_to K G E { nx := fun _ H' => Q .non H', rt := Q } (start N_Board_turn_to vs) H := by
  unfold sp_Board_turn_to at h
  obtain ⟨B, L, i, b, dx, r, t, l, s, rows, turns, loads, steps, taken, a, p, rfl, led, x, hl, q1, q2, q3⟩ := h
  show t_Board_turn_to K G E _ [some (.ref b), some (.int a), some (.int p)] H
  unfold t_Board_turn_to
  have X := led.bd x
  walk_at "g"
  refine g_self X.ins bm_has_site ?_
  walk_at "g"
  refine c_has_site X.ins X.rws ?_
  walk_at "g"
  refine ifN (fun h => ?_) (fun h => ?_)
  · walk_at "g"
    exact q1 h
  walk_at "g"
  refine ifP (fun h2 => ?_) (fun h2 => ?_)
  · walk_at "g"
    exact q2 h.1 h.2 (by omega)
  walk_at "g"
  refine g_bfld X.ins bd.cl bd.n_rows bf_rows ?_
  walk_at "g"
  refine g_row X.rws h.1 h.2 fun w hw => ?_
  walk_at "g"
  refine ifP (fun h3 => ?_) (fun h3 => ?_)
  · walk_at "g"
    exact q2 h.1 h.2 (by omega)
  walk_at "g"
  refine g_bfld X.ins bd.cl bd.n_turns bf_turns ?_
  walk_at "g"
  refine g_setL led (i + 1) x.tns h.1 (by omega) fun H' led' => ?_
  exact q3 h.1 h.2 (by omega) (by omega) H' led'

@[irreducible] def sp_step (_ : PySem.W.Frag) (G : Ads) : Sp := fun vs H Q E => ∃ (B : Hp) (L : List (Addr × HO)) (i : Nat) (b dx r t l s : Addr) (rows : List (List Int)) (S : Sta) (at_ : Int),
  vs = [.ref b, .int at_] ∧ Led B L H ∧ LB G.Board B L i b dx r t l s rows S.turns S.loads S.steps S.taken ∧ OkRows rows ∧ SOk rows S ∧
  (¬ (0 ≤ at_ ∧ at_ < rows.length) → E (.ref G.NoSite) none H) ∧ (0 ≤ at_ → at_ < rows.length → S.loads.getD at_.toNat 0 = 0 → E (.ref G.NoMarble) none H) ∧
  (0 ≤ at_ → at_ < rows.length → ¬ S.loads.getD at_.toNat 0 = 0 → ∀ H', Led B (setB L G.Board i b dx r t l s (stepS rows S at_.toNat).turns (stepS rows S at_.toNat).loads (stepS rows S at_.toNat).steps (stepS rows S at_.toNat).taken) H' → Q (.int (exitOf rows S.turns at_.toNat)) H')
theorem len_step {K : PySem.W.Frag} {G : Ads} {vs H Q E} (h : sp_step K G vs H Q E) : vs.length = 2 := by
  unfold sp_step at h
  obtain ⟨_, _, _, _, _, _, _, _, _, _, _, _, rfl, _⟩ := h
  rfl
theorem c_step {K : PySem.W.Frag} {G : Ads} {H : Hp} {Q : VK} {E : XK} {B : Hp} {L : List (Addr × HO)} {i : Nat} {b dx r t l s : Addr} {rows : List (List Int)} {S : Sta} {at_ : Int}
    (led : Led B L H) (x : LB G.Board B L i b dx r t l s rows S.turns S.loads S.steps S.taken) (ok : OkRows rows) (sk : SOk rows S) (h0 : 0 ≤ at_) (h1 : at_ < rows.length) (h2 : ¬ S.loads.getD at_.toNat 0 = 0)
    (q : ∀ H', Led B (setB L G.Board i b dx r t l s (stepS rows S at_.toNat).turns (stepS rows S at_.toNat).loads (stepS rows S at_.toNat).steps (stepS rows S at_.toNat).taken) H' → Q (.int (exitOf rows S.turns at_.toNat)) H') : sp_step K G [.ref b, .int at_] H Q E := by
  unfold sp_step
  exact ⟨B, L, i, b, dx, r, t, l, s, rows, S, at_, rfl, led, x, ok, sk, fun h => absurd ⟨h0, h1⟩ h, fun _ _ h => absurd h h2, fun _ _ _ => q⟩
def t_step_c5 (K : PySem.W.Frag) (G : Ads) (E : XK) : TS :=
  (tSeq (tAsg (tOp mMod (tOp mAdd (tOp (rIxL K) (tFld K (tVar 0) "turns") (tVar 1)) (tC (.int 1))) (tCB (mLen K) (tCons (tOp (rIxL K) (tFld K (tVar 0) "rows") (tVar 1)) tNil))) (gSub (tFld K (tVar 0) "turns") (tVar 1) rSetL))
    (tSeq (tAsg (tOp mAdd (tOp (rIxL K) (tFld K (tVar 0) "steps") (tVar 1)) (tC (.int 1))) (gSub (tFld K (tVar 0) "steps") (tVar 1) rSetL))
    (tRet (tVar 2))))
def t_step (K : PySem.W.Frag) (G : Ads) (E : XK) : TS :=
  (tSeq (tIfS (tNot (tB (tMeth G.Board "has_site" (sp_Board_has_site K G) [] E0 (tVar 0) (tCons (tVar 1) tNil))))
    (tRaise E G.NoSite)
    tNext)
    (tSeq (tIfS (tTest (tOp rEq (tOp (rIxL K) (tFld K (tVar 0) "loads") (tVar 1)) (tC (.int 0))))
    (tRaise E G.NoMarble)
    tNext)
    (tSeq (tAsg (tOp (rIxL K) (tOp (rIxL K) (tFld K (tVar 0) "rows") (tVar 1)) (tOp (rIxL K) (tFld K (tVar 0) "turns") (tVar 1))) (gName 2))
    (tSeq (tAsg (tOp mSub (tOp (rIxL K) (tFld K (tVar 0) "loads") (tVar 1)) (tC (.int 1))) (gSub (tFld K (tVar 0) "loads") (tVar 1) rSetL))
    (tSeq (tIfS (tTest (tOp rEq (tVar 2) (tC (.int (-1)))))
    (sFld K (tVar 0) (tOp mAdd (tFld K (tVar 0) "taken") (tC (.int 1))) "taken")
    (tAsg (tOp mAdd (tOp (rIxL K) (tFld K (tVar 0) "loads") (tVar 2)) (tC (.int 1))) (gSub (tFld K (tVar 0) "loads") (tVar 2) rSetL)))
    (t_step_c5 K G E))))))
abbrev N_step : List Str := ["board", "at", "gone"]

theorem pure_step {K : PySem.W.Frag} {G : Ads} {vs H Q E} (bd : BdOk K G) (h : sp_step K G vs H Q E) : t_step K G E { nx := fun _ H' => Q .non H', rt := Q } (start N_step vs) H := by
  unfold sp_step at h
  obtain ⟨B0, L0, i, b, dx, r, t, l, s, rows, S, a, rfl, led0, x, ok, sk, q1, q2, q3⟩ := h
  show t_step K G E _ [some (.ref b), some (.int a), none] H
  unfold t_step
  have X := led0.bd x
  obtain ⟨B, sB, hr, led, _, fin0⟩ := led0.focus x
  walk_at "g"
  refine g_self X.ins bm_has_site ?_
  walk_at "g"
  refine c_has_site X.ins X.rws ?_
  walk_at "g"
  refine ifN (fun h => ?_) (fun h => ?_)
  · walk_at "g"
    exact q1 h
  obtain ⟨h0, h1⟩ := h
  have hk : a.toNat < rows.length := by omega
  have tk := sk.tk.2 _ hk
  have lt := sk.tk.1
  have ll := sk.ll
  have ls := sk.ls
  obtain ⟨g, hg0⟩ : ∃ g, exitOf rows S.turns a.toNat = g := ⟨_, rfl⟩
  have gr := exitOf_range ok sk.tk hk
  rw [hg0] at gr
  have hg1 : (rows.getD a.toNat []).getD (S.turns.getD a.toNat 0).toNat 0 = g := hg0
  have hrow := ok.row hk
  walk_at "g"
  refine g_bfld X.ins bd.cl bd.n_loads bf_loads ?_
  walk_at "g"
  try refine g_ixI (led.sq 2 rfl) h0 (by omega) ?_
  walk_at "g"
  refine ifP (fun hz => ?_) (fun hz => ?_)
  · walk_at "g"
    exact q2 h0 h1 hz
  walk_at "g"
  refine g_bfld X.ins bd.cl bd.n_rows bf_rows ?_
  walk_at "g"
  refine g_row X.rws h0 h1 fun w hw => ?_
  refine g_tFld ?_
  walk_at "g"
  refine g_bfld X.ins bd.cl bd.n_turns bf_turns ?_
  walk_at "g"
  try refine g_ixI (led.sq 1 rfl) h0 (by omega) ?_
  try refine g_ixI hw tk.1 tk.2 ?_
  try walk_at "g"
  rw [hg1]
  refine g_bfld X.ins bd.cl bd.n_loads bf_loads ?_
  walk_at "g"
  try refine g_ixI (led.sq 2 rfl) h0 (by omega) ?_
  try walk_at "g"
  refine g_bfld X.ins bd.cl bd.n_loads bf_loads ?_
  walk_at "g"
  refine g_setL led 2 rfl h0 (by omega) fun H1 led1 => ?_
  have led1 : Led B (bl G.Board b dx r t l s S.turns (S.loads.set a.toNat (S.loads.getD a.toNat 0 - 1)) S.steps S.taken) H1 := led1
  have fin : ∀ (loads' : List Int) (tk' : Int) H', loads' = (stepS rows S a.toNat).loads → tk' = (stepS rows S a.toNat).taken → Led B (bl G.Board b dx r t l s S.turns loads' S.steps tk') H' →
      t_step_c5 K G E { nx := fun _ H' => Q .non H', rt := Q } [some (.ref b), some (.int a), some (.int g)] H' := fun loads' tk' H2 eL eT led2 => by
    unfold t_step_c5
    walk_at "g"
    refine g_bfld (led2.get 0 rfl) bd.cl bd.n_turns bf_turns ?_
    walk_at "g"
    try refine g_ixI (led2.sq 1 rfl) h0 (by omega) ?_
    walk_at "g"
    refine g_bfld (led2.get 0 rfl) bd.cl bd.n_rows bf_rows ?_
    walk_at "g"
    refine g_row (led2.ra hr) h0 h1 fun r2 hr2 => ?_
    walk_at "g"
    refine g_bfld (led2.get 0 rfl) bd.cl bd.n_turns bf_turns ?_
    walk_at "g"
    refine g_setL led2 1 rfl h0 (by omega) fun H3 led3 => ?_
    have led3 : Led B (bl G.Board b dx r t l s (stepS rows S a.toNat).turns loads' S.steps tk') H3 := led3
    walk_at "g"
    refine g_bfld (led3.get 0 rfl) bd.cl bd.n_steps bf_steps ?_
    walk_at "g"
    try refine g_ixI (led3.sq 3 rfl) h0 (by omega) ?_
    walk_at "g"
    refine g_bfld (led3.get 0 rfl) bd.cl bd.n_steps bf_steps ?_
    walk_at "g"
    refine g_setL led3 3 rfl h0 (by omega) fun H4 led4 => ?_
    have led4 : Led B (bl G.Board b dx r t l s (stepS rows S a.toNat).turns loads' (stepS rows S a.toNat).steps tk') H4 := led4
    rw [eL, eT] at led4
    walk_at "g"
    rw [hg0] at q3
    exact q3 h0 h1 hz H4 (fin0 _ _ _ _ _ _ _ _ led4)
  walk_at "g"
  have eL : (stepS rows S a.toNat).loads = gone g (S.loads.set a.toNat (S.loads.getD a.toNat 0 - 1)) := by
    show gone (exitOf _ _ _) _ = _
    rw [hg0]
  have eT : (stepS rows S a.toNat).taken = if g = -1 then S.taken + 1 else S.taken := by
    show (if exitOf _ _ _ = -1 then _ else _) = _
    rw [hg0]
  rw [eL, eT] at fin
  unfold gone at fin
  refine ifP (fun hg => ?_) (fun hg => ?_)
  · rw [if_pos hg, if_pos hg] at fin
    walk_at "g"
    refine g_bfld (led1.get 0 rfl) bd.cl bd.n_taken bf_taken ?_
    walk_at "g"
    refine g_put led1 0 rfl bd.cl bd.n_taken bf_len bf_ptaken fun H2 led2 => ?_
    exact fin _ _ H2 rfl rfl led2
  · rw [if_neg hg, if_neg hg] at fin
    walk_at "g"
    refine g_bfld (led1.get 0 rfl) bd.cl bd.n_loads bf_loads ?_
    walk_at "g"
    try refine g_ixI (led1.sq 2 rfl) (by omega) (by rw [List.length_set]; omega) ?_
    try walk_at "g"
    refine g_bfld (led1.get 0 rfl) bd.cl bd.n_loads bf_loads ?_
    walk_at "g"
    refine g_setL led1 2 rfl (by omega) (by rw [List.length_set]; omega) fun H2 led2 => ?_
    exact fin _ _ H2 rfl rfl led2

@[irreducible] def sp_Board_load (_ : PySem.W.Frag) (G : Ads) : Sp := fun vs H Q E => ∃ (B : Hp) (L : List (Addr × HO)) (i : Nat) (b dx r t l s : Addr) (rows : List (List Int)) (turns loads steps : List Int) (taken at_ many : Int),
  vs = [.ref b, .int at_, .int many] ∧ Led B L H ∧ LB G.Board B L i b dx r t l s rows turns loads steps taken ∧ loads.length = rows.length ∧
  (¬ (0 ≤ at_ ∧ at_ < rows.length) → E (.ref G.NoSite) none H) ∧ (0 ≤ at_ → at_ < rows.length → 400 < loads.sum + many → E (.ref G.TooMany) none H) ∧
  (0 ≤ at_ → at_ < rows.length → loads.sum + many ≤ 400 → ∀ H', Led B (L.set (i + 2) (l, ilst (loads.set at_.toNat (loads.getD at_.toNat 0 + many)))) H' → Q .non H')
theorem len_Board_load {K : PySem.W.Frag} {G : Ads} {vs H Q E} (h : sp_Board_load K G vs H Q E) : vs.length = 3 := by
  unfold sp_Board_load at h
  obtain ⟨_, _, _, _, _, _, _, _, _, _, _, _, _, _, _, _, rfl, _⟩ := h
  rfl
theorem c_load {K : PySem.W.Frag} {G : Ads} {H : Hp} {Q : VK} {E : XK} {B : Hp} {L : List (Addr × HO)} {i : Nat} {b dx r t l s : Addr} {rows : List (List Int)} {turns loads steps : List Int} {taken at_ many : Int}
    (led : Led B L H) (x : LB G.Board B L i b dx r t l s rows turns loads steps taken) (hl : loads.length = rows.length) (h0 : 0 ≤ at_) (h1 : at_ < rows.length) (h2 : loads.sum + many ≤ 400)
    (q : ∀ H', Led B (L.set (i + 2) (l, ilst (loads.set at_.toNat (loads.getD at_.toNat 0 + many)))) H' → Q .non H') : sp_Board_load K G [.ref b, .int at_, .int many] H Q E := by
  unfold sp_Board_load
  exact ⟨B, L, i, b, dx, r, t, l, s, rows, turns, loads, steps, taken, at_, many, rfl, led, x, hl, fun h => absurd ⟨h0, h1⟩ h, fun _ _ h => by omega, fun _ _ _ => q⟩
def t_Board_load (K : PySem.W.Frag) (G : Ads) (E : XK) : TS :=
  (tSeq (tIfS (tNot (tB (tMeth G.Board "has_site" (sp_Board_has_site K G) [] E0 (tVar 0) (tCons (tVar 1) tNil))))
    (tRaise E G.NoSite)
    tNext)
    (tSeq (tIfS (tTest (tOp mGt (tOp mAdd (tCB (rSum K) (tCons (tFld K (tVar 0) "loads") tNil)) (tVar 2)) (tC (.int 400))))
    (tRaise E G.TooMany)
    tNext)
    (tAsg (tOp mAdd (tOp (rIxL K) (tFld K (tVar 0) "loads") (tVar 1)) (tVar 2)) (gSub (tFld K (tVar 0) "loads") (tVar 1) rSetL))))
abbrev N_Board_load : List Str := ["self", "at", "many"]

theorem pure_Board_load {K : PySem.W.Frag} {G : Ads} {vs H Q E} (bd : BdOk K G) (h : sp_Board_load K G vs H Q E) : t_Board_load K G E { nx := fun _ H' => Q .non H', rt := Q } (start N_Board_load vs) H := by
  unfold sp_Board_load at h
  obtain ⟨B, L, i, b, dx, r, t, l, s, rows, turns, loads, steps, taken, a, p, rfl, led, x, hl, q1, q2, q3⟩ := h
  show t_Board_load K G E _ [some (.ref b), some (.int a), some (.int p)] H
  unfold t_Board_load
  have X := led.bd x
  walk_at "g"
  refine g_self X.ins bm_has_site ?_
  walk_at "g"
  refine c_has_site X.ins X.rws ?_
  walk_at "g"
  refine ifN (fun h => ?_) (fun h => ?_)
  · walk_at "g"
    exact q1 h
  walk_at "g"
  refine g_bfld X.ins bd.cl bd.n_loads bf_loads ?_
  have hS : SqL K H l (loads.map V.int) := SqL.of X.lds
  walk_at "g"
  refine ifP (fun h3 => ?_) (fun h3 => ?_)
  · walk_at "g"
    exact q2 h.1 h.2 h3
  walk_at "g"
  refine g_bfld X.ins bd.cl bd.n_loads bf_loads ?_
  walk_at "g"
  try refine g_ixI hS h.1 (by omega) ?_
  walk_at "g"
  refine g_bfld X.ins bd.cl bd.n_loads bf_loads ?_
  walk_at "g"
  refine g_setL led (i + 2) x.lds h.1 (by omega) fun H' led' => ?_
  exact q3 h.1 h.2 (by omega) H' led'

@[irreducible] def sp_reached (K : PySem.W.Frag) (_ : Ads) : Sp := fun vs H Q _ => ∃ (p : Addr) (rows : List (List Int)), vs = [.ref p] ∧ RowsAt H p rows ∧ rows.length ≤ 1000 ∧ (∀ k : Nat, k < rows.length → ∀ g, g ∈ rows.getD k [] → -1 ≤ g ∧ g < rows.length) ∧
  ∀ (D : Addr) (H' : Hp), H D = none → Same H H' → H' D = some (blst (reachL rows)) → Q (.ref D) H'
theorem len_reached {K : PySem.W.Frag} {G : Ads} {vs H Q E} (h : sp_reached K G vs H Q E) : vs.length = 1 := by
  unfold sp_reached at h
  obtain ⟨_, _, rfl, _⟩ := h
  rfl
theorem c_reached {K : PySem.W.Frag} {G : Ads} {H : Hp} {Q : VK} {E : XK} {p : Addr} {rows : List (List Int)} (R : RowsAt H p rows) (hn : rows.length ≤ 1000) (hg : ∀ k : Nat, k < rows.length → ∀ g, g ∈ rows.getD k [] → -1 ≤ g ∧ g < rows.length)
    (q : ∀ (D : Addr) (H' : Hp), H D = none → Same H H' → H' D = some (blst (reachL rows)) → Q (.ref D) H') : sp_reached K G [.ref p] H Q E := by
  unfold sp_reached
  exact ⟨p, rows, rfl, R, hn, hg, q⟩
def t_reached (K : PySem.W.Frag) (G : Ads) (E : XK) : TS :=
  (tSeq (tAsg (tLc (iList K (tVar 0)) (gName 5) tYes (tC (.bl false)) [5]) (gName 1))
    (tSeq (tFor (iRng1 (tCons (tCB (mLen K) (tCons (tVar 0) tNil)) tNil)) (gName 2)
    (tFor (iRng1 (tCons (tCB (mLen K) (tCons (tVar 0) tNil)) tNil)) (gName 3)
    (tFor (iList K (tOp (rIxL K) (tVar 0) (tVar 3))) (gName 4)
    (tIfS (tOr (tTest (tOp rEq (tVar 4) (tC (.int (-1))))) (tB (tOp (rIxL K) (tVar 1) (tVar 4))))
    (tAsg (tC (.bl true)) (gSub (tVar 1) (tVar 3) rSetL))
    tNext))))
    (tRet (tVar 1))))
abbrev N_reached : List Str := ["rows", "found", "lap", "at", "gone", "row"]

theorem pure_reached {K : PySem.W.Frag} {G : Ads} {vs H Q E} (h : sp_reached K G vs H Q E) : t_reached K G E { nx := fun _ H' => Q .non H', rt := Q } (start N_reached vs) H := by
  unfold sp_reached at h
  obtain ⟨p, rows, rfl, R, hn, hg, q⟩ := h
  show t_reached K G E _ [some (.ref p), none, none, none, none, none] H
  unfold t_reached
  walk_at "g"
  refine lcRowsV R (by omega) (fun _ => rfl) fun D H1 nD s1 e1 => ?_
  have e1' : H1 D = some (blst (List.replicate rows.length false)) := by rw [blst, List.map_replicate]; exact e1
  have led : Led H [(D, blst (List.replicate rows.length false))] H1 := (Led.nil H).add s1 nD e1'
  have z0 : Lap rows 0 0 (List.replicate rows.length false) := by
    have z : ∀ i, (List.replicate rows.length false).getD i false = false := fun i => by
      rw [List.getD_eq_getElem?_getD, List.getElem?_replicate]
      split <;> rfl
    refine ⟨by simp, fun k _ e => ?_, fun k r => r.zero.elim, fun k hk => by omega⟩
    rw [z] at e
    cases e
  walk_at "g"
  refine loopR (fun l σ H' => (∃ v2 v3 v4, σ = [some (.ref p), some (.ref D), v2, v3, v4, none]) ∧ ∃ bs, Lap rows l 0 bs ∧ Led H [(D, blst bs)] H') ⟨⟨_, _, _, rfl⟩, _, z0, led⟩ ?_ ?_
  · rintro l σ H' hl ⟨⟨v2, v3, v4, rfl⟩, bs, lap, led⟩
    show tFor _ _ _ _ [some (.ref p), some (.ref D), some (.int (0 + l)), v3, v4, none] H'
    walk_at "g"
    refine loopR (fun j σ H' => (∃ v3 v4, σ = [some (.ref p), some (.ref D), some (.int (0 + l)), v3, v4, none]) ∧ ∃ bs, Lap rows l j bs ∧ Led H [(D, blst bs)] H') ⟨⟨_, _, rfl⟩, _, lap, led⟩ ?_ ?_
    · rintro j σ H' hj ⟨⟨v3, v4, rfl⟩, bs, lap, led⟩
      have hj : j < rows.length := by simpa using hj
      have e0 : (0 + (j : Int)).toNat = j := by omega
      show tFor _ _ _ _ [some (.ref p), some (.ref D), some (.int (0 + l)), some (.int (0 + j)), v4, none] H'
      walk_at "g"
      refine g_rowB led.same R (by omega) (by omega) fun w hw => ?_
      rw [e0] at hw
      have hwH := led.same.seq hw
      walk_at "g"
      refine loopI (ns := rows.getD j []) (fun i σ H' => (∃ v4, σ = [some (.ref p), some (.ref D), some (.int (0 + l)), some (.int (0 + j)), v4, none]) ∧ ∃ bs, Lap rows l j bs ∧ (∀ g, g ∈ (rows.getD j []).take i → (g = -1 ∨ ∃ t : Nat, g = t ∧ Rch rows l t) → bs.getD j false = true) ∧ Led H [(D, blst bs)] H')
        ⟨⟨_, rfl⟩, bs, lap, fun g hg => by simp at hg, led⟩ (fun i σ H' _ ⟨_, bs, _, _, led⟩ => led.base hw) ?_ ?_
      · rintro i σ H' hi ⟨⟨v4, rfl⟩, bs, lap, hall, led⟩
        have hgi := hg j hj _ (getD_mem (d := 0) hi)
        have hmem : (rows.getD j []).getD i 0 ∈ rows.getD j [] := getD_mem hi
        have tk := take_getD (d := (0 : Int)) hi
        generalize (rows.getD j []).getD i 0 = g at hgi hmem tk
        have yes : Reached rows j → ∀ H2, Led H [(D, blst (bs.set j true))] H2 → ∃ bs, Lap rows l j bs ∧ (∀ g, g ∈ (rows.getD j []).take (i + 1) → (g = -1 ∨ ∃ t : Nat, g = t ∧ Rch rows l t) → bs.getD j false = true) ∧ Led H [(D, blst bs)] H2 := fun hr H2 l2 =>
          ⟨_, lap.put hj hr, fun g _ _ => by rw [getD_set (by rw [lap.len]; exact hj), if_pos rfl], l2⟩
        show tIfS _ _ _ _ [some (.ref p), some (.ref D), some (.int (0 + l)), some (.int (0 + j)), some (.int g), none] H'
        walk_at "g"
        refine ifP (fun h1 => ?_) (fun h1 => ?_)
        · walk_at "g"
          refine g_setBl led 0 rfl (by omega) (by have := lap.len; omega) fun H2 l2 => ?_
          rw [e0] at l2
          exact ⟨⟨_, rfl⟩, yes ⟨1, .pit hj (by rw [← h1]; exact hmem)⟩ H2 l2⟩
        · walk_at "g"
          refine g_ixB (led.sq 0 rfl) (by omega) (by have := lap.len; omega) ?_
          walk_at "g"
          refine ifC (fun h2 => ?_) (fun h2 => ?_)
          · walk_at "g"
            refine g_setBl led 0 rfl (by omega) (by have := lap.len; omega) fun H2 l2 => ?_
            rw [e0] at l2
            obtain ⟨m, r⟩ := lap.sound g.toNat (by omega) h2
            exact ⟨⟨_, rfl⟩, yes ⟨m + 1, .via hj (by rw [show ((g.toNat : Nat) : Int) = g by omega]; exact hmem) r⟩ H2 l2⟩
          · walk_at "g"
            refine ⟨⟨_, rfl⟩, bs, lap, fun g' hg' h3 => ?_, led⟩
            rw [tk] at hg'
            rcases List.mem_append.mp hg' with hg' | hg'
            · exact hall g' hg' h3
            · simp at hg'
              subst hg'
              rcases h3 with h3 | ⟨t, h3, r⟩
              · exact absurd h3 h1
              · have := lap.done t r
                rw [h3] at h2
                have e : ((t : Int)).toNat = t := by omega
                rw [e, this] at h2
                cases h2
      · rintro σ H' ⟨⟨v4, rfl⟩, bs, lap, hall, led⟩
        rw [List.take_length] at hall
        walk_at "g"
        refine ⟨⟨_, _, rfl⟩, bs, ⟨lap.len, lap.sound, lap.done, fun k hk r => ?_⟩, led⟩
        by_cases z : k = j
        · subst z
          cases r with
          | pit _ h2 => exact hall _ h2 (.inl rfl)
          | via _ h2 r => exact hall _ h2 (.inr ⟨_, rfl, r⟩)
        · exact lap.more k (by omega) r
    · rintro σ H' ⟨⟨v3, v4, rfl⟩, bs, lap, led⟩
      walk_at "g"
      exact ⟨⟨_, _, _, rfl⟩, bs, ⟨lap.len, lap.sound, fun k r => lap.more k (by have := r.lt; omega) r, fun k hk => by omega⟩, led⟩
  · rintro σ H' ⟨⟨v2, v3, v4, rfl⟩, bs, lap, led⟩
    walk_at "g"
    have e : bs = reachL rows := reachL_of lap.len fun k hk => ⟨lap.sound k hk, fun r => lap.done k (by
      have := r.short
      simpa using this)⟩
    rw [e] at led
    exact q D H' nD led.same (led.get 0 rfl)

@[irreducible] def sp_is_open (_ : PySem.W.Frag) (G : Ads) : Sp := fun vs H Q _ => ∃ (b dx r t l s : Addr) (tk : Int) (rows : List (List Int)), vs = [.ref b] ∧ H b = some (.ins G.Board dx (bf r t l s tk)) ∧ RowsAt H r rows ∧ OkRows rows ∧
  ∀ H', Same H H' → Q (.bl (openB rows)) H'
theorem len_is_open {K : PySem.W.Frag} {G : Ads} {vs H Q E} (h : sp_is_open K G vs H Q E) : vs.length = 1 := by
  unfold sp_is_open at h
  obtain ⟨_, _, _, _, _, _, _, _, rfl, _⟩ := h
  rfl
theorem c_is_open {K : PySem.W.Frag} {G : Ads} {H : Hp} {Q : VK} {E : XK} {b dx r t l s : Addr} {tk : Int} {rows : List (List Int)} (e : H b = some (.ins G.Board dx (bf r t l s tk))) (R : RowsAt H r rows) (ok : OkRows rows)
    (q : ∀ H', Same H H' → Q (.bl (openB rows)) H') : sp_is_open K G [.ref b] H Q E := by
  unfold sp_is_open
  exact ⟨b, dx, r, t, l, s, tk, rows, rfl, e, R, ok, q⟩
def t_is_open (K : PySem.W.Frag) (G : Ads) (E : XK) : TS :=
  (tRet (tCB (rAll K) (tCons (tCall (sp_reached K G) [] E0 (tCons (tFld K (tVar 0) "rows") tNil)) tNil)))
abbrev N_is_open : List Str := ["board"]

theorem pure_is_open {K : PySem.W.Frag} {G : Ads} {vs H Q E} (bd : BdOk K G) (h : sp_is_open K G vs H Q E) : t_is_open K G E { nx := fun _ H' => Q .non H', rt := Q } (start N_is_open vs) H := by
  unfold sp_is_open at h
  obtain ⟨b, dx, r, t, l, s, tk, rows, rfl, e, R, ok, q⟩ := h
  show t_is_open K G E _ [some (.ref b)] H
  unfold t_is_open
  walk_at "g"
  refine g_bfld e bd.cl bd.n_rows bf_rows ?_
  walk_at "g"
  refine c_reached R (by have := ok.2.1; omega) ok.exits fun D H' nD s1 e1 => ?_
  walk_at "g"
  refine g_all (SqL.of e1) ?_
  rw [reachL_all]
  exact q H' s1

@[irreducible] def sp_Board_become (_ : PySem.W.Frag) (G : Ads) : Sp := fun vs H Q _ => ∃ (B : Hp) (L : List (Addr × HO)) (i : Nat) (b dx r t l s : Addr) (rows : List (List Int)) (turns loads steps : List Int) (taken : Int) (ob odx or ot ol os : Addr) (rows2 : List (List Int)) (S : Sta),
  vs = [.ref b, .ref ob] ∧ Led B L H ∧ LB G.Board B L i b dx r t l s rows turns loads steps taken ∧ BdAt G.Board B ob odx or ot ol os rows2 S.turns S.loads S.steps S.taken ∧
  ∀ (t' l' s' : Addr) (H' : Hp), Led B (setB L G.Board i b dx r t' l' s' S.turns S.loads S.steps S.taken) H' → Q .non H'
theorem len_Board_become {K : PySem.W.Frag} {G : Ads} {vs H Q E} (h : sp_Board_become K G vs H Q E) : vs.length = 2 := by
  unfold sp_Board_become at h
  obtain ⟨_, _, _, _, _, _, _, _, _, _, _, _, _, _, _, _, _, _, _, _, _, _, rfl, _⟩ := h
  rfl
theorem c_become {K : PySem.W.Frag} {G : Ads} {H : Hp} {Q : VK} {E : XK} {B : Hp} {L : List (Addr × HO)} {i : Nat} {b dx r t l s : Addr} {rows : List (List Int)} {turns loads steps : List Int} {taken : Int} {ob odx or ot ol os : Addr} {rows2 : List (List Int)} {S : Sta}
    (led : Led B L H) (x : LB G.Board B L i b dx r t l s rows turns loads steps taken) (y : BdAt G.Board B ob odx or ot ol os rows2 S.turns S.loads S.steps S.taken)
    (q : ∀ (t' l' s' : Addr) (H' : Hp), Led B (setB L G.Board i b dx r t' l' s' S.turns S.loads S.steps S.taken) H' → Q .non H') : sp_Board_become K G [.ref b, .ref ob] H Q E := by
  unfold sp_Board_become
  exact ⟨B, L, i, b, dx, r, t, l, s, rows, turns, loads, steps, taken, ob, odx, or, ot, ol, os, rows2, S, rfl, led, x, y, q⟩
def t_Board_become (K : PySem.W.Frag) (G : Ads) (E : XK) : TS :=
  (tSeq (sFld K (tVar 0) (tCB (mList K) (tCons (tFld K (tVar 1) "turns") tNil)) "turns")
    (tSeq (sFld K (tVar 0) (tCB (mList K) (tCons (tFld K (tVar 1) "loads") tNil)) "loads")
    (tSeq (sFld K (tVar 0) (tCB (mList K) (tCons (tFld K (tVar 1) "steps") tNil)) "steps")
    (sFld K (tVar 0) (tFld K (tVar 1) "taken") "taken"))))
abbrev N_Board_become : List Str := ["self", "other"]

theorem pure_Board_become {K : PySem.W.Frag} {G : Ads} {vs H Q E} (bd : BdOk K G) (h : sp_Board_become K G vs H Q E) : t_Board_become K G E { nx := fun _ H' => Q .non H', rt := Q } (start N_Board_become vs) H := by
  unfold sp_Board_become at h
  obtain ⟨B0, L0, i, b, dx, r, t, l, s, rows, turns, loads, steps, taken, ob, odx, or, ot, ol, os, rows2, S, rfl, led0, x, Y0, q⟩ := h
  show t_Board_become K G E _ [some (.ref b), some (.ref ob)] H
  unfold t_Board_become
  obtain ⟨B, sB, hr, led, _, fin⟩ := led0.focus x
  have Y := Y0.mono sB
  walk_at "g"
  refine g_bfld (led.same _ _ Y.ins) bd.cl bd.n_turns bf_turns ?_
  walk_at "g"
  refine g_list (led.base (SqL.of Y.tns)) fun t' nt => ?_
  have led1 := led.swap (i := 1) (o' := ilst S.turns) rfl nt (same_upd nt) upd_same
  walk_at "g"
  refine g_put led1 0 rfl bd.cl bd.n_turns bf_len bf_pturns fun H2 led2 => ?_
  walk_at "g"
  refine g_bfld (led2.same _ _ Y.ins) bd.cl bd.n_loads bf_loads ?_
  walk_at "g"
  refine g_list (led2.base (SqL.of Y.lds)) fun l' nl => ?_
  have led3 := led2.swap (i := 2) (o' := ilst S.loads) rfl nl (same_upd nl) upd_same
  walk_at "g"
  refine g_put led3 0 rfl bd.cl bd.n_loads bf_len bf_ploads fun H4 led4 => ?_
  walk_at "g"
  refine g_bfld (led4.same _ _ Y.ins) bd.cl bd.n_steps bf_steps ?_
  walk_at "g"
  refine g_list (led4.base (SqL.of Y.sts)) fun s' ns => ?_
  have led5 := led4.swap (i := 3) (o' := ilst S.steps) rfl ns (same_upd ns) upd_same
  walk_at "g"
  refine g_put led5 0 rfl bd.cl bd.n_steps bf_len bf_psteps fun H6 led6 => ?_
  walk_at "g"
  refine g_bfld (led6.same _ _ Y.ins) bd.cl bd.n_taken bf_taken ?_
  walk_at "g"
  refine g_put led6 0 rfl bd.cl bd.n_taken bf_len bf_ptaken fun H7 led7 => ?_
  exact q t' l' s' H7 (fin _ _ _ _ _ _ _ _ led7)

@[irreducible] def sp_Board_twin (_ : PySem.W.Frag) (G : Ads) : Sp := fun vs H Q _ => ∃ (b dx r t l s : Addr) (rows : List (List Int)) (S : Sta), vs = [.ref b] ∧ BdAt G.Board H b dx r t l s rows S.turns S.loads S.steps S.taken ∧ OkRows rows ∧
  ∀ (b' dx' r' t' l' s' : Addr) (H' : Hp), NewB G.Board H H' b' dx' r' t' l' s' rows S.turns S.loads S.steps S.taken → Q (.ref b') H'
theorem len_Board_twin {K : PySem.W.Frag} {G : Ads} {vs H Q E} (h : sp_Board_twin K G vs H Q E) : vs.length = 1 := by
  unfold sp_Board_twin at h
  obtain ⟨_, _, _, _, _, _, _, _, rfl, _⟩ := h
  rfl
theorem c_twin {K : PySem.W.Frag} {G : Ads} {H : Hp} {Q : VK} {E : XK} {b dx r t l s : Addr} {rows : List (List Int)} {S : Sta} (X : BdAt G.Board H b dx r t l s rows S.turns S.loads S.steps S.taken) (ok : OkRows rows)
    (q : ∀ (b' dx' r' t' l' s' : Addr) (H' : Hp), NewB G.Board H H' b' dx' r' t' l' s' rows S.turns S.loads S.steps S.taken → Q (.ref b') H') : sp_Board_twin K G [.ref b] H Q E := by
  unfold sp_Board_twin
  exact ⟨b, dx, r, t, l, s, rows, S, rfl, X, ok, q⟩
def t_Board_twin (K : PySem.W.Frag) (G : Ads) (E : XK) : TS :=
  (tSeq (tAsg (tMake G.Board (sp_Board_init K G) [] E0 (tCons (tFld K (tVar 0) "rows") tNil)) (gName 1))
    (tSeq (tDrop (tMeth G.Board "become" (sp_Board_become K G) [] E0 (tVar 1) (tCons (tVar 0) tNil)))
    (tRet (tVar 1))))
abbrev N_Board_twin : List Str := ["self", "made"]

theorem pure_Board_twin {K : PySem.W.Frag} {G : Ads} {vs H Q E} (bd : BdOk K G) (h : sp_Board_twin K G vs H Q E) : t_Board_twin K G E { nx := fun _ H' => Q .non H', rt := Q } (start N_Board_twin vs) H := by
  unfold sp_Board_twin at h
  obtain ⟨b, dx, r, t, l, s, rows, S, rfl, X, ok, q⟩ := h
  show t_Board_twin K G E _ [some (.ref b), none] H
  unfold t_Board_twin
  walk_at "g"
  refine g_bfld X.ins bd.cl bd.n_rows bf_rows ?_
  walk_at "g"
  refine c_Board X.rws (by have := ok.2.1; omega) (fun row hx => by have := (ok.2.2 row hx).2.1; omega) (fun h => by have := ok.1; have := ok.2.1; omega) (fun _ _ h => absurd ok h) fun _ b' dx' r' t' l' s' H1 N1 => ?_
  obtain ⟨B1, s1, nr, led⟩ := N1
  walk_at "g"
  refine g_self (led.get 0 rfl) bm_become ?_
  walk_at "g"
  refine c_become (S := S) led (i := 0) ⟨rfl, rfl, rfl, rfl, nr.at_⟩ (X.mono s1) fun t2 l2 s2 H2 led2 => ?_
  walk_at "g"
  exact q b' dx' r' t2 l2 s2 H2 ⟨B1, s1, nr, led2⟩

@[irreducible] def sp_first_laden (_ : PySem.W.Frag) (G : Ads) : Sp := fun vs H Q _ => ∃ (b dx r t l s : Addr) (rows : List (List Int)) (turns loads steps : List Int) (taken : Int), vs = [.ref b] ∧ BdAt G.Board H b dx r t l s rows turns loads steps taken ∧ loads.length ≤ 1000 ∧
  (Bare loads → Q .non H) ∧ (∀ k, First loads k → Q (.int k) H)
theorem len_first_laden {K : PySem.W.Frag} {G : Ads} {vs H Q E} (h : sp_first_laden K G vs H Q E) : vs.length = 1 := by
  unfold sp_first_laden at h
  obtain ⟨_, _, _, _, _, _, _, _, _, _, _, rfl, _⟩ := h
  rfl
theorem c_first_laden {K : PySem.W.Frag} {G : Ads} {H : Hp} {Q : VK} {E : XK} {b dx r t l s : Addr} {rows : List (List Int)} {turns loads steps : List Int} {taken : Int} (X : BdAt G.Board H b dx r t l s rows turns loads steps taken) (hl : loads.length ≤ 1000)
    (q1 : Bare loads → Q .non H) (q2 : ∀ k, First loads k → Q (.int k) H) : sp_first_laden K G [.ref b] H Q E := by
  unfold sp_first_laden
  exact ⟨b, dx, r, t, l, s, rows, turns, loads, steps, taken, rfl, X, hl, q1, q2⟩
def t_first_laden (K : PySem.W.Frag) (G : Ads) (E : XK) : TS :=
  (tSeq (tFor (iRng1 (tCons (tCB (mLen K) (tCons (tFld K (tVar 0) "loads") tNil)) tNil)) (gName 1)
    (tIfS (tTest (tOp mGt (tOp (rIxL K) (tFld K (tVar 0) "loads") (tVar 1)) (tC (.int 0))))
    (tRet (tVar 1))
    tNext))
    (tRet (tC .non)))
abbrev N_first_laden : List Str := ["board", "at"]

theorem pure_first_laden {K : PySem.W.Frag} {G : Ads} {vs H Q E} (bd : BdOk K G) (h : sp_first_laden K G vs H Q E) : t_first_laden K G E { nx := fun _ H' => Q .non H', rt := Q } (start N_first_laden vs) H := by
  unfold sp_first_laden at h
  obtain ⟨b, dx, r, t, l, s, rows, turns, loads, steps, taken, rfl, X, hl, q1, q2⟩ := h
  show t_first_laden K G E _ [some (.ref b), none] H
  unfold t_first_laden
  have sl : SqL K H l (loads.map V.int) := SqL.of X.lds
  walk_at "g"
  refine g_bfld X.ins bd.cl bd.n_loads bf_loads ?_
  walk_at "g"
  refine loopR (fun k σ H' => (∃ v, σ = [some (.ref b), v]) ∧ H' = H ∧ ∀ j, j < k → ¬ 0 < loads.getD j 0) ⟨⟨_, rfl⟩, rfl, fun j hj => by omega⟩ ?_ ?_
  · rintro k σ H' hk ⟨⟨v, rfl⟩, rfl, hz⟩
    have hk : k < loads.length := by simpa using hk
    have e0 : (0 + (k : Int)).toNat = k := by omega
    show tIfS _ _ _ _ [some (.ref b), some (.int (0 + k))] H'
    walk_at "g"
    refine g_bfld X.ins bd.cl bd.n_loads bf_loads ?_
    walk_at "g"
    try refine g_ixI sl (by omega) (by omega) ?_
    try walk_at "g"
    rw [e0]
    refine ifP (fun h => ?_) (fun h => ?_)
    · walk_at "g"
      rw [Int.zero_add]
      exact q2 k ⟨hk, h, hz⟩
    · walk_at "g"
      refine ⟨⟨_, rfl⟩, rfl, fun j hj => ?_⟩
      by_cases e : j = k
      · rw [e]
        exact h
      · exact hz j (by omega)
  · rintro σ H' ⟨⟨v, rfl⟩, rfl, hz⟩
    walk_at "g"
    exact q1 fun k hk => hz k (by simpa using hk)

@[irreducible] def sp_run (_ : PySem.W.Frag) (G : Ads) : Sp := fun vs H Q E => ∃ (B : Hp) (L : List (Addr × HO)) (i : Nat) (b dx r t l s : Addr) (rows : List (List Int)) (S : Sta) (most : Int),
  vs = [.ref b, .int most] ∧ Led B L H ∧ LB G.Board B L i b dx r t l s rows S.turns S.loads S.steps S.taken ∧ OkRows rows ∧ SOk rows S ∧
  (¬ Open rows → ∀ H', Same H H' → E (.ref G.NotOpen) none H') ∧
  (Open rows → ∃ n F, RunTo rows S n F ∧ (0 ≤ most → most < n → ∀ H', Same H H' → E (.ref G.TooLong) none H') ∧
    (most < 0 ∨ (n : Int) ≤ most → ∀ (t' l' s' : Addr) (H' : Hp), Led B (setB L G.Board i b dx r t' l' s' F.turns F.loads F.steps F.taken) H' → Q (.int n) H'))
theorem len_run {K : PySem.W.Frag} {G : Ads} {vs H Q E} (h : sp_run K G vs H Q E) : vs.length = 2 := by
  unfold sp_run at h
  obtain ⟨_, _, _, _, _, _, _, _, _, _, _, _, rfl, _⟩ := h
  rfl
theorem c_run {K : PySem.W.Frag} {G : Ads} {H : Hp} {Q : VK} {E : XK} {B : Hp} {L : List (Addr × HO)} {i : Nat} {b dx r t l s : Addr} {rows : List (List Int)} {S F : Sta} {n : Nat} {most : Int} (led : Led B L H) (x : LB G.Board B L i b dx r t l s rows S.turns S.loads S.steps S.taken)
    (ok : OkRows rows) (sk : SOk rows S) (op : Open rows) (rt : RunTo rows S n F) (hm : (n : Int) ≤ most) (q : ∀ (t' l' s' : Addr) (H' : Hp), Led B (setB L G.Board i b dx r t' l' s' F.turns F.loads F.steps F.taken) H' → Q (.int n) H') : sp_run K G [.ref b, .int most] H Q E := by
  unfold sp_run
  exact ⟨B, L, i, b, dx, r, t, l, s, rows, S, most, rfl, led, x, ok, sk, fun h => absurd op h, fun _ => ⟨n, F, rt, fun _ h => by omega, fun _ => q⟩⟩
def t_run_c4 (K : PySem.W.Frag) (G : Ads) (E : XK) : TS :=
  (tSeq (tWhile (tTest (tOp rNotN (tVar 4) (tC .non)))
    (tSeq (tIfS (tTest (tOp rEq (tVar 3) (tVar 1)))
    (tRaise E G.TooLong)
    tNext)
    (tSeq (tDrop (tCall (sp_step K G) [] E (tCons (tVar 2) (tCons (tVar 4) tNil))))
    (tSeq (tAsg (tOp mAdd (tVar 3) (tC (.int 1))) (gName 3))
    (tAsg (tCall (sp_first_laden K G) [] E0 (tCons (tVar 2) tNil)) (gName 4))))))
    (tSeq (tDrop (tMeth G.Board "become" (sp_Board_become K G) [] E0 (tVar 0) (tCons (tVar 2) tNil)))
    (tRet (tVar 3))))
def t_run (K : PySem.W.Frag) (G : Ads) (E : XK) : TS :=
  (tSeq (tIfS (tNot (tB (tCall (sp_is_open K G) [] E0 (tCons (tVar 0) tNil))))
    (tRaise E G.NotOpen)
    tNext)
    (tSeq (tAsg (tMeth G.Board "twin" (sp_Board_twin K G) [] E0 (tVar 0) tNil) (gName 2))
    (tSeq (tAsg (tC (.int 0)) (gName 3))
    (tSeq (tAsg (tCall (sp_first_laden K G) [] E0 (tCons (tVar 2) tNil)) (gName 4))
    (t_run_c4 K G E)))))
abbrev N_run : List Str := ["board", "most", "ahead", "many", "at"]

theorem pure_run {K : PySem.W.Frag} {G : Ads} {vs H Q E} (h : sp_run K G vs H Q E) : t_run K G E { nx := fun _ H' => Q .non H', rt := Q } (start N_run vs) H := by
  unfold sp_run at h
  obtain ⟨B, L, i, b, dx, r, t, l, s, rows, S, most, rfl, led, x, ok, sk, q1, q2⟩ := h
  show t_run K G E _ [some (.ref b), some (.int most), none, none, none] H
  unfold t_run
  have X := led.bd x
  have hn := ok.2.1
  walk_at "g"
  refine c_is_open X.ins X.rws ok fun H1 s1 => ?_
  walk_at "g"
  by_cases op : Open rows
  rotate_left
  · rw [openB_false op]
    walk_at "g"
    exact q1 op H1 s1
  obtain ⟨n, F, rt, qL, qD⟩ := q2 op
  rw [openB_true op]
  walk_at "g"
  refine g_self ((X.mono s1).ins) bm_twin ?_
  walk_at "g"
  refine c_twin (X.mono s1) ok fun b2 dx2 r2 t2 l2 s2' H2 N2 => ?_
  obtain ⟨B2, sB2, nr2, led2⟩ := N2
  have fnew : ∀ p, p ∈ (bl G.Board b2 dx2 r2 t2 l2 s2' S.turns S.loads S.steps S.taken).map Prod.fst → H p = none := fun p hp => s1.free (sB2.free (led2.new p hp))
  have nrH : NewRows H B2 r2 rows := nr2.back s1
  have sHB : Same H B2 := s1.trans sB2
  walk_at "g"
  have hr2 : RowsAt B2 r2 rows := nr2.at_
  have goon : ∀ (m : Nat) (C : Sta) (H3 : Hp) (many : Int) (v : V), Runs rows C m F → SOk rows C → many + m = n → (most < 0 ∨ many ≤ most) → 0 ≤ many → Led B2 (bl G.Board b2 dx2 r2 t2 l2 s2' C.turns C.loads C.steps C.taken) H3 → ((Bare C.loads ∧ v = .non) ∨ ∃ k, First C.loads k ∧ v = .int k) →
      t_run_c4 K G E { nx := fun _ H' => Q .non H', rt := Q } [some (.ref b), some (.int most), some (.ref b2), some (.int many), some v] H3 := by
    intro m C H3 many v rn sc hmn hmo h0 l3 hv
    unfold t_run_c4
    walk_at "g"
    refine whileN (fun m σ H' => ∃ (C : Sta) (many : Int) (v : V), σ = [some (.ref b), some (.int most), some (.ref b2), some (.int many), some v] ∧ Runs rows C m F ∧ SOk rows C ∧ many + m = n ∧ (most < 0 ∨ many ≤ most) ∧ 0 ≤ many ∧ Led B2 (bl G.Board b2 dx2 r2 t2 l2 s2' C.turns C.loads C.steps C.taken) H' ∧ ((Bare C.loads ∧ v = .non) ∨ ∃ k, First C.loads k ∧ v = .int k))
      m ⟨C, many, v, rfl, rn, sc, hmn, hmo, h0, l3, hv⟩ ?_
    rintro m σ H4 ⟨C, many, v, rfl, rn, sc, hmn, hmo, h0, l3, hv⟩
    rcases hv with ⟨hb, rfl⟩ | ⟨k, hf, rfl⟩
    · obtain ⟨em, rfl⟩ := rn.inv0 hb
      walk_at "g"
      obtain ⟨B', sB', ledL, kp⟩ := led.rebaseN (sHB.trans l3.same)
      have Y : BdAt G.Board B' b2 dx2 r2 t2 l2 s2' rows C.turns C.loads C.steps C.taken :=
        ⟨kp _ _ (l3.get 0 rfl) (fnew _ (by simp)), (nrH.mono l3.same).into kp, kp _ _ (l3.get 1 rfl) (fnew _ (by simp)), kp _ _ (l3.get 2 rfl) (fnew _ (by simp)), kp _ _ (l3.get 3 rfl) (fnew _ (by simp))⟩
      refine g_self (ledL.get i x.ins) bm_become ?_
      walk_at "g"
      refine c_become (S := C) ledL ⟨x.ins, x.tns, x.lds, x.sts, x.rws.mono sB'⟩ Y fun t' l' s' H5 led5 => ?_
      walk_at "g"
      have e : many = n := by omega
      rw [e]
      exact qD (by omega) t' l' s' H5 (led5.back sB')
    · obtain ⟨m', em, rn'⟩ := rn.inv hf rt.2
      have hk : k < rows.length := by rw [← sc.ll]; exact hf.1
      walk_at "g"
      refine ⟨_, fun _ _ h => h, ?_⟩
      walk_at "g"
      refine ifP (fun hm => ?_) (fun hm => ?_)
      · walk_at "g"
        exact qL (by omega) (by omega) H4 (sHB.trans l3.same)
      · walk_at "g"
        have e0 : ((k : Int)).toNat = k := by omega
        refine c_step (S := C) l3 (i := 0) ⟨rfl, rfl, rfl, rfl, hr2⟩ ok sc (by omega) (by omega) (by rw [e0]; have := hf.2.1; omega) fun H5 l5 => ?_
        rw [e0] at l5
        have l5 : Led B2 (bl G.Board b2 dx2 r2 t2 l2 s2' (stepS rows C k).turns (stepS rows C k).loads (stepS rows C k).steps (stepS rows C k).taken) H5 := l5
        have sc5 := sc.step ok k
        walk_at "g"
        refine c_first_laden (l5.bd (i := 0) ⟨rfl, rfl, rfl, rfl, hr2⟩) (by rw [sc5.ll]; omega) (fun hb => ?_) (fun j hj => ?_)
        · walk_at "g"
          exact ⟨m', by omega, _, _, _, rfl, rn', sc5, by omega, by omega, by omega, l5, .inl ⟨hb, rfl⟩⟩
        · walk_at "g"
          exact ⟨m', by omega, _, _, _, rfl, rn', sc5, by omega, by omega, by omega, l5, .inr ⟨j, hj, rfl⟩⟩
  refine c_first_laden (led2.bd (i := 0) ⟨rfl, rfl, rfl, rfl, hr2⟩) (by rw [sk.ll]; omega) (fun hb => ?_) (fun k hk => ?_)
  · walk_at "g"
    exact goon n S H2 0 .non rt.1 sk (by omega) (by omega) (by omega) led2 (.inl ⟨hb, rfl⟩)
  · walk_at "g"
    exact goon n S H2 0 (.int k) rt.1 sk (by omega) (by omega) (by omega) led2 (.inr ⟨k, hk, rfl⟩)

@[irreducible] def sp_last_exit (_ : PySem.W.Frag) (G : Ads) : Sp := fun vs H Q E => ∃ (b dx r t l s : Addr) (rows : List (List Int)) (turns loads steps : List Int) (taken at_ : Int),
  vs = [.ref b, .int at_] ∧ BdAt G.Board H b dx r t l s rows turns loads steps taken ∧ turns.length = rows.length ∧ (¬ (0 ≤ at_ ∧ at_ < rows.length) → E (.ref G.NoSite) none H) ∧
  (0 ≤ at_ → at_ < rows.length → 1 ≤ (rows.getD at_.toNat []).length ∧ Q (.int ((rows.getD at_.toNat []).getD ((turns.getD at_.toNat 0 - 1) % (rows.getD at_.toNat []).length).toNat 0)) H)
theorem len_last_exit {K : PySem.W.Frag} {G : Ads} {vs H Q E} (h : sp_last_exit K G vs H Q E) : vs.length = 2 := by
  unfold sp_last_exit at h
  obtain ⟨_, _, _, _, _, _, _, _, _, _, _, _, rfl, _⟩ := h
  rfl
theorem c_last_exit {K : PySem.W.Frag} {G : Ads} {H : Hp} {Q : VK} {E : XK} {b dx r t l s : Addr} {rows : List (List Int)} {turns loads steps : List Int} {taken at_ : Int}
    (x : BdAt G.Board H b dx r t l s rows turns loads steps taken) (hl : turns.length = rows.length) (h0 : 0 ≤ at_) (h1 : at_ < rows.length) (h2 : 1 ≤ (rows.getD at_.toNat []).length)
    (q : Q (.int ((rows.getD at_.toNat []).getD ((turns.getD at_.toNat 0 - 1) % (rows.getD at_.toNat []).length).toNat 0)) H) : sp_last_exit K G [.ref b, .int at_] H Q E := by
  unfold sp_last_exit
  exact ⟨b, dx, r, t, l, s, rows, turns, loads, steps, taken, at_, rfl, x, hl, fun h => absurd ⟨h0, h1⟩ h, fun _ _ => ⟨h2, q⟩⟩
def t_last_exit (K : PySem.W.Frag) (G : Ads) (E : XK) : TS :=
  (tSeq (tIfS (tNot (tB (tMeth G.Board "has_site" (sp_Board_has_site K G) [] E0 (tVar 0) (tCons (tVar 1) tNil))))
    (tRaise E G.NoSite)
    tNext)
    (tSeq (tAsg (tOp (rIxL K) (tFld K (tVar 0) "rows") (tVar 1)) (gName 2))
    (tRet (tOp (rIxL K) (tVar 2) (tOp mMod (tOp mSub (tOp (rIxL K) (tFld K (tVar 0) "turns") (tVar 1)) (tC (.int 1))) (tCB (mLen K) (tCons (tVar 2) tNil)))))))
abbrev N_last_exit : List Str := ["board", "at", "row"]

theorem pure_last_exit {K : PySem.W.Frag} {G : Ads} {vs H Q E} (bd : BdOk K G) (h : sp_last_exit K G vs H Q E) : t_last_exit K G E { nx := fun _ H' => Q .non H', rt := Q } (start N_last_exit vs) H := by
  unfold sp_last_exit at h
  obtain ⟨b, dx, r, t, l, s, rows, turns, loads, steps, taken, a, rfl, X, hl, q1, q2⟩ := h
  show t_last_exit K G E _ [some (.ref b), some (.int a), none] H
  unfold t_last_exit
  walk_at "g"
  refine g_self X.ins bm_has_site ?_
  walk_at "g"
  refine c_has_site X.ins X.rws ?_
  walk_at "g"
  refine ifN (fun h => ?_) (fun h => ?_)
  · walk_at "g"
    exact q1 h
  obtain ⟨h2, q⟩ := q2 h.1 h.2
  walk_at "g"
  refine g_bfld X.ins bd.cl bd.n_rows bf_rows ?_
  walk_at "g"
  refine g_row X.rws h.1 h.2 fun w hw => ?_
  walk_at "g"
  refine g_bfld X.ins bd.cl bd.n_turns bf_turns ?_
  have hS : SqL K H t (turns.map V.int) := SqL.of X.tns
  walk_at "g"
  exact q

@[irreducible] def sp_is_tree (_ : PySem.W.Frag) (G : Ads) : Sp := fun vs H Q _ => ∃ (b dx r t l s : Addr) (rows : List (List Int)) (turns loads steps : List Int) (taken : Int), vs = [.ref b] ∧ BdAt G.Board H b dx r t l s rows turns loads steps taken ∧ OkRows rows ∧ turns.length = rows.length ∧
  ∀ H', Same H H' → Q (.bl (treeB rows turns)) H'
theorem len_is_tree {K : PySem.W.Frag} {G : Ads} {vs H Q E} (h : sp_is_tree K G vs H Q E) : vs.length = 1 := by
  unfold sp_is_tree at h
  obtain ⟨_, _, _, _, _, _, _, _, _, _, _, rfl, _⟩ := h
  rfl
theorem c_is_tree {K : PySem.W.Frag} {G : Ads} {H : Hp} {Q : VK} {E : XK} {b dx r t l s : Addr} {rows : List (List Int)} {turns loads steps : List Int} {taken : Int} (X : BdAt G.Board H b dx r t l s rows turns loads steps taken) (ok : OkRows rows) (hl : turns.length = rows.length)
    (q : ∀ H', Same H H' → Q (.bl (treeB rows turns)) H') : sp_is_tree K G [.ref b] H Q E := by
  unfold sp_is_tree
  exact ⟨b, dx, r, t, l, s, rows, turns, loads, steps, taken, rfl, X, ok, hl, q⟩
def t_is_tree (K : PySem.W.Frag) (G : Ads) (E : XK) : TS :=
  (tRet (tCB (rAll K) (tCons (tCall (sp_reached K G) [] E0 (tCons (tLc (iRng1 (tCons (tCB (mLen K) (tCons (tFld K (tVar 0) "rows") tNil)) tNil)) (gName 1) tYes (tLst (tCons (tCall (sp_last_exit K G) [] E0 (tCons (tVar 0) (tCons (tVar 1) tNil))) tNil)) [1]) tNil)) tNil)))
abbrev N_is_tree : List Str := ["board", "at"]

theorem pure_is_tree {K : PySem.W.Frag} {G : Ads} {vs H Q E} (bd : BdOk K G) (h : sp_is_tree K G vs H Q E) : t_is_tree K G E { nx := fun _ H' => Q .non H', rt := Q } (start N_is_tree vs) H := by
  unfold sp_is_tree at h
  obtain ⟨b, dx, r, t, l, s, rows, turns, loads, steps, taken, rfl, X, ok, hl, q⟩ := h
  show t_is_tree K G E _ [some (.ref b), none] H
  unfold t_is_tree
  have hn := ok.2.1
  have hr : RowsAt H r rows := X.rws
  walk_at "g"
  refine g_bfld X.ins bd.cl bd.n_rows bf_rows ?_
  walk_at "g"
  refine lcRRows (fun rs => ∀ j : Nat, j < rs.length → rs.getD j [] = [lastOf rows turns j]) (fun j hj => by simp at hj) (by omega) (fun _ => rfl) (fun D k as rs H1 S hk el p l1 qs => ?_) (fun D rs H1 el p s1 n1 => ?_)
  · have hk : k < rows.length := by simpa using hk
    have e0 : (0 + (k : Int)).toNat = k := by omega
    walk_at "g"
    refine c_last_exit (X.mono l1.same) hl (by omega) (by omega) (by rw [e0]; exact (ok.row hk).1) ?_
    rw [e0]
    walk_at "g"
    refine ⟨by show 1 ≤ sizeLine; decide, fun m nm => ?_⟩
    refine qs m [lastOf rows turns k] _ (fun j hj => ?_) (l1.alloc nm _)
    rw [List.length_append] at hj
    by_cases z : j < rs.length
    · rw [List.getD_eq_getElem?_getD, List.getElem?_append_left z, ← List.getD_eq_getElem?_getD]
      exact p j z
    · have e2 : j = rs.length := by simp at hj; omega
      subst e2
      rw [List.getD_eq_getElem?_getD, List.getElem?_append_right (Nat.le_refl _), Nat.sub_self, el]
      rfl
  have el : rs.length = rows.length := by omega
  have e : rs = lastRows rows turns := rows_ext (by rw [lastRows_len]; exact el) fun j hj => by rw [lastRows_get (by omega)]; exact p j hj
  subst e
  walk_at "g"
  refine c_reached n1.at_ (by rw [lastRows_len]; omega) (lastRows_exits ok) fun D2 H2 nD s2 e2 => ?_
  walk_at "g"
  refine g_all (SqL.of e2) ?_
  rw [reachL_all]
  exact q H2 (s1.trans s2)

@[irreducible] def sp_before (K : PySem.W.Frag) (_ : Ads) : Sp := fun vs H Q _ => ∃ (p tp : Addr) (rows : List (List Int)) (turns : List Int) (at_ y x : Int), vs = [.ref p, .ref tp, .int at_, .int y] ∧ RowsAt H p rows ∧ OkRows rows ∧ TurnsOk rows turns ∧ SqL K H tp (turns.map V.int) ∧ 0 ≤ at_ ∧ at_ < rows.length ∧ -1 ≤ y ∧ y < rows.length ∧
  Pred rows turns at_ y x ∧ Q (.int x) H
theorem len_before {K : PySem.W.Frag} {G : Ads} {vs H Q E} (h : sp_before K G vs H Q E) : vs.length = 4 := by
  unfold sp_before at h
  obtain ⟨_, _, _, _, _, _, _, rfl, _⟩ := h
  rfl
theorem c_before {K : PySem.W.Frag} {G : Ads} {H : Hp} {Q : VK} {E : XK} {p tp : Addr} {rows : List (List Int)} {turns : List Int} {at_ y x : Int} (R : RowsAt H p rows) (ok : OkRows rows) (tk : TurnsOk rows turns) (s : SqL K H tp (turns.map V.int)) (a0 : 0 ≤ at_) (a1 : at_ < rows.length) (y0 : -1 ≤ y) (y1 : y < rows.length)
    (px : Pred rows turns at_ y x) (q : Q (.int x) H) : sp_before K G [.ref p, .ref tp, .int at_, .int y] H Q E := by
  unfold sp_before
  exact ⟨p, tp, rows, turns, at_, y, x, rfl, R, ok, tk, s, a0, a1, y0, y1, px, q⟩
theorem g_neNi {H : Hp} {Q : VK} {i : Int} (h : Q (.bl true) H) : rNe .non (.int i) H Q := ⟨rfl, by rw [show decide (V.non = V.int i) = false from decide_eq_false (fun z => by cases z)]; exact h⟩
def t_before_c2_1 (K : PySem.W.Frag) (G : Ads) (E : XK) : TS :=
  (tIfS (tTest (tOp rEq (tVar 4) (tC (.int (-1)))))
    (tAsg (tVar 2) (gName 5))
    (tAsg (tOp (rIxL K) (tOp (rIxL K) (tVar 0) (tVar 4)) (tOp mMod (tOp mSub (tOp (rIxL K) (tVar 1) (tVar 4)) (tC (.int 1))) (tCB (mLen K) (tCons (tOp (rIxL K) (tVar 0) (tVar 4)) tNil)))) (gName 5)))
def t_before_c2 (K : PySem.W.Frag) (G : Ads) (E : XK) : TS :=
  (tSeq (tWhile (tTest (tOp rNe (tVar 5) (tVar 3)))
    (tSeq (tIfS (tTest (tOp rNotN (tVar 5) (tC .non)))
    (tAsg (tVar 5) (gName 4))
    tNext)
    (t_before_c2_1 K G E)))
    (tRet (tVar 4)))
def t_before (K : PySem.W.Frag) (G : Ads) (E : XK) : TS :=
  (tSeq (tAsg (tVar 3) (gName 4))
    (tSeq (tAsg (tC .non) (gName 5))
    (t_before_c2 K G E)))
abbrev N_before : List Str := ["rows", "turns", "start", "spot", "here", "gone"]

theorem pure_before {K : PySem.W.Frag} {G : Ads} {vs H Q E} (h : sp_before K G vs H Q E) : t_before K G E { nx := fun _ H' => Q .non H', rt := Q } (start N_before vs) H := by
  unfold sp_before at h
  obtain ⟨p, tp, rows, turns, at_, y, x, rfl, R, ok, tk, st, a0, a1, y0, y1, ⟨j, ex, lxx, mn⟩, q⟩ := h
  show t_before K G E _ [some (.ref p), some (.ref tp), some (.int at_), some (.int y), none, none] H
  unfold t_before
  have lt := tk.1
  have hr := fun m => hop_range ok (turns := turns) (at_ := at_) (by omega) m y0 y1
  walk_at "g"
  unfold t_before_c2
  -- what the way on from here is
  have onward : ∀ (h : Int) (D : Ends) (v5 : Option V), -1 ≤ h → h < rows.length → D.nx [some (.ref p), some (.ref tp), some (.int at_), some (.int y), some (.int h), some (.int (lx rows turns at_ h))] H →
      t_before_c2_1 K G E D [some (.ref p), some (.ref tp), some (.int at_), some (.int y), some (.int h), v5] H := by
    intro h D v5 h0 h1 hD
    unfold t_before_c2_1
    walk_at "g"
    refine ifP (fun hp => ?_) (fun hp => ?_)
    · walk_at "g"
      have e : lx rows turns at_ h = at_ := by unfold lx; rw [if_pos (by omega)]
      rw [e] at hD
      exact hD
    · have hh : h.toNat < rows.length := by omega
      have row1 := (ok.row hh).1
      have e : lx rows turns at_ h = (rows.getD h.toNat []).getD ((turns.getD h.toNat 0 - 1) % ((rows.getD h.toNat []).length : Int)).toNat 0 := by
        unfold lx
        rw [if_neg (by omega)]
        rfl
      rw [e] at hD
      have i0 := Int.emod_nonneg (turns.getD h.toNat 0 - 1) (b := ((rows.getD h.toNat []).length : Int)) (by omega)
      have i1 := Int.emod_lt_of_pos (turns.getD h.toNat 0 - 1) (b := ((rows.getD h.toNat []).length : Int)) (by omega)
      walk_at "g"
      refine g_row R (by omega) h1 fun w hw => ?_
      walk_at "g"
      try refine g_ixI st (by omega) (by omega) ?_
      try walk_at "g"
      refine g_row R (by omega) h1 fun w2 hw2 => ?_
      walk_at "g"
      try refine g_lenI hw2 ?_
      try refine g_mod (by omega) ?_
      try walk_at "g"
      try refine g_ixI hw i0 i1 ?_
      try walk_at "g"
      exact hD
  refine whileN (fun m σ H' => H' = H ∧ ((m = j + 2 ∧ σ = [some (.ref p), some (.ref tp), some (.int at_), some (.int y), some (.int y), some .non]) ∨
      ∃ i, i ≤ j ∧ m = j + 1 - i ∧ σ = [some (.ref p), some (.ref tp), some (.int at_), some (.int y), some (.int (hop rows turns at_ i y)), some (.int (hop rows turns at_ (i + 1) y))])) (j + 2) ⟨rfl, .inl ⟨rfl, rfl⟩⟩ ?_
  rintro m σ H' ⟨rfl, hc⟩
  rcases hc with ⟨rfl, rfl⟩ | ⟨i, hi, rfl, rfl⟩
  · walk_at "g"
    refine g_neNi ?_
    walk_at "g"
    refine ⟨_, fun _ _ h => h, ?_⟩
    walk_at "g"
    refine onward y _ _ y0 y1 ?_
    exact ⟨j + 1, by omega, rfl, .inr ⟨0, by omega, by omega, rfl⟩⟩
  · have r1 := hr (i + 1)
    walk_at "g"
    refine ifN (fun hp => ?_) (fun hp => ?_)
    · refine ⟨_, fun _ _ h => h, ?_⟩
      have : i < j := by
        refine Classical.byContradiction fun z => ?_
        have : i = j := by omega
        subst this
        exact hp (by
          show lx rows turns at_ (hop rows turns at_ i y) = y
          rw [← ex]
          exact lxx)
      walk_at "g"
      refine onward (hop rows turns at_ (i + 1) y) _ _ r1.1 r1.2 ?_
      exact ⟨j + 1 - (i + 1), by omega, rfl, .inr ⟨i + 1, by omega, rfl, rfl⟩⟩
    · have : i = j := by
        refine Classical.byContradiction fun z => ?_
        exact mn i (by omega) hp
      subst this
      walk_at "g"
      rw [← ex]
      exact q

@[irreducible] def sp_run_back (_ : PySem.W.Frag) (G : Ads) : Sp := fun vs H Q E => ∃ (B : Hp) (L : List (Addr × HO)) (i : Nat) (b dx r t l s : Addr) (rows : List (List Int)) (S : Sta) (at_ most : Int),
  vs = [.ref b, .int at_, .int most] ∧ Led B L H ∧ LB G.Board B L i b dx r t l s rows S.turns S.loads S.steps S.taken ∧ OkRows rows ∧ TurnsOk rows S.turns ∧ 0 ≤ most ∧
  (¬ (0 ≤ at_ ∧ at_ < rows.length) → ∀ H', Same H H' → E (.ref G.NoSite) none H') ∧ ((0 ≤ at_ ∧ at_ < rows.length) → ¬ Open rows → ∀ H', Same H H' → E (.ref G.NotOpen) none H') ∧
  ((0 ≤ at_ ∧ at_ < rows.length) → Open rows → 0 < S.loads.sum → ∀ H', Same H H' → E (.ref G.NotBare) none H') ∧ ((0 ≤ at_ ∧ at_ < rows.length) → Open rows → ¬ 0 < S.loads.sum → ¬ Tree rows S.turns → ∀ H', Same H H' → E (.ref G.NotTree) none H') ∧
  ((0 ≤ at_ ∧ at_ < rows.length) → Open rows → ¬ 0 < S.loads.sum → Tree rows S.turns → ∃ n T, BackFrom rows at_ S.turns (-1) n T ∧ (most < n → ∀ H', Same H H' → E (.ref G.TooLong) none H') ∧
    ((n : Int) ≤ most → ∀ (t' : Addr) (H' : Hp), Led B (setB L G.Board i b dx r t' l s T S.loads S.steps S.taken) H' → Q (.int n) H'))
theorem len_run_back {K : PySem.W.Frag} {G : Ads} {vs H Q E} (h : sp_run_back K G vs H Q E) : vs.length = 3 := by
  unfold sp_run_back at h
  obtain ⟨_, _, _, _, _, _, _, _, _, _, _, _, _, rfl, _⟩ := h
  rfl
theorem c_run_back {K : PySem.W.Frag} {G : Ads} {H : Hp} {Q : VK} {E : XK} {B : Hp} {L : List (Addr × HO)} {i : Nat} {b dx r t l s : Addr} {rows : List (List Int)} {S : Sta} {at_ most : Int} {n : Nat} {T : List Int} (led : Led B L H) (x : LB G.Board B L i b dx r t l s rows S.turns S.loads S.steps S.taken) (ok : OkRows rows) (tk : TurnsOk rows S.turns)
    (ha : 0 ≤ at_ ∧ at_ < rows.length) (op : Open rows) (hz : ¬ 0 < S.loads.sum) (tr : Tree rows S.turns) (bf : BackFrom rows at_ S.turns (-1) n T) (hm : (n : Int) ≤ most)
    (q : ∀ (t' : Addr) (H' : Hp), Led B (setB L G.Board i b dx r t' l s T S.loads S.steps S.taken) H' → Q (.int n) H') : sp_run_back K G [.ref b, .int at_, .int most] H Q E := by
  unfold sp_run_back
  exact ⟨B, L, i, b, dx, r, t, l, s, rows, S, at_, most, rfl, led, x, ok, tk, by omega, fun h => absurd ha h, fun _ h => absurd op h, fun _ _ h => absurd h hz, fun _ _ _ h => absurd tr h, fun _ _ _ _ => ⟨n, T, bf, fun h => by omega, fun _ => q⟩⟩
theorem BackFrom.inv {rows : List (List Int)} {at_ : Int} {turns T : List Int} {y : Int} {n : Nat} (h : BackFrom rows at_ turns y n T) : ∃ x : Int, Pred rows turns at_ y x ∧ -1 ≤ x ∧ x < rows.length ∧ (x = -1 → n = 0 ∧ T = turns) ∧ (0 ≤ x → ∃ m, n = m + 1 ∧ BackFrom rows at_ (undo rows turns x.toNat) x m T) := by
  cases h with
  | zero p => exact ⟨-1, p, by omega, by omega, fun _ => ⟨rfl, rfl⟩, fun h => by omega⟩
  | @step _ _ _ x m hx p r => exact ⟨(x : Int), p, by omega, by omega, fun h => by omega, fun _ => ⟨m, rfl, by rw [Int.toNat_natCast]; exact r⟩⟩
def t_run_back_c7 (K : PySem.W.Frag) (G : Ads) (E : XK) : TS :=
  (tSeq (tWhile (tTest (tOp rNe (tVar 5) (tC (.int (-1)))))
    (tSeq (tIfS (tTest (tOp rEq (tVar 4) (tVar 2)))
    (tRaise E G.TooLong)
    tNext)
    (tSeq (tAsg (tOp mMod (tOp mSub (tOp (rIxL K) (tVar 3) (tVar 5)) (tC (.int 1))) (tCB (mLen K) (tCons (tOp (rIxL K) (tFld K (tVar 0) "rows") (tVar 5)) tNil))) (gSub (tVar 3) (tVar 5) rSetL))
    (tSeq (tAsg (tOp mAdd (tVar 4) (tC (.int 1))) (gName 4))
    (tAsg (tCall (sp_before K G) [] E0 (tCons (tFld K (tVar 0) "rows") (tCons (tVar 3) (tCons (tVar 1) (tCons (tVar 5) tNil))))) (gName 5))))))
    (tSeq (sFld K (tVar 0) (tVar 3) "turns")
    (tRet (tVar 4))))
def t_run_back_c4 (K : PySem.W.Frag) (G : Ads) (E : XK) : TS :=
  (tSeq (tAsg (tCB (mList K) (tCons (tFld K (tVar 0) "turns") tNil)) (gName 3))
    (tSeq (tAsg (tC (.int 0)) (gName 4))
    (tSeq (tAsg (tCall (sp_before K G) [] E0 (tCons (tFld K (tVar 0) "rows") (tCons (tVar 3) (tCons (tVar 1) (tCons (tC (.int (-1))) tNil))))) (gName 5))
    (t_run_back_c7 K G E))))
def t_run_back (K : PySem.W.Frag) (G : Ads) (E : XK) : TS :=
  (tSeq (tIfS (tNot (tB (tMeth G.Board "has_site" (sp_Board_has_site K G) [] E0 (tVar 0) (tCons (tVar 1) tNil))))
    (tRaise E G.NoSite)
    tNext)
    (tSeq (tIfS (tNot (tB (tCall (sp_is_open K G) [] E0 (tCons (tVar 0) tNil))))
    (tRaise E G.NotOpen)
    tNext)
    (tSeq (tIfS (tTest (tOp mGt (tCB (rSum K) (tCons (tFld K (tVar 0) "loads") tNil)) (tC (.int 0))))
    (tRaise E G.NotBare)
    tNext)
    (tSeq (tIfS (tNot (tB (tCall (sp_is_tree K G) [] E0 (tCons (tVar 0) tNil))))
    (tRaise E G.NotTree)
    tNext)
    (t_run_back_c4 K G E)))))
abbrev N_run_back : List Str := ["board", "at", "most", "turns", "many", "spot"]

theorem pure_run_back {K : PySem.W.Frag} {G : Ads} {vs H Q E} (bd : BdOk K G) (h : sp_run_back K G vs H Q E) : t_run_back K G E { nx := fun _ H' => Q .non H', rt := Q } (start N_run_back vs) H := by
  unfold sp_run_back at h
  obtain ⟨B0, L0, i, b, dx, r, t, l, s, rows, S, at_, most, rfl, led0, x, ok, tk, hm0, q1, q2, q3, q4, q5⟩ := h
  show t_run_back K G E _ [some (.ref b), some (.int at_), some (.int most), none, none, none] H
  unfold t_run_back
  have X := led0.bd x
  obtain ⟨B, sB, hr, led, _, fin0⟩ := led0.focus x
  walk_at "g"
  refine g_self X.ins bm_has_site ?_
  walk_at "g"
  refine c_has_site X.ins X.rws ?_
  walk_at "g"
  refine ifN (fun h => ?_) (fun ha => ?_)
  · walk_at "g"
    exact q1 h H (Same.refl H)
  walk_at "g"
  refine c_is_open X.ins X.rws ok fun H1 s1 => ?_
  have X1 := X.mono s1
  walk_at "g"
  by_cases op : Open rows
  rotate_left
  · rw [openB_false op]
    walk_at "g"
    exact q2 ha op H1 s1
  rw [openB_true op]
  walk_at "g"
  refine g_bfld X1.ins bd.cl bd.n_loads bf_loads ?_
  have sl1 : SqL K H1 l (S.loads.map V.int) := SqL.of X1.lds
  walk_at "g"
  try refine g_sum sl1 ?_
  try walk_at "g"
  refine ifP (fun hs => ?_) (fun hs => ?_)
  · walk_at "g"
    exact q3 ha op hs H1 s1
  walk_at "g"
  refine c_is_tree X1 ok tk.1 fun H2 s2 => ?_
  walk_at "g"
  by_cases tr : Tree rows S.turns
  rotate_left
  · rw [show treeB rows S.turns = false from openB_false tr]
    walk_at "g"
    exact q4 ha op hs tr H2 (s1.trans s2)
  rw [show treeB rows S.turns = true from openB_true tr]
  obtain ⟨n, T, bf, qL, qN⟩ := q5 ha op hs tr
  have led2 := led.ext (s1.trans s2)
  have s12 := s1.trans s2
  walk_at "g"
  unfold t_run_back_c4
  walk_at "g"
  refine g_bfld (led2.get 0 rfl) bd.cl bd.n_turns bf_turns ?_
  walk_at "g"
  refine g_list (led2.sq 1 rfl) fun tw ntw => ?_
  have led3 : Led H2 [(tw, ilst S.turns)] _ := (Led.nil H2).alloc ntw (ilst S.turns)
  have X2 := X1.mono s2
  have hr2 : RowsAt H2 r rows := X2.rws
  obtain ⟨y0, py, y00, y01, _, _⟩ := bf.inv
  have st3 : SqL K _ tw (S.turns.map V.int) := led3.sq 0 rfl
  walk_at "g"
  refine g_bfld (led3.same _ _ X2.ins) bd.cl bd.n_rows bf_rows ?_
  walk_at "g"
  refine c_before (led3.ra hr2) ok tk st3 ha.1 ha.2 (by omega) (by omega) py ?_
  walk_at "g"
  unfold t_run_back_c7
  refine whileN (fun m σ H' => ∃ (turns : List Int) (y z : Int) (many : Nat), σ = [some (.ref b), some (.int at_), some (.int most), some (.ref tw), some (.int many), some (.int z)] ∧ TurnsOk rows turns ∧ -1 ≤ y ∧ y < rows.length ∧ BackFrom rows at_ turns y m T ∧ Pred rows turns at_ y z ∧ many + m = n ∧ (many : Int) ≤ most ∧
      Led H2 [(tw, ilst turns)] H')
    n ⟨S.turns, -1, y0, 0, rfl, tk, by omega, by omega, bf, py, by omega, by omega, led3⟩ ?_
  rintro m σ H4 ⟨turns, y, z, many, rfl, tks, hy0, hy1, bfs, pz, hmn, hmost, led4⟩
  obtain ⟨z', pz', z0, z1, e1, e2⟩ := bfs.inv
  have ez : z = z' := by
    obtain ⟨j, e, l, _⟩ := pz
    exact pred_uniq pz' ⟨j, e⟩ l
  subst ez
  have lt := tks.1
  walk_at "g"
  refine ifN (fun hz => ?_) (fun hz => ?_)
  · have hz0 : 0 ≤ z := by omega
    have hz1 : z.toNat < rows.length := by omega
    have row1 := (ok.row hz1).1
    obtain ⟨m', rfl, bf'⟩ := e2 hz0
    have st4 : SqL K H4 tw (turns.map V.int) := led4.sq 0 rfl
    refine ⟨_, fun _ _ h => h, ?_⟩
    walk_at "g"
    refine ifP (fun hm => ?_) (fun hm => ?_)
    · walk_at "g"
      exact qL (by omega) H4 (s12.trans led4.same)
    · walk_at "g"
      try refine g_ixI st4 hz0 (by omega) ?_
      try walk_at "g"
      refine g_bfld (led4.same _ _ X2.ins) bd.cl bd.n_rows bf_rows ?_
      walk_at "g"
      refine g_row (led4.ra hr2) hz0 z1 fun w hw => ?_
      walk_at "g"
      try refine g_lenI hw ?_
      try refine g_mod (by omega) ?_
      try walk_at "g"
      refine g_setL led4 0 rfl hz0 (by omega) fun H5 led5 => ?_
      have led5 : Led H2 [(tw, ilst (undo rows turns z.toNat))] H5 := led5
      have tk5 := undo_ok ok tks z.toNat
      have st5 : SqL K H5 tw ((undo rows turns z.toNat).map V.int) := led5.sq 0 rfl
      obtain ⟨z2, pz2, _, _, _, _⟩ := bf'.inv
      walk_at "g"
      refine g_bfld (led5.same _ _ X2.ins) bd.cl bd.n_rows bf_rows ?_
      walk_at "g"
      refine c_before (led5.ra hr2) ok tk5 st5 ha.1 ha.2 z0 z1 pz2 ?_
      walk_at "g"
      refine ⟨m', by omega, undo rows turns z.toNat, z, z2, many + 1, ?_, tk5, z0, z1, bf', pz2, by omega, by omega, led5⟩
      rw [Int.natCast_add]
      rfl
  · obtain ⟨em, eT⟩ := e1 hz
    subst eT
    have lb := led2.swap (i := 1) (o' := ilst T) rfl ntw led4.same (led4.get 0 rfl)
    walk_at "g"
    refine g_put lb 0 rfl bd.cl bd.n_turns bf_len bf_pturns fun H5 led5 => ?_
    walk_at "g"
    have e : (many : Int) = n := by omega
    rw [e]
    exact qN (by omega) tw H5 (fin0 tw l s T S.loads S.steps S.taken H5 led5)

@[irreducible] def sp_number_of (_ : PySem.W.Frag) (G : Ads) : Sp := fun vs H Q E => ∃ w : Str, vs = [.str w] ∧ w.length ≤ 100000 ∧ (¬ NumOk w → E (.ref G.NoBoard) none H) ∧ (NumOk w → Q (.int (numOf w)) H)
theorem len_number_of {K : PySem.W.Frag} {G : Ads} {vs H Q E} (h : sp_number_of K G vs H Q E) : vs.length = 1 := by
  unfold sp_number_of at h
  obtain ⟨_, rfl, _⟩ := h
  rfl
theorem c_number_of {K : PySem.W.Frag} {G : Ads} {H : Hp} {Q : VK} {E : XK} {w : Str} (ok : NumOk w) (q : Q (.int (numOf w)) H) : sp_number_of K G [.str w] H Q E := by
  unfold sp_number_of
  exact ⟨w, rfl, by have := ok.2.1; omega, fun h => absurd ok h, fun _ => q⟩
def t_number_of (K : PySem.W.Frag) (G : Ads) (E : XK) : TS :=
  (tSeq (tIfS (tOr (tTest (tOp rEq (tVar 0) (tC (.str "")))) (tOr (tTest (tOp mGt (tCB mLenS (tCons (tVar 0) tNil)) (tC (.int 20)))) (tAnd (tTest (tOp rEq (tOp rIxS (tVar 0) (tC (.int 0))) (tC (.str "0")))) (tTest (tOp mGt (tCB mLenS (tCons (tVar 0) tNil)) (tC (.int 1)))))))
    (tRaise E G.NoBoard)
    tNext)
    (tSeq (tFor (iStr (tVar 0)) (gName 1)
    (tIfS (tTest (tOp rNotInS (tVar 1) (tC (.str "0123456789"))))
    (tRaise E G.NoBoard)
    tNext))
    (tRet (tCB mIntS (tCons (tVar 0) tNil)))))
abbrev N_number_of : List Str := ["word", "sign"]

theorem pure_number_of {K : PySem.W.Frag} {G : Ads} {vs H Q E} (h : sp_number_of K G vs H Q E) : t_number_of K G E { nx := fun _ H' => Q .non H', rt := Q } (start N_number_of vs) H := by
  unfold sp_number_of at h
  obtain ⟨w, rfl, hl, q1, q2⟩ := h
  show t_number_of K G E _ [some (.str w), none] H
  unfold t_number_of
  have lc := len_cps w
  walk_at "g"
  refine ifP (fun h0 => ?_) (fun h0 => ?_)
  · walk_at "g"
    exact q1 fun ok => ok.1 (empty_iff.mp h0)
  have ne : w.cps.toList ≠ [] := fun z => h0 (empty_iff.mpr z)
  walk_at "g"
  refine g_lenS hl ?_
  walk_at "g"
  refine ifP (fun h1 => ?_) (fun h1 => ?_)
  · walk_at "g"
    exact q1 fun ok => by have := ok.2.1; omega
  walk_at "g"
  obtain ⟨c, cs, hc⟩ : ∃ c cs, w.cps.toList = c :: cs := by
    cases z : w.cps.toList with
    | nil => exact absurd z ne
    | cons c cs => exact ⟨c, cs, rfl⟩
  refine g_ixS (c := c) hl (by omega) (by rw [hc]; rfl) ?_
  walk_at "g"
  have rest : (c = 48 → w.length = 1) → tSeq (tFor (iStr (tVar 0)) (gName 1) (tIfS (tTest (tOp rNotInS (tVar 1) (tC (.str "0123456789")))) (tRaise E G.NoBoard) tNext)) (tRet (tCB mIntS (tCons (tVar 0) tNil))) { nx := fun _ H' => Q .non H', rt := Q } [some (.str w), none] H := by
    intro h2
    walk_at "g"
    refine g_forS ?_
    walk_at "g"
    refine ⟨w, rfl, ?_⟩
    refine loopS (fun k σ H' => (∃ v, σ = [some (.str w), v]) ∧ H' = H ∧ ∀ j, j < k → ∀ d, w.cps.toList[j]? = some d → 48 ≤ d ∧ d ≤ 57) ⟨⟨_, rfl⟩, rfl, fun j hj => by omega⟩ ?_ ?_
    · rintro k d σ H' hd ⟨⟨v, rfl⟩, rfl, hall⟩
      show tIfS _ _ _ _ [some (.str w), some (.str ⟨#[d]⟩)] H'
      walk_at "g"
      refine ⟨d, _, rfl, rfl, ?_⟩
      walk_at "g"
      refine ifN (fun h3 => ?_) (fun h3 => ?_)
      · walk_at "g"
        exact q1 fun ok => h3 (in_figs.mpr (ok.2.2.2 d (List.mem_of_getElem? hd)))
      · walk_at "g"
        refine ⟨⟨_, rfl⟩, rfl, fun j hj d2 hd2 => ?_⟩
        by_cases z : j < k
        · exact hall j z d2 hd2
        · have : j = k := by omega
          subst this
          rw [hd] at hd2
          cases hd2
          exact in_figs.mp h3
    · rintro σ H' ⟨⟨v, rfl⟩, rfl, hall⟩
      have ok : NumOk w := ⟨ne, by omega, fun z => h2 (by rw [hc] at z; exact Option.some.inj z), fun d hd => by
        obtain ⟨j, hj, e⟩ := List.getElem_of_mem hd
        exact hall j hj d (by rw [List.getElem?_eq_getElem hj, e])⟩
      walk_at "g"
      refine g_intS ok.reads (by omega) ?_
      exact q2 ok
  refine ifP (fun h2 => ?_) (fun h2 => ?_)
  · walk_at "g"
    refine g_lenS hl ?_
    walk_at "g"
    refine ifP (fun h3 => ?_) (fun h3 => ?_)
    · walk_at "g"
      refine q1 fun ok => ?_
      have := ok.2.2.1 (by rw [hc, zero_iff.mp h2]; rfl)
      omega
    · refine g_next ?_
      exact rest fun _ => by
        have : w.cps.toList.length = cs.length + 1 := by rw [hc]; rfl
        omega
  · refine g_next ?_
    exact rest fun z => absurd (zero_iff.mpr z) h2

def ExitOk (w : Str) : Prop := w = "pit" ∨ NumOk w
def exitOfW (w : Str) : Int := if w = "pit" then -1 else numOf w
@[irreducible] def sp_exit_of (_ : PySem.W.Frag) (G : Ads) : Sp := fun vs H Q E => ∃ w : Str, vs = [.str w] ∧ w.length ≤ 100000 ∧ (¬ ExitOk w → E (.ref G.NoBoard) none H) ∧ (ExitOk w → Q (.int (exitOfW w)) H)
theorem len_exit_of {K : PySem.W.Frag} {G : Ads} {vs H Q E} (h : sp_exit_of K G vs H Q E) : vs.length = 1 := by
  unfold sp_exit_of at h
  obtain ⟨_, rfl, _⟩ := h
  rfl
theorem c_exit_of {K : PySem.W.Frag} {G : Ads} {H : Hp} {Q : VK} {E : XK} {w : Str} (hl : w.length ≤ 100000) (ok : ExitOk w) (q : Q (.int (exitOfW w)) H) : sp_exit_of K G [.str w] H Q E := by
  unfold sp_exit_of
  exact ⟨w, rfl, hl, fun h => absurd ok h, fun _ => q⟩
def t_exit_of (K : PySem.W.Frag) (G : Ads) (E : XK) : TS :=
  (tSeq (tIfS (tTest (tOp rEq (tVar 0) (tC (.str "pit"))))
    (tRet (tC (.int (-1))))
    tNext)
    (tRet (tCall (sp_number_of K G) [] E (tCons (tVar 0) tNil))))
abbrev N_exit_of : List Str := ["word"]

theorem pure_exit_of {K : PySem.W.Frag} {G : Ads} {vs H Q E} (h : sp_exit_of K G vs H Q E) : t_exit_of K G E { nx := fun _ H' => Q .non H', rt := Q } (start N_exit_of vs) H := by
  unfold sp_exit_of at h
  obtain ⟨w, rfl, hl, q1, q2⟩ := h
  show t_exit_of K G E _ [some (.str w)] H
  unfold t_exit_of
  walk_at "g"
  refine ifP (fun h0 => ?_) (fun h0 => ?_)
  · walk_at "g"
    have e : exitOfW w = -1 := if_pos h0
    have z := q2 (.inl h0)
    rw [e] at z
    exact z
  · walk_at "g"
    unfold sp_number_of
    refine ⟨w, rfl, hl, fun n => q1 fun z => z.elim h0 n, fun ok => ?_⟩
    have e : exitOfW w = numOf w := if_neg h0
    have z := q2 (.inr ok)
    rw [e] at z
    exact z

def sp_site_of_k28 (_ : PySem.W.Frag) (_ : Ads) : Sp := fun _ _ _ _ => False
theorem len_site_of_k28 {K : PySem.W.Frag} {G : Ads} {vs H Q E} (h : sp_site_of_k28 K G vs H Q E) : vs.length = 1 := h.elim
def t_site_of_k28 (K : PySem.W.Frag) (G : Ads) (E : XK) : TS :=
  (tSeq (tAsg (tSplit K (tVar 0) (tC (.str " "))) (gName 1))
    (tSeq (tIfS (tOr (tTest (tOp mLt (tCB (mLen K) (tCons (tVar 1) tNil)) (tC (.int 5)))) (tTest (tOp rNe (tOp (rIxL K) (tVar 1) (tC (.int 3))) (tC (.str ">")))))
    (tRaise E G.NoBoard)
    tNext)
    (tSeq (tAsg (tLc (iList K (tSl (rSlL K) (tVar 1) tNoPart (tPart (tC (.int 3))))) (gName 3) tYes (tCall (sp_number_of K G) [] E0 (tCons (tVar 3) tNil)) [3]) (gName 2))
    (tRet (tTup (tCons (tVar 2) (tCons (tLc (iList K (tSl (rSlL K) (tVar 1) (tPart (tC (.int 4))) tNoPart)) (gName 3) tYes (tCall (sp_exit_of K G) [] E0 (tCons (tVar 3) tNil)) [3]) tNil)))))))
abbrev N_site_of_k28 : List Str := ["line", "words", "numbers", "word"]

theorem pure_site_of_k28 {K : PySem.W.Frag} {G : Ads} {vs H Q E} (h : sp_site_of_k28 K G vs H Q E) : t_site_of_k28 K G E { nx := fun _ H' => Q .non H', rt := Q } (start N_site_of_k28 vs) H := h.elim

@[irreducible] def sp_read_k28 (_ : PySem.W.Frag) (G : Ads) : Sp := fun vs H _ E => ∃ n : Nat, vs = [.str ("board " ++ (toString (n : Int) : Str))] ∧ n < 100 ∧ ∀ H', Same H H' → E (.ref G.NoBoard) none H'
theorem len_read_k28 {K : PySem.W.Frag} {G : Ads} {vs H Q E} (h : sp_read_k28 K G vs H Q E) : vs.length = 1 := by
  unfold sp_read_k28 at h
  obtain ⟨_, rfl, _⟩ := h
  rfl
theorem c_read_k28 {K : PySem.W.Frag} {G : Ads} {H : Hp} {Q : VK} {E : XK} {n : Nat} (h : n < 100) (q : ∀ H', Same H H' → E (.ref G.NoBoard) none H') : sp_read_k28 K G [.str ("board " ++ (toString (n : Int) : Str))] H Q E := by
  unfold sp_read_k28
  exact ⟨n, rfl, h, q⟩
theorem lcNone {K : PySem.W.Frag} {σ : L2.St} {H : Hp} {Q : VK} {te : TE} {i : Nat} {vs : List Nat} {a : Addr} (s : SqL K H a []) (hw : ∀ x : V, wipe ((wipe σ vs).set i (some x)) vs = wipe σ vs) (hd : ∀ D H1, H D = none → Same H H1 → H1 D = some (.lst []) → Q (.ref D) H1) : LcL K a i tYes te vs σ H Q :=
  lcLI (xs := []) (fun ns => ns = []) rfl (by decide) s hw (fun D k v ns H1 R hx _ _ _ _ => by simp at hx) fun D ns H1 nD _ e sm hh => hd D H1 nD sm (by rw [hh, e]; rfl)
def t_read_k28 (K : PySem.W.Frag) (G : Ads) (E : XK) : TS :=
  (tSeq (tAsg (tSplit K (tVar 0) (tC (.str "\n"))) (gName 1))
    (tSeq (tAsg (tSplit K (tOp (rIxL K) (tVar 1) (tC (.int 0))) (tC (.str " "))) (gName 2))
    (tSeq (tIfS (tOr (tTest (tOp rNe (tCB (mLen K) (tCons (tVar 2) tNil)) (tC (.int 2)))) (tTest (tOp rNe (tOp (rIxL K) (tVar 2) (tC (.int 0))) (tC (.str "board")))))
    (tRaise E G.NoBoard)
    tNext)
    (tSeq (tAsg (tCall (sp_number_of K G) [] E (tCons (tOp (rIxL K) (tVar 2) (tC (.int 1))) tNil)) (gName 3))
    (tSeq (tAsg (tLc (iList K (tSl (rSlL K) (tVar 1) (tPart (tC (.int 1))) tNoPart)) (gName 7) tYes (tCall (sp_site_of_k28 K G) [] E0 (tCons (tVar 7) tNil)) [7]) (gName 4))
    (tSeq (tTry1 K (.ref G.BoardError) (fun W => (tSeq (tAsg (tMakeT G.Board (sp_Board_init K G) (WE W) (tCons (tLc (iList K (tVar 4)) (gName 8) tYes (tOp (rIxT K) (tVar 8) (tC (.int 1))) [8]) tNil)) (gName 5))
    (tFor (iRng1 (tCons (tCB (mLen K) (tCons (tVar 4) tNil)) tNil)) (gName 6)
    (tSeq (tDrop (tMethT G.Board "turn_to" (sp_Board_turn_to K G) (WE W) (tVar 5) (tCons (tVar 6) (tCons (tOp (rIxL K) (tOp (rIxT K) (tOp (rIxL K) (tVar 4) (tVar 6)) (tC (.int 0))) (tC (.int 0))) tNil))))
    (tDrop (tMethT G.Board "load" (sp_Board_load K G) (WE W) (tVar 5) (tCons (tVar 6) (tCons (tOp (rIxL K) (tOp (rIxT K) (tOp (rIxL K) (tVar 4) (tVar 6)) (tC (.int 0))) (tC (.int 1))) tNil)))))))) (fun a cls d => tRaise E G.NoBoard) (fun cls d _ H => E cls d H))
    (tSeq (sFld K (tVar 5) (tLc (iList K (tVar 4)) (gName 8) tYes (tOp (rIxL K) (tOp (rIxT K) (tVar 8) (tC (.int 0))) (tC (.int 2))) [8]) "steps")
    (tSeq (sFld K (tVar 5) (tVar 3) "taken")
    (tRet (tVar 5))))))))))
abbrev N_read_k28 : List Str := ["text", "lines", "head", "taken", "parts", "board", "at", "line", "part"]

theorem pure_read_k28 {K : PySem.W.Frag} {G : Ads} {vs H Q E} (bd : BdOk K G) (e1 : PySem.W.exmOne K (.ref G.NoSite) (.ref G.BoardError) = some true) (h : sp_read_k28 K G vs H Q E) : t_read_k28 K G E { nx := fun _ H' => Q .non H', rt := Q } (start N_read_k28 vs) H := by
  unfold sp_read_k28 at h
  obtain ⟨n, rfl, hn, q⟩ := h
  show t_read_k28 K G E _ [some (.str ("board " ++ (toString (n : Int) : Str))), none, none, none, none, none, none, none, none] H
  have sp1 : Txt.split ("board " ++ (toString (n : Int) : Str)) "\n" = [("board " ++ (toString (n : Int) : Str))] := by
    have z := split1 (y := "\n") nl_cps (by decide +kernel) (parts := [("board " ++ (toString (n : Int) : Str))]) (by simp) fun p hp => by
      rw [List.mem_singleton.mp hp]
      exact head_line n
    rw [join_cons] at z
    exact z
  have sp2 := head_split n
  have hw := num_ok (n := n) (by omega)
  have tl := ts_len' (i := (n : Int)) (by omega) (by omega)
  have hl : ("board " ++ (toString (n : Int) : Str) : Str).length ≤ 26 := head_len (n := (n : Int)) (by omega)
  generalize ("board " ++ (toString (n : Int) : Str) : Str) = text at sp1 sp2 hl
  generalize (toString (n : Int) : Str) = w at sp2 hw tl
  have BL : 100000 ≤ sizeLine := by decide
  unfold t_read_k28
  walk_at "g"
  refine g_split ?_
  walk_at "g"
  refine ⟨⟨_, rfl⟩, ?_⟩
  walk_at "g"
  refine ⟨text, "\n", rfl, rfl, by decide +kernel, by omega, ?_⟩
  rw [sp1]
  intro p np
  have led1 : Led H [(p, .lst [V.str text])] (upd H p (.lst [V.str text])) := (Led.nil H).alloc np _
  show tSeq _ _ _ [some (.str text), some (.ref p), none, none, none, none, none, none, none] (upd H p (.lst [V.str text]))
  generalize upd H p (.lst [V.str text]) = H1 at led1
  walk_at "g"
  refine g_split ?_
  walk_at "g"
  refine g_ixV (led1.sq 0 rfl) (by omega) (v := .str text) rfl ?_
  refine ⟨⟨_, rfl⟩, ?_⟩
  walk_at "g"
  refine ⟨text, " ", rfl, rfl, by decide +kernel, by omega, ?_⟩
  rw [sp2]
  intro p2 np2
  have led2 : Led H [(p, .lst [V.str text]), (p2, .lst [V.str "board", V.str w])] (upd H1 p2 (.lst [V.str "board", V.str w])) := led1.alloc np2 _
  show tSeq _ _ _ [some (.str text), some (.ref p), some (.ref p2), none, none, none, none, none, none] (upd H1 p2 (.lst [V.str "board", V.str w]))
  generalize upd H1 p2 (.lst [V.str "board", V.str w]) = H2 at led2
  walk_at "g"
  try refine g_len (led2.sq 1 rfl) ?_
  try walk_at "g"
  try refine ifNf rfl ?_
  try walk_at "g"
  refine g_ixV (led2.sq 1 rfl) (by omega) (v := .str "board") rfl ?_
  walk_at "g"
  try refine ifNf rfl ?_
  try walk_at "g"
  refine g_ixV (led2.sq 1 rfl) (by omega) (v := .str w) rfl ?_
  walk_at "g"
  refine c_number_of hw.1 ?_
  walk_at "g"
  refine ⟨p, _, rfl, led2.sq 0 rfl, fun p3 np3 => ?_⟩
  have led3 : Led H [(p, .lst [V.str text]), (p2, .lst [V.str "board", V.str w]), (p3, .lst [])] (upd H2 p3 (.lst [])) := led2.alloc np3 _
  show ∃ a, V.ref p3 = .ref a ∧ (∃ xs, SqL K (upd H2 p3 (.lst [])) a xs) ∧ LcL K a _ _ _ _ _ (upd H2 p3 (.lst [])) _
  generalize upd H2 p3 (.lst []) = H3 at led3
  refine ⟨p3, rfl, ⟨_, led3.sq 2 rfl⟩, lcNone (led3.sq 2 rfl) (fun _ => rfl) fun p4 H4 np4 s4 e4 => ?_⟩
  have led4 := led3.add s4 np4 e4
  walk_at "g"
  refine lcNone (led4.sq 3 rfl) (fun _ => rfl) fun p5 H5 np5 s5 e5 => ?_
  have R5 : RowsAt H5 p5 [] := ⟨[], e5, rfl, fun i r row h _ => by simp at h⟩
  have led5 := led4.ext s5
  walk_at "g"
  refine c_Board R5 (by decide) (fun row h => by simp at h) (fun _ H6 s6 => ?_) (fun h => by simp at h) fun ok => absurd ok.1 (by decide)
  refine ⟨true, e1, fun _ y ny => ?_, fun h => by cases h⟩
  walk_at "g"
  exact q H6 (led5.same.trans s6)

/-- a row just laid in a list of one -/
theorem rowsLaid1 {H : Hp} {p q : Addr} {row : List Int} (np : H p = none) (nq : upd H p (ilst row) q = none) : Same H (upd (upd H p (ilst row)) q (.lst [V.ref p])) ∧ RowsAt (upd (upd H p (ilst row)) q (.lst [V.ref p])) q [row] := by
  have ne : p ≠ q := fun z => by
    subst z
    rw [upd_same] at nq
    cases nq
  refine ⟨(same_upd np).trans (same_upd nq), [p], upd_same, rfl, fun i r row' h1 h2 => ?_⟩
  cases i with
  | zero =>
    cases h1
    cases h2
    rw [upd_ne ne]
    exact upd_same
  | succ i => simp at h1
theorem rowsLaid2 {H : Hp} {p p2 q : Addr} {row row2 : List Int} (np : H p = none) (np2 : upd H p (ilst row) p2 = none) (nq : upd (upd H p (ilst row)) p2 (ilst row2) q = none) :
    Same H (upd (upd (upd H p (ilst row)) p2 (ilst row2)) q (.lst [V.ref p, V.ref p2])) ∧ RowsAt (upd (upd (upd H p (ilst row)) p2 (ilst row2)) q (.lst [V.ref p, V.ref p2])) q [row, row2] := by
  have led := (((Led.nil H).alloc np (ilst row)).alloc np2 (ilst row2)).alloc nq (.lst [V.ref p, V.ref p2])
  refine ⟨led.same, [p, p2], led.get 2 rfl, rfl, fun i r row' h1 h2 => ?_⟩
  match i, h1, h2 with
  | 0, h1, h2 =>
    cases h1
    cases h2
    exact led.get 0 rfl
  | 1, h1, h2 =>
    cases h1
    cases h2
    exact led.get 1 rfl
theorem rch_loop {rows : List (List Int)} {k : Nat} (h : ∀ g, g ∈ rows.getD k [] → g = (k : Int)) : ∀ m, ¬ Rch rows m k
  | 0, r => r.zero
  | m + 1, r => by
    cases r with
    | pit h1 h2 =>
      have := h _ h2
      omega
    | @via _ j _ h1 h2 r =>
      have e := h _ h2
      have : j = k := by omega
      subst this
      exact rch_loop h m r
/-- all lead to the pit -/
def AllPit (rows : List (List Int)) : Prop := ∀ row, row ∈ rows → ∀ g, g ∈ row → g = -1
theorem AllPit.last {rows : List (List Int)} (ap : AllPit rows) (ok : OkRows rows) {k : Nat} (hk : k < rows.length) (t : Int) : lastAt rows k t = -1 := ap _ (getD_mem hk) _ (lastAt_mem ok hk t)
theorem AllPit.opens {rows : List (List Int)} (ap : AllPit rows) (ok : OkRows rows) : Open rows := fun k hk => by
  have h1 := (ok.row hk).1
  refine ⟨1, .pit hk ?_⟩
  have m := getD_mem (l := rows.getD k []) (k := 0) (d := 0) (by omega)
  rw [ap _ (getD_mem hk) _ m] at m
  exact m
theorem AllPit.tree {rows : List (List Int)} (ap : AllPit rows) (ok : OkRows rows) (turns : List Int) : Tree rows turns := fun k hk => by
  rw [lastRows_len] at hk
  refine ⟨1, .pit (by rw [lastRows_len]; exact hk) ?_⟩
  rw [lastRows_get hk, List.mem_singleton]
  exact (ap.last ok hk _).symm
theorem AllPit.back {rows : List (List Int)} (ap : AllPit rows) (ok : OkRows rows) {turns : List Int} {k : Nat} (hk : k < rows.length) : ∃ T, BackFrom rows (k : Int) turns (-1) 1 T := by
  have l1 : ∀ ts : List Int, lx rows ts (k : Int) (k : Int) = -1 := fun ts => by
    rw [lx_at]
    exact ap.last ok hk _
  have l2 : ∀ ts : List Int, lx rows ts (k : Int) (-1) = k := fun ts => rfl
  refine ⟨_, .step hk ⟨1, (l2 turns).symm, l1 turns, fun i hi => ?_⟩ (.zero ⟨1, (l1 _).symm, l2 _, fun i hi => ?_⟩)⟩
  · have : i = 0 := by omega
    subst this
    show ¬ lx rows turns (k : Int) (-1) = -1
    rw [l2]
    omega
  · have : i = 0 := by omega
    subst this
    show ¬ lx rows _ (k : Int) (k : Int) = k
    rw [l1]
    omega
@[irreducible] def sp_deed_k28 (_ : PySem.W.Frag) (G : Ads) : Sp := fun vs H _ E => ∃ (B : Hp) (b dx r t l s : Addr) (rows : List (List Int)) (w at_ : Nat),
  vs = [.ref b, .int w, .int at_, .int ((rows.getD at_ []).length : Int)] ∧ w < 10 ∧ Led B (bl G.Board b dx r t l s (List.replicate rows.length 0) (List.replicate rows.length 0) (List.replicate rows.length 0) 0) H ∧ RowsAt B r rows ∧ OkRows rows ∧ AllPit rows ∧ at_ < rows.length ∧
  ∀ H', Same B H' → E (.ref (clsAt G w)) none H'
theorem len_deed_k28 {K : PySem.W.Frag} {G : Ads} {vs H Q E} (h : sp_deed_k28 K G vs H Q E) : vs.length = 4 := by
  unfold sp_deed_k28 at h
  obtain ⟨_, _, _, _, _, _, _, _, _, _, rfl, _⟩ := h
  rfl
theorem c_deed_k28 {K : PySem.W.Frag} {G : Ads} {H B : Hp} {Q : VK} {E : XK} {b dx r t l s : Addr} {rows : List (List Int)} {w at_ : Nat} (hw : w < 10) (led : Led B (bl G.Board b dx r t l s (List.replicate rows.length 0) (List.replicate rows.length 0) (List.replicate rows.length 0) 0) H) (R : RowsAt B r rows) (ok : OkRows rows) (ap : AllPit rows) (ha : at_ < rows.length)
    (q : ∀ H', Same B H' → E (.ref (clsAt G w)) none H') : sp_deed_k28 K G [.ref b, .int w, .int at_, .int ((rows.getD at_ []).length : Int)] H Q E := by
  unfold sp_deed_k28
  exact ⟨B, b, dx, r, t, l, s, rows, w, at_, rfl, hw, led, R, ok, ap, ha, q⟩
def t_deed_k28 (K : PySem.W.Frag) (G : Ads) (E : XK) : TS :=
  (tIfS (tTest (tOp rEq (tVar 1) (tC (.int 0))))
    (tDrop (tMeth G.Board "turn_to" (sp_Board_turn_to K G) [] E (tVar 0) (tCons (tVar 2) (tCons (tVar 3) tNil))))
    (tIfS (tTest (tOp rEq (tVar 1) (tC (.int 1))))
    (tDrop (tMeth G.Board "turn_to" (sp_Board_turn_to K G) [] E (tVar 0) (tCons (tCB (mLen K) (tCons (tFld K (tVar 0) "rows") tNil)) (tCons (tC (.int 0)) tNil))))
    (tIfS (tTest (tOp rEq (tVar 1) (tC (.int 2))))
    (tDrop (tMake G.Board (sp_Board_init K G) [] E (tCons (tLst (tCons (tLst (tCons (tC (.int 0)) (tCons (tOp mAdd (tC (.int 1)) (tVar 2)) tNil))) tNil)) tNil)))
    (tIfS (tTest (tOp rEq (tVar 1) (tC (.int 3))))
    (tDrop (tCall (sp_step K G) [] E (tCons (tVar 0) (tCons (tVar 2) tNil))))
    (tIfS (tTest (tOp rEq (tVar 1) (tC (.int 4))))
    (tDrop (tMeth G.Board "load" (sp_Board_load K G) [] E (tVar 0) (tCons (tVar 2) (tCons (tC (.int 401)) tNil))))
    (tIfS (tTest (tOp rEq (tVar 1) (tC (.int 5))))
    (tDrop (tCall (sp_run K G) [] E (tCons (tMake G.Board (sp_Board_init K G) [] E (tCons (tLst (tCons (tLst (tCons (tC (.int 0)) tNil)) (tCons (tLst (tCons (tC (.int 1)) (tCons (tC (.int 0)) tNil))) tNil))) tNil)) (tCons (tC (.int 9)) tNil))))
    (tIfS (tTest (tOp rEq (tVar 1) (tC (.int 6))))
    (tSeq (tDrop (tMeth G.Board "load" (sp_Board_load K G) [] E (tVar 0) (tCons (tVar 2) (tCons (tC (.int 1)) tNil))))
    (tDrop (tCall (sp_run_back K G) [] E (tCons (tVar 0) (tCons (tVar 2) (tCons (tC (.int 9)) tNil))))))
    (tIfS (tTest (tOp rEq (tVar 1) (tC (.int 7))))
    (tDrop (tCall (sp_run_back K G) [] E (tCons (tMake G.Board (sp_Board_init K G) [] E (tCons (tLst (tCons (tLst (tCons (tUn mNeg (tC (.int 1))) (tCons (tC (.int 0)) tNil))) tNil)) tNil)) (tCons (tC (.int 0)) (tCons (tC (.int 9)) tNil)))))
    (tIfS (tTest (tOp rEq (tVar 1) (tC (.int 8))))
    (tDrop (tCall (sp_run_back K G) [] E (tCons (tVar 0) (tCons (tVar 2) (tCons (tC (.int 0)) tNil)))))
    (tDrop (tCall (sp_read_k28 K G) [] E (tCons (tOp mCatS (tC (.str "board ")) (tCB mStr (tCons (tVar 2) tNil))) tNil))))))))))))
abbrev N_deed_k28 : List Str := ["board", "way", "at", "size"]

theorem pure_deed_k28 {K : PySem.W.Frag} {G : Ads} {vs H Q E} (bd : BdOk K G) (h : sp_deed_k28 K G vs H Q E) : t_deed_k28 K G E { nx := fun _ H' => Q .non H', rt := Q } (start N_deed_k28 vs) H := by
  unfold sp_deed_k28 at h
  obtain ⟨B, b, dx, r, t, l, s, rows, w, at_, rfl, hw, led, R, ok, ap, ha, q⟩ := h
  show t_deed_k28 K G E _ [some (.ref b), some (.int w), some (.int at_), some (.int ((rows.getD at_ []).length : Int))] H
  unfold t_deed_k28
  have hn := ok.2.1
  have hrow := ok.row ha
  generalize hz : List.replicate rows.length (0 : Int) = zs at led
  have hzl : zs.length = rows.length := by rw [← hz]; simp
  have hz0 : ∀ k, zs.getD k 0 = 0 := fun k => by
    rw [← hz, List.getD_eq_getElem?_getD, List.getElem?_replicate]
    split <;> rfl
  have hzs : zs.sum = 0 := by rw [← hz]; simp
  have x : LB G.Board B (bl G.Board b dx r t l s zs zs zs 0) 0 b dx r t l s rows zs zs zs 0 := ⟨rfl, rfl, rfl, rfl, R⟩
  have tk : TurnsOk rows zs := ⟨hzl, fun k hk => by
    rw [hz0]
    have := (ok.row hk).1
    omega⟩
  have sk : SOk rows ⟨zs, zs, zs, 0⟩ := ⟨tk, hzl, hzl⟩
  have e0 : ((at_ : Int)).toNat = at_ := by omega
  have hc : w = 0 ∨ w = 1 ∨ w = 2 ∨ w = 3 ∨ w = 4 ∨ w = 5 ∨ w = 6 ∨ w = 7 ∨ w = 8 ∨ w = 9 := by omega
  rcases hc with rfl | rfl | rfl | rfl | rfl | rfl | rfl | rfl | rfl | rfl
  · walk_at "g"
    refine g_self (led.get 0 rfl) bm_turn_to ?_
    walk_at "g"
    unfold sp_Board_turn_to
    exact ⟨B, _, 0, b, dx, r, t, l, s, rows, zs, zs, zs, 0, _, _, rfl, led, x, hzl, fun h => absurd ⟨by omega, by omega⟩ h, fun _ _ _ => q _ led.same, fun _ _ _ h => by rw [e0] at h; omega⟩
  · walk_at "g"
    refine g_self (led.get 0 rfl) bm_turn_to ?_
    walk_at "g"
    refine g_bfld (led.get 0 rfl) bd.cl bd.n_rows bf_rows ?_
    walk_at "g"
    try refine g_lenR (led.ra R) ?_
    try walk_at "g"
    unfold sp_Board_turn_to
    exact ⟨B, _, 0, b, dx, r, t, l, s, rows, zs, zs, zs, 0, _, _, rfl, led, x, hzl, fun _ => q _ led.same, fun _ h => by omega, fun _ h => by omega⟩
  · walk_at "g"
    refine ⟨by show 2 ≤ sizeLine; decide, fun p np => ?_⟩
    walk_at "g"
    refine ⟨by show 1 ≤ sizeLine; decide, fun p2 np2 => ?_⟩
    obtain ⟨s1, R1⟩ := rowsLaid1 (row := [0, 1 + at_]) np np2
    have bad : ¬ OkRows [[0, 1 + (at_ : Int)]] := fun z => by
      have := (z.2.2 _ (List.mem_singleton.mpr rfl)).2.2 (1 + (at_ : Int)) (by simp)
      simp at this
      omega
    walk_at "g"
    refine c_Board R1 (by show 1 ≤ 10000; decide) (fun row h => by rw [List.mem_singleton.mp h]; show 2 ≤ 10000; decide) (fun h => by simp at h) (fun _ _ _ H' s2 => q H' (led.same.trans (s1.trans s2))) (fun z => absurd z bad)
  · walk_at "g"
    unfold sp_step
    exact ⟨B, _, 0, b, dx, r, t, l, s, rows, ⟨zs, zs, zs, 0⟩, at_, rfl, led, x, ok, sk, fun h => absurd ⟨by omega, by omega⟩ h, fun _ _ _ => q _ led.same, fun _ _ h => absurd (hz0 _) h⟩
  · walk_at "g"
    refine g_self (led.get 0 rfl) bm_load ?_
    walk_at "g"
    unfold sp_Board_load
    exact ⟨B, _, 0, b, dx, r, t, l, s, rows, zs, zs, zs, 0, _, _, rfl, led, x, hzl, fun h => absurd ⟨by omega, by omega⟩ h, fun _ _ _ => q _ led.same, fun _ _ h => by rw [hzs] at h; omega⟩
  · walk_at "g"
    refine ⟨by show 1 ≤ sizeLine; decide, fun p np => ?_⟩
    walk_at "g"
    refine ⟨by show 2 ≤ sizeLine; decide, fun p2 np2 => ?_⟩
    walk_at "g"
    refine ⟨by show 2 ≤ sizeLine; decide, fun p3 np3 => ?_⟩
    obtain ⟨s1, R1⟩ := rowsLaid2 (row := [0]) (row2 := [1, 0]) np np2 np3
    have ok2 : OkRows [[0], [1, 0]] := by
      refine ⟨by decide, by decide, fun row h => ?_⟩
      simp only [List.mem_cons, List.not_mem_nil, or_false] at h
      rcases h with rfl | rfl
      · exact ⟨by decide, by decide, fun g hg => by simp at hg; subst hg; decide⟩
      · exact ⟨by decide, by decide, fun g hg => by simp at hg; rcases hg with rfl | rfl <;> decide⟩
    have no : ¬ Open [[0], [1, 0]] := fun op => by
      obtain ⟨m, rc⟩ := op 0 (by decide)
      exact rch_loop (k := 0) (fun g hg => by simp at hg; omega) m rc
    walk_at "g"
    refine c_Board R1 (by decide) (fun row h => by have := (ok2.2.2 row h).2.1; omega) (fun h => by simp at h) (fun _ _ h => absurd ok2 h) fun _ b2 dx2 r2 t2 l2 s2 H2 N2 => ?_
    obtain ⟨B2, sB2, nr2, led2⟩ := N2
    walk_at "g"
    unfold sp_run
    exact ⟨B2, _, 0, b2, dx2, r2, t2, l2, s2, [[0], [1, 0]], ⟨[0, 0], [0, 0], [0, 0], 0⟩, 9, rfl, led2, ⟨rfl, rfl, rfl, rfl, nr2.at_⟩, ok2, ⟨⟨rfl, fun k hk => by
      have : k = 0 ∨ k = 1 := by simp at hk; omega
      rcases this with rfl | rfl <;> exact ⟨by decide, by decide⟩⟩, rfl, rfl⟩, fun _ H' s3 => q H' (led.same.trans (s1.trans (sB2.trans (led2.same.trans s3)))), fun op => absurd op no⟩
  · walk_at "g"
    refine g_self (led.get 0 rfl) bm_load ?_
    walk_at "g"
    refine c_load led x hzl (by omega) (by omega) (by omega) fun H1 led1 => ?_
    walk_at "g"
    unfold sp_run_back
    have sm := sum_setD (xs := zs) (k := at_) (by omega) (zs.getD at_ 0 + 1)
    have tr := ap.tree ok zs
    rw [e0] at led1
    have pos : 0 < (zs.set at_ (zs.getD at_ 0 + 1)).sum := by omega
    refine ⟨B, _, 0, b, dx, r, t, l, s, rows, ⟨zs, zs.set at_ (zs.getD at_ 0 + 1), zs, 0⟩, at_, 9, rfl, led1, ⟨rfl, rfl, rfl, rfl, R⟩, ok, tk, by decide, fun h => absurd ⟨by omega, by omega⟩ h, fun _ h => absurd (ap.opens ok) h, fun _ _ _ H' s2 => q H' (led1.same.trans s2), fun _ _ h => absurd pos h, fun _ _ h => absurd pos h⟩
  · walk_at "g"
    refine ⟨by show 2 ≤ sizeLine; decide, fun p np => ?_⟩
    walk_at "g"
    refine ⟨by show 1 ≤ sizeLine; decide, fun p2 np2 => ?_⟩
    obtain ⟨s1, R1⟩ := rowsLaid1 (row := [-1, 0]) np np2
    have ok2 : OkRows [[-1, 0]] := by
      refine ⟨by decide, by decide, fun row h => ?_⟩
      rw [List.mem_singleton.mp h]
      exact ⟨by decide, by decide, fun g hg => by simp at hg; rcases hg with rfl | rfl <;> decide⟩
    have op : Open [[-1, 0]] := fun k hk => by
      have : k = 0 := by simp at hk; omega
      subst this
      exact ⟨1, .pit hk (by simp)⟩
    have no : ¬ Tree [[-1, 0]] [0] := fun tr => by
      obtain ⟨m, rc⟩ := tr 0 (by decide)
      exact rch_loop (k := 0) (fun g hg => by
        rw [lastRows_get (by decide), List.mem_singleton] at hg
        rw [hg]
        decide) m rc
    walk_at "g"
    refine c_Board R1 (by decide) (fun row h => by have := (ok2.2.2 row h).2.1; omega) (fun h => by simp at h) (fun _ _ h => absurd ok2 h) fun _ b2 dx2 r2 t2 l2 s2 H2 N2 => ?_
    obtain ⟨B2, sB2, nr2, led2⟩ := N2
    walk_at "g"
    unfold sp_run_back
    exact ⟨B2, _, 0, b2, dx2, r2, t2, l2, s2, [[-1, 0]], ⟨[0], [0], [0], 0⟩, 0, 9, rfl, led2, ⟨rfl, rfl, rfl, rfl, nr2.at_⟩, ok2, ⟨rfl, fun k hk => by
      have : k = 0 := by simp at hk; omega
      subst this
      exact ⟨by decide, by decide⟩⟩, by decide, fun h => absurd ⟨by decide, by decide⟩ h, fun _ h => absurd op h, fun _ _ h => by simp at h, fun _ _ _ _ H' s3 => q H' (led.same.trans (s1.trans (sB2.trans (led2.same.trans s3)))), fun _ _ _ tr => absurd tr no⟩
  · walk_at "g"
    unfold sp_run_back
    obtain ⟨T, bk⟩ := ap.back ok (turns := zs) ha
    exact ⟨B, _, 0, b, dx, r, t, l, s, rows, ⟨zs, zs, zs, 0⟩, at_, 0, rfl, led, x, ok, tk, by decide, fun h => absurd ⟨by omega, by omega⟩ h, fun _ h => absurd (ap.opens ok) h, fun _ _ h => by rw [hzs] at h; omega, fun _ _ _ h => absurd (ap.tree ok zs) h,
      fun _ _ _ _ => ⟨1, T, bk, fun _ H' s1 => q H' (led.same.trans s1), fun h => by omega⟩⟩
  · walk_at "g"
    refine g_str (by omega) (by omega) ?_
    have hl := head_len (n := (at_ : Int)) ⟨by omega, by omega⟩
    rw [lenA] at hl
    refine g_cat (Nat.le_trans hl (by decide)) ?_
    walk_at "g"
    exact c_read_k28 (by omega) fun H' s1 => q H' (led.same.trans s1)

@[irreducible] def sp_marks_k28 (_ : PySem.W.Frag) (G : Ads) : Addr × Obj → Sp := fun p vs H Q _ => ∃ j : Nat, j < 10 ∧ vs = [.ref p.1] ∧ p.2.cls = .ref (clsAt G j) ∧ p.2.dict = none ∧ ∀ D H', Same H H' → H' D = some (blst (marks j)) → Q (.ref D) H'
theorem len_marks_k28 {K : PySem.W.Frag} {G : Ads} {p vs H Q E} (h : sp_marks_k28 K G p vs H Q E) : vs.length = 1 := by
  unfold sp_marks_k28 at h
  obtain ⟨_, _, rfl, _⟩ := h
  rfl
theorem g_catBs {p q : Addr} {as bs : List Bool} {H : Hp} {Q : VK} (e1 : H p = some (blst as)) (e2 : H q = some (blst bs)) (hl : as.length + bs.length ≤ 100000) (h : ∀ c, H c = none → Q (.ref c) (upd H c (blst (as ++ bs)))) : rCat (.ref p) (.ref q) H Q :=
  ⟨p, q, _, _, rfl, rfl, e1, e2, by rw [List.length_map, List.length_map]; exact Nat.le_trans hl (by decide), fun c nc => by
    have z := h c nc
    rw [blst, List.map_append] at z
    exact z⟩
theorem marks_eq {j : Nat} (h : j < 10) : marks j = [decide (0 = j), decide (1 = j), decide (2 = j), decide (3 = j)] ++ [decide (4 = j), decide (5 = j), decide (6 = j), decide (7 = j)] ++ [decide (8 = j), decide (9 = j), true] := by
  have hc : j = 0 ∨ j = 1 ∨ j = 2 ∨ j = 3 ∨ j = 4 ∨ j = 5 ∨ j = 6 ∨ j = 7 ∨ j = 8 ∨ j = 9 := by omega
  rcases hc with rfl | rfl | rfl | rfl | rfl | rfl | rfl | rfl | rfl | rfl <;> rfl
def t_marks_k28 (K : PySem.W.Frag) (G : Ads) (E : XK) (p : Addr × Obj) : TS :=
  (tSeq (tAsg (tLst (tCons (tCB (rIsX K p.1 p.2.cls p.2.dict) (tCons (tVar 0) (tCons (tC (.ref G.NoPlace)) tNil))) (tCons (tCB (rIsX K p.1 p.2.cls p.2.dict) (tCons (tVar 0) (tCons (tC (.ref G.NoSite)) tNil))) (tCons (tCB (rIsX K p.1 p.2.cls p.2.dict) (tCons (tVar 0) (tCons (tC (.ref G.NoExit)) tNil))) (tCons (tCB (rIsX K p.1 p.2.cls p.2.dict) (tCons (tVar 0) (tCons (tC (.ref G.NoMarble)) tNil))) tNil))))) (gName 1))
    (tSeq (tAsg (tOp rCat (tVar 1) (tLst (tCons (tCB (rIsX K p.1 p.2.cls p.2.dict) (tCons (tVar 0) (tCons (tC (.ref G.TooMany)) tNil))) (tCons (tCB (rIsX K p.1 p.2.cls p.2.dict) (tCons (tVar 0) (tCons (tC (.ref G.NotOpen)) tNil))) (tCons (tCB (rIsX K p.1 p.2.cls p.2.dict) (tCons (tVar 0) (tCons (tC (.ref G.NotBare)) tNil))) (tCons (tCB (rIsX K p.1 p.2.cls p.2.dict) (tCons (tVar 0) (tCons (tC (.ref G.NotTree)) tNil))) tNil)))))) (gName 1))
    (tRet (tOp rCat (tVar 1) (tLst (tCons (tCB (rIsX K p.1 p.2.cls p.2.dict) (tCons (tVar 0) (tCons (tC (.ref G.TooLong)) tNil))) (tCons (tCB (rIsX K p.1 p.2.cls p.2.dict) (tCons (tVar 0) (tCons (tC (.ref G.NoBoard)) tNil))) (tCons (tCB (rIsX K p.1 p.2.cls p.2.dict) (tCons (tVar 0) (tCons (tC (.ty "ValueError")) tNil))) tNil))))))))
abbrev N_marks_k28 : List Str := ["e", "found"]

theorem pure_marks_k28 {K : PySem.W.Frag} {G : Ads} {p : Addr × Obj} {vs H Q E} (v0 : PySem.W.kitOne K (.ref G.NoPlace) (.type "ValueError") = some true) (v1 : PySem.W.kitOne K (.ref G.NoSite) (.type "ValueError") = some true) (v2 : PySem.W.kitOne K (.ref G.NoExit) (.type "ValueError") = some true) (v3 : PySem.W.kitOne K (.ref G.NoMarble) (.type "ValueError") = some true) (v4 : PySem.W.kitOne K (.ref G.TooMany) (.type "ValueError") = some true) (v5 : PySem.W.kitOne K (.ref G.NotOpen) (.type "ValueError") = some true) (v6 : PySem.W.kitOne K (.ref G.NotBare) (.type "ValueError") = some true) (v7 : PySem.W.kitOne K (.ref G.NotTree) (.type "ValueError") = some true) (v8 : PySem.W.kitOne K (.ref G.TooLong) (.type "ValueError") = some true) (v9 : PySem.W.kitOne K (.ref G.NoBoard) (.type "ValueError") = some true)
    (k0_0 : PySem.W.kitOne K (.ref G.NoPlace) (.ref G.NoPlace) = some true) (k0_1 : PySem.W.kitOne K (.ref G.NoPlace) (.ref G.NoSite) = some false) (k0_2 : PySem.W.kitOne K (.ref G.NoPlace) (.ref G.NoExit) = some false) (k0_3 : PySem.W.kitOne K (.ref G.NoPlace) (.ref G.NoMarble) = some false) (k0_4 : PySem.W.kitOne K (.ref G.NoPlace) (.ref G.TooMany) = some false) (k0_5 : PySem.W.kitOne K (.ref G.NoPlace) (.ref G.NotOpen) = some false) (k0_6 : PySem.W.kitOne K (.ref G.NoPlace) (.ref G.NotBare) = some false) (k0_7 : PySem.W.kitOne K (.ref G.NoPlace) (.ref G.NotTree) = some false) (k0_8 : PySem.W.kitOne K (.ref G.NoPlace) (.ref G.TooLong) = some false) (k0_9 : PySem.W.kitOne K (.ref G.NoPlace) (.ref G.NoBoard) = some false)
    (k1_0 : PySem.W.kitOne K (.ref G.NoSite) (.ref G.NoPlace) = some false) (k1_1 : PySem.W.kitOne K (.ref G.NoSite) (.ref G.NoSite) = some true) (k1_2 : PySem.W.kitOne K (.ref G.NoSite) (.ref G.NoExit) = some false) (k1_3 : PySem.W.kitOne K (.ref G.NoSite) (.ref G.NoMarble) = some false) (k1_4 : PySem.W.kitOne K (.ref G.NoSite) (.ref G.TooMany) = some false) (k1_5 : PySem.W.kitOne K (.ref G.NoSite) (.ref G.NotOpen) = some false) (k1_6 : PySem.W.kitOne K (.ref G.NoSite) (.ref G.NotBare) = some false) (k1_7 : PySem.W.kitOne K (.ref G.NoSite) (.ref G.NotTree) = some false) (k1_8 : PySem.W.kitOne K (.ref G.NoSite) (.ref G.TooLong) = some false) (k1_9 : PySem.W.kitOne K (.ref G.NoSite) (.ref G.NoBoard) = some false)
    (k2_0 : PySem.W.kitOne K (.ref G.NoExit) (.ref G.NoPlace) = some false) (k2_1 : PySem.W.kitOne K (.ref G.NoExit) (.ref G.NoSite) = some false) (k2_2 : PySem.W.kitOne K (.ref G.NoExit) (.ref G.NoExit) = some true) (k2_3 : PySem.W.kitOne K (.ref G.NoExit) (.ref G.NoMarble) = some false) (k2_4 : PySem.W.kitOne K (.ref G.NoExit) (.ref G.TooMany) = some false) (k2_5 : PySem.W.kitOne K (.ref G.NoExit) (.ref G.NotOpen) = some false) (k2_6 : PySem.W.kitOne K (.ref G.NoExit) (.ref G.NotBare) = some false) (k2_7 : PySem.W.kitOne K (.ref G.NoExit) (.ref G.NotTree) = some false) (k2_8 : PySem.W.kitOne K (.ref G.NoExit) (.ref G.TooLong) = some false) (k2_9 : PySem.W.kitOne K (.ref G.NoExit) (.ref G.NoBoard) = some false)
    (k3_0 : PySem.W.kitOne K (.ref G.NoMarble) (.ref G.NoPlace) = some false) (k3_1 : PySem.W.kitOne K (.ref G.NoMarble) (.ref G.NoSite) = some false) (k3_2 : PySem.W.kitOne K (.ref G.NoMarble) (.ref G.NoExit) = some false) (k3_3 : PySem.W.kitOne K (.ref G.NoMarble) (.ref G.NoMarble) = some true) (k3_4 : PySem.W.kitOne K (.ref G.NoMarble) (.ref G.TooMany) = some false) (k3_5 : PySem.W.kitOne K (.ref G.NoMarble) (.ref G.NotOpen) = some false) (k3_6 : PySem.W.kitOne K (.ref G.NoMarble) (.ref G.NotBare) = some false) (k3_7 : PySem.W.kitOne K (.ref G.NoMarble) (.ref G.NotTree) = some false) (k3_8 : PySem.W.kitOne K (.ref G.NoMarble) (.ref G.TooLong) = some false) (k3_9 : PySem.W.kitOne K (.ref G.NoMarble) (.ref G.NoBoard) = some false)
    (k4_0 : PySem.W.kitOne K (.ref G.TooMany) (.ref G.NoPlace) = some false) (k4_1 : PySem.W.kitOne K (.ref G.TooMany) (.ref G.NoSite) = some false) (k4_2 : PySem.W.kitOne K (.ref G.TooMany) (.ref G.NoExit) = some false) (k4_3 : PySem.W.kitOne K (.ref G.TooMany) (.ref G.NoMarble) = some false) (k4_4 : PySem.W.kitOne K (.ref G.TooMany) (.ref G.TooMany) = some true) (k4_5 : PySem.W.kitOne K (.ref G.TooMany) (.ref G.NotOpen) = some false) (k4_6 : PySem.W.kitOne K (.ref G.TooMany) (.ref G.NotBare) = some false) (k4_7 : PySem.W.kitOne K (.ref G.TooMany) (.ref G.NotTree) = some false) (k4_8 : PySem.W.kitOne K (.ref G.TooMany) (.ref G.TooLong) = some false) (k4_9 : PySem.W.kitOne K (.ref G.TooMany) (.ref G.NoBoard) = some false)
    (k5_0 : PySem.W.kitOne K (.ref G.NotOpen) (.ref G.NoPlace) = some false) (k5_1 : PySem.W.kitOne K (.ref G.NotOpen) (.ref G.NoSite) = some false) (k5_2 : PySem.W.kitOne K (.ref G.NotOpen) (.ref G.NoExit) = some false) (k5_3 : PySem.W.kitOne K (.ref G.NotOpen) (.ref G.NoMarble) = some false) (k5_4 : PySem.W.kitOne K (.ref G.NotOpen) (.ref G.TooMany) = some false) (k5_5 : PySem.W.kitOne K (.ref G.NotOpen) (.ref G.NotOpen) = some true) (k5_6 : PySem.W.kitOne K (.ref G.NotOpen) (.ref G.NotBare) = some false) (k5_7 : PySem.W.kitOne K (.ref G.NotOpen) (.ref G.NotTree) = some false) (k5_8 : PySem.W.kitOne K (.ref G.NotOpen) (.ref G.TooLong) = some false) (k5_9 : PySem.W.kitOne K (.ref G.NotOpen) (.ref G.NoBoard) = some false)
    (k6_0 : PySem.W.kitOne K (.ref G.NotBare) (.ref G.NoPlace) = some false) (k6_1 : PySem.W.kitOne K (.ref G.NotBare) (.ref G.NoSite) = some false) (k6_2 : PySem.W.kitOne K (.ref G.NotBare) (.ref G.NoExit) = some false) (k6_3 : PySem.W.kitOne K (.ref G.NotBare) (.ref G.NoMarble) = some false) (k6_4 : PySem.W.kitOne K (.ref G.NotBare) (.ref G.TooMany) = some false) (k6_5 : PySem.W.kitOne K (.ref G.NotBare) (.ref G.NotOpen) = some false) (k6_6 : PySem.W.kitOne K (.ref G.NotBare) (.ref G.NotBare) = some true) (k6_7 : PySem.W.kitOne K (.ref G.NotBare) (.ref G.NotTree) = some false) (k6_8 : PySem.W.kitOne K (.ref G.NotBare) (.ref G.TooLong) = some false) (k6_9 : PySem.W.kitOne K (.ref G.NotBare) (.ref G.NoBoard) = some false)
    (k7_0 : PySem.W.kitOne K (.ref G.NotTree) (.ref G.NoPlace) = some false) (k7_1 : PySem.W.kitOne K (.ref G.NotTree) (.ref G.NoSite) = some false) (k7_2 : PySem.W.kitOne K (.ref G.NotTree) (.ref G.NoExit) = some false) (k7_3 : PySem.W.kitOne K (.ref G.NotTree) (.ref G.NoMarble) = some false) (k7_4 : PySem.W.kitOne K (.ref G.NotTree) (.ref G.TooMany) = some false) (k7_5 : PySem.W.kitOne K (.ref G.NotTree) (.ref G.NotOpen) = some false) (k7_6 : PySem.W.kitOne K (.ref G.NotTree) (.ref G.NotBare) = some false) (k7_7 : PySem.W.kitOne K (.ref G.NotTree) (.ref G.NotTree) = some true) (k7_8 : PySem.W.kitOne K (.ref G.NotTree) (.ref G.TooLong) = some false) (k7_9 : PySem.W.kitOne K (.ref G.NotTree) (.ref G.NoBoard) = some false)
    (k8_0 : PySem.W.kitOne K (.ref G.TooLong) (.ref G.NoPlace) = some false) (k8_1 : PySem.W.kitOne K (.ref G.TooLong) (.ref G.NoSite) = some false) (k8_2 : PySem.W.kitOne K (.ref G.TooLong) (.ref G.NoExit) = some false) (k8_3 : PySem.W.kitOne K (.ref G.TooLong) (.ref G.NoMarble) = some false) (k8_4 : PySem.W.kitOne K (.ref G.TooLong) (.ref G.TooMany) = some false) (k8_5 : PySem.W.kitOne K (.ref G.TooLong) (.ref G.NotOpen) = some false) (k8_6 : PySem.W.kitOne K (.ref G.TooLong) (.ref G.NotBare) = some false) (k8_7 : PySem.W.kitOne K (.ref G.TooLong) (.ref G.NotTree) = some false) (k8_8 : PySem.W.kitOne K (.ref G.TooLong) (.ref G.TooLong) = some true) (k8_9 : PySem.W.kitOne K (.ref G.TooLong) (.ref G.NoBoard) = some false)
    (k9_0 : PySem.W.kitOne K (.ref G.NoBoard) (.ref G.NoPlace) = some false) (k9_1 : PySem.W.kitOne K (.ref G.NoBoard) (.ref G.NoSite) = some false) (k9_2 : PySem.W.kitOne K (.ref G.NoBoard) (.ref G.NoExit) = some false) (k9_3 : PySem.W.kitOne K (.ref G.NoBoard) (.ref G.NoMarble) = some false) (k9_4 : PySem.W.kitOne K (.ref G.NoBoard) (.ref G.TooMany) = some false) (k9_5 : PySem.W.kitOne K (.ref G.NoBoard) (.ref G.NotOpen) = some false) (k9_6 : PySem.W.kitOne K (.ref G.NoBoard) (.ref G.NotBare) = some false) (k9_7 : PySem.W.kitOne K (.ref G.NoBoard) (.ref G.NotTree) = some false) (k9_8 : PySem.W.kitOne K (.ref G.NoBoard) (.ref G.TooLong) = some false) (k9_9 : PySem.W.kitOne K (.ref G.NoBoard) (.ref G.NoBoard) = some true)
    (c0 : ExcC K G.NoPlace) (c1 : ExcC K G.NoSite) (c2 : ExcC K G.NoExit) (c3 : ExcC K G.NoMarble) (c4 : ExcC K G.TooMany) (c5 : ExcC K G.NotOpen) (c6 : ExcC K G.NotBare) (c7 : ExcC K G.NotTree) (c8 : ExcC K G.TooLong) (c9 : ExcC K G.NoBoard) (h : sp_marks_k28 K G p vs H Q E) : t_marks_k28 K G E p { nx := fun _ H' => Q .non H', rt := Q } (start N_marks_k28 vs) H := by
  unfold sp_marks_k28 at h
  obtain ⟨j, hj, rfl, h1, h2, q⟩ := h
  show t_marks_k28 K G E p _ [some (.ref p.1), none] H
  unfold t_marks_k28
  rw [h1, h2]
  have cc : ExcC K (clsAt G j) := match j, hj with
    | 0, _ => c0
    | 1, _ => c1
    | 2, _ => c2
    | 3, _ => c3
    | 4, _ => c4
    | 5, _ => c5
    | 6, _ => c6
    | 7, _ => c7
    | 8, _ => c8
    | 9, _ => c9
    | (n + 10), h => absurd h (by omega)
  have vv : PySem.W.kitOne K (.ref (clsAt G j)) (.type "ValueError") = some true := match j, hj with
    | 0, _ => v0
    | 1, _ => v1
    | 2, _ => v2
    | 3, _ => v3
    | 4, _ => v4
    | 5, _ => v5
    | 6, _ => v6
    | 7, _ => v7
    | 8, _ => v8
    | 9, _ => v9
    | (n + 10), h => absurd h (by omega)
  have kk : ∀ i, i < 10 → PySem.W.kitOne K (.ref (clsAt G j)) (.ref (clsAt G i)) = some (decide (i = j)) := match j, hj with
    | 0, _ => fun i hi => match i, hi with
      | 0, _ => k0_0
      | 1, _ => k0_1
      | 2, _ => k0_2
      | 3, _ => k0_3
      | 4, _ => k0_4
      | 5, _ => k0_5
      | 6, _ => k0_6
      | 7, _ => k0_7
      | 8, _ => k0_8
      | 9, _ => k0_9
      | (n + 10), h => absurd h (by omega)
    | 1, _ => fun i hi => match i, hi with
      | 0, _ => k1_0
      | 1, _ => k1_1
      | 2, _ => k1_2
      | 3, _ => k1_3
      | 4, _ => k1_4
      | 5, _ => k1_5
      | 6, _ => k1_6
      | 7, _ => k1_7
      | 8, _ => k1_8
      | 9, _ => k1_9
      | (n + 10), h => absurd h (by omega)
    | 2, _ => fun i hi => match i, hi with
      | 0, _ => k2_0
      | 1, _ => k2_1
      | 2, _ => k2_2
      | 3, _ => k2_3
      | 4, _ => k2_4
      | 5, _ => k2_5
      | 6, _ => k2_6
      | 7, _ => k2_7
      | 8, _ => k2_8
      | 9, _ => k2_9
      | (n + 10), h => absurd h (by omega)
    | 3, _ => fun i hi => match i, hi with
      | 0, _ => k3_0
      | 1, _ => k3_1
      | 2, _ => k3_2
      | 3, _ => k3_3
      | 4, _ => k3_4
      | 5, _ => k3_5
      | 6, _ => k3_6
      | 7, _ => k3_7
      | 8, _ => k3_8
      | 9, _ => k3_9
      | (n + 10), h => absurd h (by omega)
    | 4, _ => fun i hi => match i, hi with
      | 0, _ => k4_0
      | 1, _ => k4_1
      | 2, _ => k4_2
      | 3, _ => k4_3
      | 4, _ => k4_4
      | 5, _ => k4_5
      | 6, _ => k4_6
      | 7, _ => k4_7
      | 8, _ => k4_8
      | 9, _ => k4_9
      | (n + 10), h => absurd h (by omega)
    | 5, _ => fun i hi => match i, hi with
      | 0, _ => k5_0
      | 1, _ => k5_1
      | 2, _ => k5_2
      | 3, _ => k5_3
      | 4, _ => k5_4
      | 5, _ => k5_5
      | 6, _ => k5_6
      | 7, _ => k5_7
      | 8, _ => k5_8
      | 9, _ => k5_9
      | (n + 10), h => absurd h (by omega)
    | 6, _ => fun i hi => match i, hi with
      | 0, _ => k6_0
      | 1, _ => k6_1
      | 2, _ => k6_2
      | 3, _ => k6_3
      | 4, _ => k6_4
      | 5, _ => k6_5
      | 6, _ => k6_6
      | 7, _ => k6_7
      | 8, _ => k6_8
      | 9, _ => k6_9
      | (n + 10), h => absurd h (by omega)
    | 7, _ => fun i hi => match i, hi with
      | 0, _ => k7_0
      | 1, _ => k7_1
      | 2, _ => k7_2
      | 3, _ => k7_3
      | 4, _ => k7_4
      | 5, _ => k7_5
      | 6, _ => k7_6
      | 7, _ => k7_7
      | 8, _ => k7_8
      | 9, _ => k7_9
      | (n + 10), h => absurd h (by omega)
    | 8, _ => fun i hi => match i, hi with
      | 0, _ => k8_0
      | 1, _ => k8_1
      | 2, _ => k8_2
      | 3, _ => k8_3
      | 4, _ => k8_4
      | 5, _ => k8_5
      | 6, _ => k8_6
      | 7, _ => k8_7
      | 8, _ => k8_8
      | 9, _ => k8_9
      | (n + 10), h => absurd h (by omega)
    | 9, _ => fun i hi => match i, hi with
      | 0, _ => k9_0
      | 1, _ => k9_1
      | 2, _ => k9_2
      | 3, _ => k9_3
      | 4, _ => k9_4
      | 5, _ => k9_5
      | 6, _ => k9_6
      | 7, _ => k9_7
      | 8, _ => k9_8
      | 9, _ => k9_9
      | (n + 10), h => absurd h (by omega)
    | (n + 10), h => absurd h (by omega)
  walk_at "g"
  refine g_isX cc (kk 0 (by decide)) ?_
  walk_at "g"
  refine g_isX cc (kk 1 (by decide)) ?_
  walk_at "g"
  refine g_isX cc (kk 2 (by decide)) ?_
  walk_at "g"
  refine g_isX cc (kk 3 (by decide)) ?_
  walk_at "g"
  refine ⟨by show 4 ≤ sizeLine; decide, fun A nA => ?_⟩
  have led1 : Led H [(A, .lst [V.bl (decide (0 = j)), V.bl (decide (1 = j)), V.bl (decide (2 = j)), V.bl (decide (3 = j))])] (upd H A (.lst [V.bl (decide (0 = j)), V.bl (decide (1 = j)), V.bl (decide (2 = j)), V.bl (decide (3 = j))])) := (Led.nil H).alloc nA _
  generalize upd H A _ = H1 at led1 ⊢
  walk_at "g"
  refine g_isX cc (kk 4 (by decide)) ?_
  walk_at "g"
  refine g_isX cc (kk 5 (by decide)) ?_
  walk_at "g"
  refine g_isX cc (kk 6 (by decide)) ?_
  walk_at "g"
  refine g_isX cc (kk 7 (by decide)) ?_
  walk_at "g"
  refine ⟨by show 4 ≤ sizeLine; decide, fun B nB => ?_⟩
  have led2 := led1.alloc nB (.lst [V.bl (decide (4 = j)), V.bl (decide (5 = j)), V.bl (decide (6 = j)), V.bl (decide (7 = j))])
  generalize upd H1 B _ = H2 at led2 ⊢
  refine g_catBs (as := [decide (0 = j), decide (1 = j), decide (2 = j), decide (3 = j)]) (bs := [decide (4 = j), decide (5 = j), decide (6 = j), decide (7 = j)]) (led2.get 0 rfl) (led2.get 1 rfl) (by simp) fun C nC => ?_
  have led3 := led2.alloc nC (blst ([decide (0 = j), decide (1 = j), decide (2 = j), decide (3 = j)] ++ [decide (4 = j), decide (5 = j), decide (6 = j), decide (7 = j)]))
  generalize upd H2 C _ = H3 at led3 ⊢
  walk_at "g"
  refine g_isX cc (kk 8 (by decide)) ?_
  walk_at "g"
  refine g_isX cc (kk 9 (by decide)) ?_
  walk_at "g"
  refine g_isXt cc vv ?_
  walk_at "g"
  refine ⟨by show 3 ≤ sizeLine; decide, fun B2 nB2 => ?_⟩
  have led4 := led3.alloc nB2 (.lst [V.bl (decide (8 = j)), V.bl (decide (9 = j)), V.bl true])
  generalize upd H3 B2 _ = H4 at led4 ⊢
  refine g_catBs (as := [decide (0 = j), decide (1 = j), decide (2 = j), decide (3 = j)] ++ [decide (4 = j), decide (5 = j), decide (6 = j), decide (7 = j)]) (bs := [decide (8 = j), decide (9 = j), true]) (led4.get 2 rfl) (led4.get 3 rfl) (by simp) fun C2 nC2 => ?_
  have led5 := led4.alloc nC2 (blst ([decide (0 = j), decide (1 = j), decide (2 = j), decide (3 = j)] ++ [decide (4 = j), decide (5 = j), decide (6 = j), decide (7 = j)] ++ [decide (8 = j), decide (9 = j), true]))
  rw [← marks_eq hj] at led5 ⊢
  exact q C2 _ led5.same (led5.get 4 rfl)

def t_law_k28 (K : PySem.W.Frag) (G : Ads) (E : XK) : TS :=
  (tSeq (tAsg (tLc (iRng1 (tCons (tOp mAdd (tC (.int 1)) (tCall (sp_drawn K G) [] E0 (tCons (tVar 0) (tCons (tC (.int 1)) (tCons (tC (.int 12)) tNil))))) tNil)) (gName 7) tYes (tLc (iRng1 (tCons (tOp mAdd (tC (.int 1)) (tCall (sp_drawn K G) [] E0 (tCons (tVar 0) (tCons (tOp mAdd (tC (.int 10)) (tVar 7)) (tCons (tC (.int 3)) tNil))))) tNil)) (gName 8) tYes (tUn mNeg (tC (.int 1))) [8]) [7]) (gName 1))
    (tSeq (tAsg (tMake G.Board (sp_Board_init K G) [] E0 (tCons (tLc (iList K (tVar 1)) (gName 9) tYes (tCB (mList K) (tCons (tVar 9) tNil)) [9]) tNil)) (gName 2))
    (tSeq (tAsg (tCall (sp_drawn K G) [] E0 (tCons (tVar 0) (tCons (tC (.int 2)) (tCons (tCB (mLen K) (tCons (tVar 1) tNil)) tNil)))) (gName 3))
    (tSeq (tAsg (tCall (sp_drawn K G) [] E0 (tCons (tVar 0) (tCons (tC (.int 3)) (tCons (tC (.int 10)) tNil)))) (gName 4))
    (tSeq (tAsg (tLst tNil) (gName 5))
    (tSeq (tTryAs K (.ref G.BoardError) 6 (fun W => (tDrop (tCallS (sp_deed_k28 K G) (WE W) (tCons (tVar 2) (tCons (tVar 4) (tCons (tVar 3) (tCons (tCB (mLen K) (tCons (tOp (rIxL K) (tVar 1) (tVar 3)) tNil)) tNil))))))) (fun a cls d => (tAsg (tCallP (sp_marks_k28 K G) a cls d (tCons (tVar 6) tNil)) (gName 5))) (fun _ _ _ _ => False))
    (tRet (tOp (rEqD K) (tVar 5) (tLc (iRng1 (tCons (tC (.int 11)) tNil)) (gName 7) tYes (tOrV (tOp rEq (tVar 7) (tVar 4)) (tOp rEq (tVar 7) (tC (.int 10)))) [7])))))))))
abbrev N_law_k28 : List Str := ["script", "rows", "board", "at", "way", "found", "e", "k", "j", "row"]

theorem pure_law_k28 {K : PySem.W.Frag} {G : Ads} {vs H Q E} (e0 : PySem.W.exmOne K (.ref G.NoPlace) (.ref G.BoardError) = some true) (e1 : PySem.W.exmOne K (.ref G.NoSite) (.ref G.BoardError) = some true) (e2 : PySem.W.exmOne K (.ref G.NoExit) (.ref G.BoardError) = some true) (e3 : PySem.W.exmOne K (.ref G.NoMarble) (.ref G.BoardError) = some true)
    (e4 : PySem.W.exmOne K (.ref G.TooMany) (.ref G.BoardError) = some true) (e5 : PySem.W.exmOne K (.ref G.NotOpen) (.ref G.BoardError) = some true) (e6 : PySem.W.exmOne K (.ref G.NotBare) (.ref G.BoardError) = some true) (e7 : PySem.W.exmOne K (.ref G.NotTree) (.ref G.BoardError) = some true)
    (e8 : PySem.W.exmOne K (.ref G.TooLong) (.ref G.BoardError) = some true) (e9 : PySem.W.exmOne K (.ref G.NoBoard) (.ref G.BoardError) = some true) (h : spLaw K vs H Q E) : t_law_k28 K G E { nx := fun _ H' => Q .non H', rt := Q } (start N_law_k28 vs) H := by
  obtain ⟨a, ns, rfl, hS, _, q⟩ := h
  show t_law_k28 K G E _ [some (.ref a), none, none, none, none, none, none, none, none, none] H
  unfold t_law_k28
  have ec : ∀ w, w < 10 → PySem.W.exmOne K (.ref (clsAt G w)) (.ref G.BoardError) = some true := fun w hw => match w, hw with
    | 0, _ => e0
    | 1, _ => e1
    | 2, _ => e2
    | 3, _ => e3
    | 4, _ => e4
    | 5, _ => e5
    | 6, _ => e6
    | 7, _ => e7
    | 8, _ => e8
    | 9, _ => e9
    | (n + 10), h => absurd h (by omega)
  walk_at "g"
  refine c_drawn hS (by decide) (by decide) (by decide) fun many m0 m1 => ?_
  walk_at "g"
  refine lcRRows (fun rows => ∀ row, row ∈ rows → (1 ≤ row.length ∧ row.length ≤ 3) ∧ ∀ g, g ∈ row → g = -1) (fun row h => by simp at h) (by omega) (fun _ => rfl) ?_ ?_
  · intro D k as rows H1 R hk hrl hP led q2
    have S1 := led.base hS
    walk_at "g"
    refine c_drawn S1 (by omega) (by omega) (by decide) fun size z0 z1 => ?_
    walk_at "g"
    refine lcRI (fun ns => ∀ g, g ∈ ns → g = -1) (fun g h => by simp at h) (by omega) (fun _ => rfl) ?_ ?_
    · intro D2 j ms H2 R2 hj hl hp l2 q3
      walk_at "g"
      refine q3 (-1) H2 (fun g hg => ?_) l2
      rcases List.mem_append.mp hg with h | h
      · exact hp g h
      · exact List.mem_singleton.mp h
    · intro D2 ms H2 nD2 hl hp s2 e2
      refine q2 D2 ms H2 (fun row hr => ?_) (led.add s2 nD2 e2)
      rcases List.mem_append.mp hr with h | h
      · exact hP row h
      · rw [List.mem_singleton.mp h]
        exact ⟨⟨by omega, by omega⟩, hp⟩
  intro p rows H1 hrl hP s1 n1
  have ap : AllPit rows := fun row hr => (hP row hr).2
  have ok : OkRows rows := ⟨by omega, by omega, fun row hr => ⟨(hP row hr).1.1, by have := (hP row hr).1.2; omega, fun g hg => by
    rw [ap row hr g hg]
    exact ⟨by decide, by omega⟩⟩⟩
  have hn := ok.2.1
  have S1 := s1.seq hS
  have R1 := n1.at_
  walk_at "g"
  refine lcCopy R1 (by omega) (fun _ => rfl) (fun _ => rfl) fun p2 H2 s2 n2 => ?_
  walk_at "g"
  refine c_Board n2.at_ (by omega) (fun row h => by have := (ok.2.2 row h).2.1; omega) (fun h => by have := ok.1; omega) (fun _ _ h => absurd ok h) fun _ b dx r t l s H3 N3 => ?_
  obtain ⟨B, sB, nr, led⟩ := N3
  have SB : SqL K B a (ns.map V.int) := sB.seq (s2.seq S1)
  have RB : RowsAt B p rows := (R1.mono s2).mono sB
  walk_at "g"
  try refine g_lenR (led.ra RB) ?_
  try walk_at "g"
  have hn1 := ok.1
  refine c_drawn (led.base SB) (by decide) (by decide) (by omega) fun at_ a0 a1 => ?_
  walk_at "g"
  refine c_drawn (led.base SB) (by decide) (by decide) (by decide) fun way w0 w1 => ?_
  obtain ⟨w, rfl⟩ : ∃ w : Nat, way = w := ⟨way.toNat, by omega⟩
  obtain ⟨k, rfl⟩ : ∃ k : Nat, at_ = k := ⟨at_.toNat, by omega⟩
  have hw : w < 10 := by omega
  walk_at "g"
  refine ⟨by show 0 ≤ sizeLine; decide, fun fo nfo => ?_⟩
  obtain ⟨B2, sB2, led2, k2⟩ := led.rebaseN (same_upd (o := .lst []) nfo)
  walk_at "g"
  refine g_row (led2.ra (RB.mono sB2)) (by omega) (by omega) fun rw1 hrw => ?_
  rw [show ((k : Int)).toNat = k by omega] at hrw
  walk_at "g"
  refine c_deed_k28 hw led2 (nr.at_.mono sB2) ok ap (by omega) fun H4 s4 => ?_
  refine ⟨true, ec w hw, fun _ ex nex => ?_, fun h => by cases h⟩
  walk_at "g"
  refine g_callP ?_
  walk_at "g"
  refine ⟨rfl, fun pe hpe hz hf => ?_⟩
  unfold sp_marks_k28
  refine ⟨w, hw, hpe, hz.1, hz.2, fun D H5 s5 e5 => ?_⟩
  walk_at "g"
  refine lcRB (fun j => decide (j = w) || decide (j = 10)) (by decide) (fun _ => rfl) ?_ ?_
  · intro D2 j ms H6 R hj l6 q2
    have q3 := q2 H6 l6
    walk_at "g"
    refine ifP (fun h1 => ?_) (fun h1 => ?_)
    · rw [show decide (j = w) = true from decide_eq_true (by omega)] at q3
      exact q3
    · walk_at "g"
      rw [show decide (j = w) = false from decide_eq_false (by omega)] at q3
      rw [show decide (0 + (j : Int) = 10) = decide (j = 10) from decide_eq_decide.mpr (by omega)]
      exact q3
  · intro D2 H6 nD2 s6 e6
    refine g_eqBls (r1 := marks w) (r2 := marks w) (SqL.of (s6 _ _ e5)) (SqL.of e6) ?_
    walk_at "g"
    rw [decide_eq_true rfl]
    exact q H6

/-! ### the text by places -/
def top (i : Nat) : Stmt := PySem.Challenge.pw_marblerun_k28_refusals_apart.main.body.getD i (.Pass ⟨0, 0, 0, 0⟩)
abbrev s_drawn : Stmt := (top 39)
theorem sc_drawn : FnScope N_drawn ["script", "k", "many"] (defScope s_drawn) := ⟨rfl, rfl, rfl, by decide +kernel, rfl, by decide +kernel, by decide +kernel⟩
abbrev s_checked : Stmt := (top 17)
theorem sc_checked : FnScope N_checked ["rows"] (defScope s_checked) := ⟨rfl, rfl, rfl, by decide +kernel, rfl, by decide +kernel, by decide +kernel⟩
abbrev s_Board_init : Stmt := (inClass (top 18) 0)
theorem sc_Board_init : FnScope N_Board_init ["self", "rows"] (defScope s_Board_init) := ⟨rfl, rfl, rfl, by decide +kernel, rfl, by decide +kernel, by decide +kernel⟩
abbrev s_Board_has_site : Stmt := (inClass (top 18) 1)
theorem sc_Board_has_site : FnScope N_Board_has_site ["self", "at"] (defScope s_Board_has_site) := ⟨rfl, rfl, rfl, by decide +kernel, rfl, by decide +kernel, by decide +kernel⟩
abbrev s_Board_turn_to : Stmt := (inClass (top 18) 2)
theorem sc_Board_turn_to : FnScope N_Board_turn_to ["self", "at", "place"] (defScope s_Board_turn_to) := ⟨rfl, rfl, rfl, by decide +kernel, rfl, by decide +kernel, by decide +kernel⟩
abbrev s_step : Stmt := (top 35)
theorem sc_step : FnScope N_step ["board", "at"] (defScope s_step) := ⟨rfl, rfl, rfl, by decide +kernel, rfl, by decide +kernel, by decide +kernel⟩
abbrev s_Board_load : Stmt := (inClass (top 18) 3)
theorem sc_Board_load : FnScope N_Board_load ["self", "at", "many"] (defScope s_Board_load) := ⟨rfl, rfl, rfl, by decide +kernel, rfl, by decide +kernel, by decide +kernel⟩
abbrev s_reached : Stmt := (top 20)
theorem sc_reached : FnScope N_reached ["rows"] (defScope s_reached) := ⟨rfl, rfl, rfl, by decide +kernel, rfl, by decide +kernel, by decide +kernel⟩
abbrev s_is_open : Stmt := (top 21)
theorem sc_is_open : FnScope N_is_open ["board"] (defScope s_is_open) := ⟨rfl, rfl, rfl, by decide +kernel, rfl, by decide +kernel, by decide +kernel⟩
abbrev s_Board_become : Stmt := (inClass (top 18) 4)
theorem sc_Board_become : FnScope N_Board_become ["self", "other"] (defScope s_Board_become) := ⟨rfl, rfl, rfl, by decide +kernel, rfl, by decide +kernel, by decide +kernel⟩
abbrev s_Board_twin : Stmt := (inClass (top 18) 5)
theorem sc_Board_twin : FnScope N_Board_twin ["self"] (defScope s_Board_twin) := ⟨rfl, rfl, rfl, by decide +kernel, rfl, by decide +kernel, by decide +kernel⟩
abbrev s_first_laden : Stmt := (top 36)
theorem sc_first_laden : FnScope N_first_laden ["board"] (defScope s_first_laden) := ⟨rfl, rfl, rfl, by decide +kernel, rfl, by decide +kernel, by decide +kernel⟩
abbrev s_run : Stmt := (top 37)
theorem sc_run : FnScope N_run ["board", "most"] (defScope s_run) := ⟨rfl, rfl, rfl, by decide +kernel, rfl, by decide +kernel, by decide +kernel⟩
abbrev s_last_exit : Stmt := (top 22)
theorem sc_last_exit : FnScope N_last_exit ["board", "at"] (defScope s_last_exit) := ⟨rfl, rfl, rfl, by decide +kernel, rfl, by decide +kernel, by decide +kernel⟩
abbrev s_is_tree : Stmt := (top 23)
theorem sc_is_tree : FnScope N_is_tree ["board"] (defScope s_is_tree) := ⟨rfl, rfl, rfl, by decide +kernel, rfl, by decide +kernel, by decide +kernel⟩
abbrev s_before : Stmt := (top 25)
theorem sc_before : FnScope N_before ["rows", "turns", "start", "spot"] (defScope s_before) := ⟨rfl, rfl, rfl, by decide +kernel, rfl, by decide +kernel, by decide +kernel⟩
abbrev s_run_back : Stmt := (top 26)
theorem sc_run_back : FnScope N_run_back ["board", "at", "most"] (defScope s_run_back) := ⟨rfl, rfl, rfl, by decide +kernel, rfl, by decide +kernel, by decide +kernel⟩
abbrev s_number_of : Stmt := (top 30)
theorem sc_number_of : FnScope N_number_of ["word"] (defScope s_number_of) := ⟨rfl, rfl, rfl, by decide +kernel, rfl, by decide +kernel, by decide +kernel⟩
abbrev s_exit_of : Stmt := (top 31)
theorem sc_exit_of : FnScope N_exit_of ["word"] (defScope s_exit_of) := ⟨rfl, rfl, rfl, by decide +kernel, rfl, by decide +kernel, by decide +kernel⟩
abbrev s_site_of_k28 : Stmt := (top 32)
theorem sc_site_of_k28 : FnScope N_site_of_k28 ["line"] (defScope s_site_of_k28) := ⟨rfl, rfl, rfl, by decide +kernel, rfl, by decide +kernel, by decide +kernel⟩
abbrev s_read_k28 : Stmt := (top 33)
theorem sc_read_k28 : FnScope N_read_k28 ["text"] (defScope s_read_k28) := ⟨rfl, rfl, rfl, by decide +kernel, rfl, by decide +kernel, by decide +kernel⟩
abbrev s_deed_k28 : Stmt := (top 41)
theorem sc_deed_k28 : FnScope N_deed_k28 ["board", "way", "at", "size"] (defScope s_deed_k28) := ⟨rfl, rfl, rfl, by decide +kernel, rfl, by decide +kernel, by decide +kernel⟩
abbrev s_marks_k28 : Stmt := (top 40)
theorem sc_marks_k28 : FnScope N_marks_k28 ["e"] (defScope s_marks_k28) := ⟨rfl, rfl, rfl, by decide +kernel, rfl, by decide +kernel, by decide +kernel⟩
abbrev s_law_k28 : Stmt := (top 42)
theorem sc_law_k28 : FnScope N_law_k28 ["script"] (defScope s_law_k28) := ⟨rfl, rfl, rfl, by decide +kernel, rfl, by decide +kernel, by decide +kernel⟩
/-- what the top has written -/
structure Txt (K : PySem.W.Frag) (mg : Str → Option Value) where
  G : Ads
  f_drawn : Addr
  d_drawn : FuncData
  F_drawn : Fun K "_law_drawn" "_law_drawn" s_drawn f_drawn d_drawn
  b_drawn : Binds K d_drawn ["script", "k", "many"] []
  g_drawn : mg "_law_drawn" = some (.ref f_drawn)
  f_checked : Addr
  d_checked : FuncData
  F_checked : Fun K "checked" "checked" s_checked f_checked d_checked
  b_checked : Binds K d_checked ["rows"] []
  g_checked : mg "checked" = some (.ref f_checked)
  f_Board_init : Addr
  d_Board_init : FuncData
  F_Board_init : Fun K "__init__" "Board.__init__" s_Board_init f_Board_init d_Board_init
  b_Board_init : Binds K d_Board_init ["self", "rows"] []
  mk_Board : Mk K G.Board f_Board_init
  f_Board_has_site : Addr
  d_Board_has_site : FuncData
  F_Board_has_site : Fun K "has_site" "Board.has_site" s_Board_has_site f_Board_has_site d_Board_has_site
  b_Board_has_site : Binds K d_Board_has_site ["self", "at"] []
  m_Board_has_site : Meth K G.Board "has_site" f_Board_has_site
  f_Board_turn_to : Addr
  d_Board_turn_to : FuncData
  F_Board_turn_to : Fun K "turn_to" "Board.turn_to" s_Board_turn_to f_Board_turn_to d_Board_turn_to
  b_Board_turn_to : Binds K d_Board_turn_to ["self", "at", "place"] []
  m_Board_turn_to : Meth K G.Board "turn_to" f_Board_turn_to
  f_step : Addr
  d_step : FuncData
  F_step : Fun K "step" "step" s_step f_step d_step
  b_step : Binds K d_step ["board", "at"] []
  g_step : mg "step" = some (.ref f_step)
  f_Board_load : Addr
  d_Board_load : FuncData
  F_Board_load : Fun K "load" "Board.load" s_Board_load f_Board_load d_Board_load
  b_Board_load : Binds K d_Board_load ["self", "at", "many"] []
  m_Board_load : Meth K G.Board "load" f_Board_load
  f_reached : Addr
  d_reached : FuncData
  F_reached : Fun K "reached" "reached" s_reached f_reached d_reached
  b_reached : Binds K d_reached ["rows"] []
  g_reached : mg "reached" = some (.ref f_reached)
  f_is_open : Addr
  d_is_open : FuncData
  F_is_open : Fun K "is_open" "is_open" s_is_open f_is_open d_is_open
  b_is_open : Binds K d_is_open ["board"] []
  g_is_open : mg "is_open" = some (.ref f_is_open)
  f_Board_become : Addr
  d_Board_become : FuncData
  F_Board_become : Fun K "become" "Board.become" s_Board_become f_Board_become d_Board_become
  b_Board_become : Binds K d_Board_become ["self", "other"] []
  m_Board_become : Meth K G.Board "become" f_Board_become
  f_Board_twin : Addr
  d_Board_twin : FuncData
  F_Board_twin : Fun K "twin" "Board.twin" s_Board_twin f_Board_twin d_Board_twin
  b_Board_twin : Binds K d_Board_twin ["self"] []
  m_Board_twin : Meth K G.Board "twin" f_Board_twin
  f_first_laden : Addr
  d_first_laden : FuncData
  F_first_laden : Fun K "first_laden" "first_laden" s_first_laden f_first_laden d_first_laden
  b_first_laden : Binds K d_first_laden ["board"] []
  g_first_laden : mg "first_laden" = some (.ref f_first_laden)
  f_run : Addr
  d_run : FuncData
  F_run : Fun K "run" "run" s_run f_run d_run
  b_run : Binds K d_run ["board", "most"] []
  g_run : mg "run" = some (.ref f_run)
  f_last_exit : Addr
  d_last_exit : FuncData
  F_last_exit : Fun K "last_exit" "last_exit" s_last_exit f_last_exit d_last_exit
  b_last_exit : Binds K d_last_exit ["board", "at"] []
  g_last_exit : mg "last_exit" = some (.ref f_last_exit)
  f_is_tree : Addr
  d_is_tree : FuncData
  F_is_tree : Fun K "is_tree" "is_tree" s_is_tree f_is_tree d_is_tree
  b_is_tree : Binds K d_is_tree ["board"] []
  g_is_tree : mg "is_tree" = some (.ref f_is_tree)
  f_before : Addr
  d_before : FuncData
  F_before : Fun K "before" "before" s_before f_before d_before
  b_before : Binds K d_before ["rows", "turns", "start", "spot"] []
  g_before : mg "before" = some (.ref f_before)
  f_run_back : Addr
  d_run_back : FuncData
  F_run_back : Fun K "run_back" "run_back" s_run_back f_run_back d_run_back
  b_run_back : Binds K d_run_back ["board", "at", "most"] []
  g_run_back : mg "run_back" = some (.ref f_run_back)
  f_number_of : Addr
  d_number_of : FuncData
  F_number_of : Fun K "number_of" "number_of" s_number_of f_number_of d_number_of
  b_number_of : Binds K d_number_of ["word"] []
  g_number_of : mg "number_of" = some (.ref f_number_of)
  f_exit_of : Addr
  d_exit_of : FuncData
  F_exit_of : Fun K "exit_of" "exit_of" s_exit_of f_exit_of d_exit_of
  b_exit_of : Binds K d_exit_of ["word"] []
  g_exit_of : mg "exit_of" = some (.ref f_exit_of)
  f_site_of_k28 : Addr
  d_site_of_k28 : FuncData
  F_site_of_k28 : Fun K "site_of" "site_of" s_site_of_k28 f_site_of_k28 d_site_of_k28
  b_site_of_k28 : Binds K d_site_of_k28 ["line"] []
  g_site_of_k28 : mg "site_of" = some (.ref f_site_of_k28)
  f_read_k28 : Addr
  d_read_k28 : FuncData
  F_read_k28 : Fun K "read" "read" s_read_k28 f_read_k28 d_read_k28
  b_read_k28 : Binds K d_read_k28 ["text"] []
  g_read_k28 : mg "read" = some (.ref f_read_k28)
  f_deed_k28 : Addr
  d_deed_k28 : FuncData
  F_deed_k28 : Fun K "_law_deed" "_law_deed" s_deed_k28 f_deed_k28 d_deed_k28
  b_deed_k28 : Binds K d_deed_k28 ["board", "way", "at", "size"] []
  g_deed_k28 : mg "_law_deed" = some (.ref f_deed_k28)
  f_marks_k28 : Addr
  d_marks_k28 : FuncData
  F_marks_k28 : Fun K "_law_marks" "_law_marks" s_marks_k28 f_marks_k28 d_marks_k28
  b_marks_k28 : Binds K d_marks_k28 ["e"] []
  g_marks_k28 : mg "_law_marks" = some (.ref f_marks_k28)
  f_law_k28 : Addr
  d_law_k28 : FuncData
  F_law_k28 : Fun K "law" "law" s_law_k28 f_law_k28 d_law_k28
  b_law_k28 : Binds K d_law_k28 ["script"] []
  cl_Board : Cls K G.Board
  bd : BdOk K G
  g_Board : mg "Board" = some (.ref G.Board)
  tk_MOST_SITES : Tok
  g_MOST_SITES : mg "MOST_SITES" = some (.int 12 tk_MOST_SITES)
  tk_MOST_EXITS : Tok
  g_MOST_EXITS : mg "MOST_EXITS" = some (.int 8 tk_MOST_EXITS)
  tk_PIT : Tok
  g_PIT : mg "PIT" = some (.int (-1) tk_PIT)
  tk_MOST_MARBLES : Tok
  g_MOST_MARBLES : mg "MOST_MARBLES" = some (.int 400 tk_MOST_MARBLES)
  tk_MOST_FIGURES : Tok
  g_MOST_FIGURES : mg "MOST_FIGURES" = some (.int 20 tk_MOST_FIGURES)
  tk_FIGURES : Tok
  g_FIGURES : mg "FIGURES" = some (.str "0123456789" tk_FIGURES)
  n_len : mg "len" = none
  n_list : mg "list" = none
  n_sum : mg "sum" = none
  n_range : mg "range" = none
  n_all : mg "all" = none
  n_int : mg "int" = none
  n_str : mg "str" = none
  n_isinstance : mg "isinstance" = none
  n_ValueError : mg "ValueError" = none
  g_NoSite : mg "NoSite" = some (.ref G.NoSite)
  x_NoSite : PySem.W.excIn K G.NoSite [.type "ValueError", .type "Exception", .type "BaseException", .type "object"] "ValueError.__new__" = true
  k_NoSite : PySem.W.keepIn K (.ref G.NoSite) = true
  b_NoSite : PySem.W.subIn K (.ref G.NoSite) (.type "BaseException") = some true
  t_NoSite : PySem.W.typeIn K (.ref G.NoSite) = some (.type "type")
  g_NoExit : mg "NoExit" = some (.ref G.NoExit)
  x_NoExit : PySem.W.excIn K G.NoExit [.type "ValueError", .type "Exception", .type "BaseException", .type "object"] "ValueError.__new__" = true
  k_NoExit : PySem.W.keepIn K (.ref G.NoExit) = true
  b_NoExit : PySem.W.subIn K (.ref G.NoExit) (.type "BaseException") = some true
  t_NoExit : PySem.W.typeIn K (.ref G.NoExit) = some (.type "type")
  g_NoPlace : mg "NoPlace" = some (.ref G.NoPlace)
  x_NoPlace : PySem.W.excIn K G.NoPlace [.type "ValueError", .type "Exception", .type "BaseException", .type "object"] "ValueError.__new__" = true
  k_NoPlace : PySem.W.keepIn K (.ref G.NoPlace) = true
  b_NoPlace : PySem.W.subIn K (.ref G.NoPlace) (.type "BaseException") = some true
  t_NoPlace : PySem.W.typeIn K (.ref G.NoPlace) = some (.type "type")
  g_NoMarble : mg "NoMarble" = some (.ref G.NoMarble)
  x_NoMarble : PySem.W.excIn K G.NoMarble [.type "ValueError", .type "Exception", .type "BaseException", .type "object"] "ValueError.__new__" = true
  k_NoMarble : PySem.W.keepIn K (.ref G.NoMarble) = true
  b_NoMarble : PySem.W.subIn K (.ref G.NoMarble) (.type "BaseException") = some true
  t_NoMarble : PySem.W.typeIn K (.ref G.NoMarble) = some (.type "type")
  g_TooMany : mg "TooMany" = some (.ref G.TooMany)
  x_TooMany : PySem.W.excIn K G.TooMany [.type "ValueError", .type "Exception", .type "BaseException", .type "object"] "ValueError.__new__" = true
  k_TooMany : PySem.W.keepIn K (.ref G.TooMany) = true
  b_TooMany : PySem.W.subIn K (.ref G.TooMany) (.type "BaseException") = some true
  t_TooMany : PySem.W.typeIn K (.ref G.TooMany) = some (.type "type")
  g_NotOpen : mg "NotOpen" = some (.ref G.NotOpen)
  x_NotOpen : PySem.W.excIn K G.NotOpen [.type "ValueError", .type "Exception", .type "BaseException", .type "object"] "ValueError.__new__" = true
  k_NotOpen : PySem.W.keepIn K (.ref G.NotOpen) = true
  b_NotOpen : PySem.W.subIn K (.ref G.NotOpen) (.type "BaseException") = some true
  t_NotOpen : PySem.W.typeIn K (.ref G.NotOpen) = some (.type "type")
  g_TooLong : mg "TooLong" = some (.ref G.TooLong)
  x_TooLong : PySem.W.excIn K G.TooLong [.type "ValueError", .type "Exception", .type "BaseException", .type "object"] "ValueError.__new__" = true
  k_TooLong : PySem.W.keepIn K (.ref G.TooLong) = true
  b_TooLong : PySem.W.subIn K (.ref G.TooLong) (.type "BaseException") = some true
  t_TooLong : PySem.W.typeIn K (.ref G.TooLong) = some (.type "type")
  g_NotBare : mg "NotBare" = some (.ref G.NotBare)
  x_NotBare : PySem.W.excIn K G.NotBare [.type "ValueError", .type "Exception", .type "BaseException", .type "object"] "ValueError.__new__" = true
  k_NotBare : PySem.W.keepIn K (.ref G.NotBare) = true
  b_NotBare : PySem.W.subIn K (.ref G.NotBare) (.type "BaseException") = some true
  t_NotBare : PySem.W.typeIn K (.ref G.NotBare) = some (.type "type")
  g_NotTree : mg "NotTree" = some (.ref G.NotTree)
  x_NotTree : PySem.W.excIn K G.NotTree [.type "ValueError", .type "Exception", .type "BaseException", .type "object"] "ValueError.__new__" = true
  k_NotTree : PySem.W.keepIn K (.ref G.NotTree) = true
  b_NotTree : PySem.W.subIn K (.ref G.NotTree) (.type "BaseException") = some true
  t_NotTree : PySem.W.typeIn K (.ref G.NotTree) = some (.type "type")
  g_NoBoard : mg "NoBoard" = some (.ref G.NoBoard)
  x_NoBoard : PySem.W.excIn K G.NoBoard [.type "ValueError", .type "Exception", .type "BaseException", .type "object"] "ValueError.__new__" = true
  k_NoBoard : PySem.W.keepIn K (.ref G.NoBoard) = true
  b_NoBoard : PySem.W.subIn K (.ref G.NoBoard) (.type "BaseException") = some true
  t_NoBoard : PySem.W.typeIn K (.ref G.NoBoard) = some (.type "type")
  g_BoardError : mg "BoardError" = some (.ref G.BoardError)
  x_BoardError : PySem.W.excIn K G.BoardError [.type "ValueError", .type "Exception", .type "BaseException", .type "object"] "ValueError.__new__" = true
  k_BoardError : PySem.W.keepIn K (.ref G.BoardError) = true
  b_BoardError : PySem.W.subIn K (.ref G.BoardError) (.type "BaseException") = some true
  t_BoardError : PySem.W.typeIn K (.ref G.BoardError) = some (.type "type")
  e_NoSite_BoardError : PySem.W.exmOne K (.ref G.NoSite) (.ref G.BoardError) = some true
  kt_NoPlace_ValueError : PySem.W.kitOne K (.ref G.NoPlace) (.type "ValueError") = some true
  kt_NoSite_ValueError : PySem.W.kitOne K (.ref G.NoSite) (.type "ValueError") = some true
  kt_NoExit_ValueError : PySem.W.kitOne K (.ref G.NoExit) (.type "ValueError") = some true
  kt_NoMarble_ValueError : PySem.W.kitOne K (.ref G.NoMarble) (.type "ValueError") = some true
  kt_TooMany_ValueError : PySem.W.kitOne K (.ref G.TooMany) (.type "ValueError") = some true
  kt_NotOpen_ValueError : PySem.W.kitOne K (.ref G.NotOpen) (.type "ValueError") = some true
  kt_NotBare_ValueError : PySem.W.kitOne K (.ref G.NotBare) (.type "ValueError") = some true
  kt_NotTree_ValueError : PySem.W.kitOne K (.ref G.NotTree) (.type "ValueError") = some true
  kt_TooLong_ValueError : PySem.W.kitOne K (.ref G.TooLong) (.type "ValueError") = some true
  kt_NoBoard_ValueError : PySem.W.kitOne K (.ref G.NoBoard) (.type "ValueError") = some true
  ki_NoPlace_NoPlace : PySem.W.kitOne K (.ref G.NoPlace) (.ref G.NoPlace) = some true
  ki_NoPlace_NoSite : PySem.W.kitOne K (.ref G.NoPlace) (.ref G.NoSite) = some false
  ki_NoPlace_NoExit : PySem.W.kitOne K (.ref G.NoPlace) (.ref G.NoExit) = some false
  ki_NoPlace_NoMarble : PySem.W.kitOne K (.ref G.NoPlace) (.ref G.NoMarble) = some false
  ki_NoPlace_TooMany : PySem.W.kitOne K (.ref G.NoPlace) (.ref G.TooMany) = some false
  ki_NoPlace_NotOpen : PySem.W.kitOne K (.ref G.NoPlace) (.ref G.NotOpen) = some false
  ki_NoPlace_NotBare : PySem.W.kitOne K (.ref G.NoPlace) (.ref G.NotBare) = some false
  ki_NoPlace_NotTree : PySem.W.kitOne K (.ref G.NoPlace) (.ref G.NotTree) = some false
  ki_NoPlace_TooLong : PySem.W.kitOne K (.ref G.NoPlace) (.ref G.TooLong) = some false
  ki_NoPlace_NoBoard : PySem.W.kitOne K (.ref G.NoPlace) (.ref G.NoBoard) = some false
  ki_NoSite_NoPlace : PySem.W.kitOne K (.ref G.NoSite) (.ref G.NoPlace) = some false
  ki_NoSite_NoSite : PySem.W.kitOne K (.ref G.NoSite) (.ref G.NoSite) = some true
  ki_NoSite_NoExit : PySem.W.kitOne K (.ref G.NoSite) (.ref G.NoExit) = some false
  ki_NoSite_NoMarble : PySem.W.kitOne K (.ref G.NoSite) (.ref G.NoMarble) = some false
  ki_NoSite_TooMany : PySem.W.kitOne K (.ref G.NoSite) (.ref G.TooMany) = some false
  ki_NoSite_NotOpen : PySem.W.kitOne K (.ref G.NoSite) (.ref G.NotOpen) = some false
  ki_NoSite_NotBare : PySem.W.kitOne K (.ref G.NoSite) (.ref G.NotBare) = some false
  ki_NoSite_NotTree : PySem.W.kitOne K (.ref G.NoSite) (.ref G.NotTree) = some false
  ki_NoSite_TooLong : PySem.W.kitOne K (.ref G.NoSite) (.ref G.TooLong) = some false
  ki_NoSite_NoBoard : PySem.W.kitOne K (.ref G.NoSite) (.ref G.NoBoard) = some false
  ki_NoExit_NoPlace : PySem.W.kitOne K (.ref G.NoExit) (.ref G.NoPlace) = some false
  ki_NoExit_NoSite : PySem.W.kitOne K (.ref G.NoExit) (.ref G.NoSite) = some false
  ki_NoExit_NoExit : PySem.W.kitOne K (.ref G.NoExit) (.ref G.NoExit) = some true
  ki_NoExit_NoMarble : PySem.W.kitOne K (.ref G.NoExit) (.ref G.NoMarble) = some false
  ki_NoExit_TooMany : PySem.W.kitOne K (.ref G.NoExit) (.ref G.TooMany) = some false
  ki_NoExit_NotOpen : PySem.W.kitOne K (.ref G.NoExit) (.ref G.NotOpen) = some false
  ki_NoExit_NotBare : PySem.W.kitOne K (.ref G.NoExit) (.ref G.NotBare) = some false
  ki_NoExit_NotTree : PySem.W.kitOne K (.ref G.NoExit) (.ref G.NotTree) = some false
  ki_NoExit_TooLong : PySem.W.kitOne K (.ref G.NoExit) (.ref G.TooLong) = some false
  ki_NoExit_NoBoard : PySem.W.kitOne K (.ref G.NoExit) (.ref G.NoBoard) = some false
  ki_NoMarble_NoPlace : PySem.W.kitOne K (.ref G.NoMarble) (.ref G.NoPlace) = some false
  ki_NoMarble_NoSite : PySem.W.kitOne K (.ref G.NoMarble) (.ref G.NoSite) = some false
  ki_NoMarble_NoExit : PySem.W.kitOne K (.ref G.NoMarble) (.ref G.NoExit) = some false
  ki_NoMarble_NoMarble : PySem.W.kitOne K (.ref G.NoMarble) (.ref G.NoMarble) = some true
  ki_NoMarble_TooMany : PySem.W.kitOne K (.ref G.NoMarble) (.ref G.TooMany) = some false
  ki_NoMarble_NotOpen : PySem.W.kitOne K (.ref G.NoMarble) (.ref G.NotOpen) = some false
  ki_NoMarble_NotBare : PySem.W.kitOne K (.ref G.NoMarble) (.ref G.NotBare) = some false
  ki_NoMarble_NotTree : PySem.W.kitOne K (.ref G.NoMarble) (.ref G.NotTree) = some false
  ki_NoMarble_TooLong : PySem.W.kitOne K (.ref G.NoMarble) (.ref G.TooLong) = some false
  ki_NoMarble_NoBoard : PySem.W.kitOne K (.ref G.NoMarble) (.ref G.NoBoard) = some false
  ki_TooMany_NoPlace : PySem.W.kitOne K (.ref G.TooMany) (.ref G.NoPlace) = some false
  ki_TooMany_NoSite : PySem.W.kitOne K (.ref G.TooMany) (.ref G.NoSite) = some false
  ki_TooMany_NoExit : PySem.W.kitOne K (.ref G.TooMany) (.ref G.NoExit) = some false
  ki_TooMany_NoMarble : PySem.W.kitOne K (.ref G.TooMany) (.ref G.NoMarble) = some false
  ki_TooMany_TooMany : PySem.W.kitOne K (.ref G.TooMany) (.ref G.TooMany) = some true
  ki_TooMany_NotOpen : PySem.W.kitOne K (.ref G.TooMany) (.ref G.NotOpen) = some false
  ki_TooMany_NotBare : PySem.W.kitOne K (.ref G.TooMany) (.ref G.NotBare) = some false
  ki_TooMany_NotTree : PySem.W.kitOne K (.ref G.TooMany) (.ref G.NotTree) = some false
  ki_TooMany_TooLong : PySem.W.kitOne K (.ref G.TooMany) (.ref G.TooLong) = some false
  ki_TooMany_NoBoard : PySem.W.kitOne K (.ref G.TooMany) (.ref G.NoBoard) = some false
  ki_NotOpen_NoPlace : PySem.W.kitOne K (.ref G.NotOpen) (.ref G.NoPlace) = some false
  ki_NotOpen_NoSite : PySem.W.kitOne K (.ref G.NotOpen) (.ref G.NoSite) = some false
  ki_NotOpen_NoExit : PySem.W.kitOne K (.ref G.NotOpen) (.ref G.NoExit) = some false
  ki_NotOpen_NoMarble : PySem.W.kitOne K (.ref G.NotOpen) (.ref G.NoMarble) = some false
  ki_NotOpen_TooMany : PySem.W.kitOne K (.ref G.NotOpen) (.ref G.TooMany) = some false
  ki_NotOpen_NotOpen : PySem.W.kitOne K (.ref G.NotOpen) (.ref G.NotOpen) = some true
  ki_NotOpen_NotBare : PySem.W.kitOne K (.ref G.NotOpen) (.ref G.NotBare) = some false
  ki_NotOpen_NotTree : PySem.W.kitOne K (.ref G.NotOpen) (.ref G.NotTree) = some false
  ki_NotOpen_TooLong : PySem.W.kitOne K (.ref G.NotOpen) (.ref G.TooLong) = some false
  ki_NotOpen_NoBoard : PySem.W.kitOne K (.ref G.NotOpen) (.ref G.NoBoard) = some false
  ki_NotBare_NoPlace : PySem.W.kitOne K (.ref G.NotBare) (.ref G.NoPlace) = some false
  ki_NotBare_NoSite : PySem.W.kitOne K (.ref G.NotBare) (.ref G.NoSite) = some false
  ki_NotBare_NoExit : PySem.W.kitOne K (.ref G.NotBare) (.ref G.NoExit) = some false
  ki_NotBare_NoMarble : PySem.W.kitOne K (.ref G.NotBare) (.ref G.NoMarble) = some false
  ki_NotBare_TooMany : PySem.W.kitOne K (.ref G.NotBare) (.ref G.TooMany) = some false
  ki_NotBare_NotOpen : PySem.W.kitOne K (.ref G.NotBare) (.ref G.NotOpen) = some false
  ki_NotBare_NotBare : PySem.W.kitOne K (.ref G.NotBare) (.ref G.NotBare) = some true
  ki_NotBare_NotTree : PySem.W.kitOne K (.ref G.NotBare) (.ref G.NotTree) = some false
  ki_NotBare_TooLong : PySem.W.kitOne K (.ref G.NotBare) (.ref G.TooLong) = some false
  ki_NotBare_NoBoard : PySem.W.kitOne K (.ref G.NotBare) (.ref G.NoBoard) = some false
  ki_NotTree_NoPlace : PySem.W.kitOne K (.ref G.NotTree) (.ref G.NoPlace) = some false
  ki_NotTree_NoSite : PySem.W.kitOne K (.ref G.NotTree) (.ref G.NoSite) = some false
  ki_NotTree_NoExit : PySem.W.kitOne K (.ref G.NotTree) (.ref G.NoExit) = some false
  ki_NotTree_NoMarble : PySem.W.kitOne K (.ref G.NotTree) (.ref G.NoMarble) = some false
  ki_NotTree_TooMany : PySem.W.kitOne K (.ref G.NotTree) (.ref G.TooMany) = some false
  ki_NotTree_NotOpen : PySem.W.kitOne K (.ref G.NotTree) (.ref G.NotOpen) = some false
  ki_NotTree_NotBare : PySem.W.kitOne K (.ref G.NotTree) (.ref G.NotBare) = some false
  ki_NotTree_NotTree : PySem.W.kitOne K (.ref G.NotTree) (.ref G.NotTree) = some true
  ki_NotTree_TooLong : PySem.W.kitOne K (.ref G.NotTree) (.ref G.TooLong) = some false
  ki_NotTree_NoBoard : PySem.W.kitOne K (.ref G.NotTree) (.ref G.NoBoard) = some false
  ki_TooLong_NoPlace : PySem.W.kitOne K (.ref G.TooLong) (.ref G.NoPlace) = some false
  ki_TooLong_NoSite : PySem.W.kitOne K (.ref G.TooLong) (.ref G.NoSite) = some false
  ki_TooLong_NoExit : PySem.W.kitOne K (.ref G.TooLong) (.ref G.NoExit) = some false
  ki_TooLong_NoMarble : PySem.W.kitOne K (.ref G.TooLong) (.ref G.NoMarble) = some false
  ki_TooLong_TooMany : PySem.W.kitOne K (.ref G.TooLong) (.ref G.TooMany) = some false
  ki_TooLong_NotOpen : PySem.W.kitOne K (.ref G.TooLong) (.ref G.NotOpen) = some false
  ki_TooLong_NotBare : PySem.W.kitOne K (.ref G.TooLong) (.ref G.NotBare) = some false
  ki_TooLong_NotTree : PySem.W.kitOne K (.ref G.TooLong) (.ref G.NotTree) = some false
  ki_TooLong_TooLong : PySem.W.kitOne K (.ref G.TooLong) (.ref G.TooLong) = some true
  ki_TooLong_NoBoard : PySem.W.kitOne K (.ref G.TooLong) (.ref G.NoBoard) = some false
  ki_NoBoard_NoPlace : PySem.W.kitOne K (.ref G.NoBoard) (.ref G.NoPlace) = some false
  ki_NoBoard_NoSite : PySem.W.kitOne K (.ref G.NoBoard) (.ref G.NoSite) = some false
  ki_NoBoard_NoExit : PySem.W.kitOne K (.ref G.NoBoard) (.ref G.NoExit) = some false
  ki_NoBoard_NoMarble : PySem.W.kitOne K (.ref G.NoBoard) (.ref G.NoMarble) = some false
  ki_NoBoard_TooMany : PySem.W.kitOne K (.ref G.NoBoard) (.ref G.TooMany) = some false
  ki_NoBoard_NotOpen : PySem.W.kitOne K (.ref G.NoBoard) (.ref G.NotOpen) = some false
  ki_NoBoard_NotBare : PySem.W.kitOne K (.ref G.NoBoard) (.ref G.NotBare) = some false
  ki_NoBoard_NotTree : PySem.W.kitOne K (.ref G.NoBoard) (.ref G.NotTree) = some false
  ki_NoBoard_TooLong : PySem.W.kitOne K (.ref G.NoBoard) (.ref G.TooLong) = some false
  ki_NoBoard_NoBoard : PySem.W.kitOne K (.ref G.NoBoard) (.ref G.NoBoard) = some true
  ec_NoPlace : ExcC K G.NoPlace
  ec_NoSite : ExcC K G.NoSite
  ec_NoExit : ExcC K G.NoExit
  ec_NoMarble : ExcC K G.NoMarble
  ec_TooMany : ExcC K G.TooMany
  ec_NotOpen : ExcC K G.NotOpen
  ec_NotBare : ExcC K G.NotBare
  ec_NotTree : ExcC K G.NotTree
  ec_TooLong : ExcC K G.TooLong
  ec_NoBoard : ExcC K G.NoBoard
  e_NoPlace_BoardError : PySem.W.exmOne K (.ref G.NoPlace) (.ref G.BoardError) = some true
  e_NoExit_BoardError : PySem.W.exmOne K (.ref G.NoExit) (.ref G.BoardError) = some true
  e_NoMarble_BoardError : PySem.W.exmOne K (.ref G.NoMarble) (.ref G.BoardError) = some true
  e_TooMany_BoardError : PySem.W.exmOne K (.ref G.TooMany) (.ref G.BoardError) = some true
  e_NotOpen_BoardError : PySem.W.exmOne K (.ref G.NotOpen) (.ref G.BoardError) = some true
  e_NotBare_BoardError : PySem.W.exmOne K (.ref G.NotBare) (.ref G.BoardError) = some true
  e_NotTree_BoardError : PySem.W.exmOne K (.ref G.NotTree) (.ref G.BoardError) = some true
  e_TooLong_BoardError : PySem.W.exmOne K (.ref G.TooLong) (.ref G.BoardError) = some true
  e_NoBoard_BoardError : PySem.W.exmOne K (.ref G.NoBoard) (.ref G.BoardError) = some true
section
variable {P : Program} {w : World} {K : PySem.W.Frag} {mg : Str → Option Value} {base : Heap}
theorem ok_drawn (T : Txt K mg) : FnOk P w K mg base CX0 1 T.f_drawn T.d_drawn ["script", "k", "many"] (sp_drawn K T.G) := by
  refine T.F_drawn.ok sc_drawn (fun vs H Q E h => len_drawn h) (fun cdv A outer s H vs Q E hr h => ⟨t_drawn K T.G E, ?_, pure_drawn  h⟩)
  exact (pss_cons (ps_set (i := 3) sc_drawn.nd rfl (by first | exact Or.inl rfl | exact Or.inr rfl) pe_int)
    (pss_cons (ps_if (pt_cmpR op_gt (pe_callB call_len_seq (by rfl) T.n_len bt_len (pa_cons (pv 0) pa_nil)) pe_int (nomark _))
    (pss_one (ps_set (i := 3) sc_drawn.nd rfl (by first | exact Or.inl rfl | exact Or.inr rfl) (pe_ix ix_list (pv 0) (pe_op op_mod (pv 1) (pe_callB call_len_seq (by rfl) T.n_len bt_len (pa_cons (pv 0) pa_nil))) (fun _ _ => rfl))))
    pss_nil)
    (pss_cons (ps_set (i := 4) sc_drawn.nd rfl (by first | exact Or.inl rfl | exact Or.inr rfl) (pe_op op_add (pe_op op_add (pe_op op_mul (pv 3) (pe_op op_add pe_int (pe_op op_mul pe_int (pe_op op_mod (pv 1) pe_int)))) (pe_op op_mul (pe_op op_mul (pe_op op_add (pv 1) pe_int) (pe_op op_add (pv 1) pe_int)) pe_int)) (pe_callB call_len_seq (by rfl) T.n_len bt_len (pa_cons (pv 0) pa_nil))))
    (pss_one (ps_ret (pe_op op_mod (pe_op op_fdiv (pe_op op_mod (pv 4) pe_int) pe_int) (pv 2)))))))
theorem ok_checked (T : Txt K mg) : FnOk P w K mg base (L2.CX P w) 1 T.f_checked T.d_checked ["rows"] (sp_checked K T.G) := by
  refine T.F_checked.okX sc_checked (fun vs H Q E h => len_checked h) (fun cdv A outer s H vs Q E hr h => ⟨t_checked K T.G E, ?_, pure_checked  h⟩)
  exact (pss_cons (ps_if (PW.pt (pw_or (pt_cmpR op_lt (pe_callB call_len_seq (by rfl) T.n_len bt_len (pa_cons (pv 0) pa_nil)) pe_int (nomark _)) (pw_or1 (pt_cmpR op_gt (pe_callB call_len_seq (by rfl) T.n_len bt_len (pa_cons (pv 0) pa_nil)) (pe_glob (v := .int 12) (by rfl) T.g_MOST_SITES ⟨_, rfl⟩) (nomark _)))))
    (pss_one (ps_raise rfl (takes_of rfl rfl rfl rfl) (pmk_own PySem.F.excBase_ValueError T.x_NoSite T.g_NoSite T.k_NoSite (raises_own T.b_NoSite T.t_NoSite) (by rfl))))
    pss_nil)
    (pss_cons (ps_for (passes_of rfl) rfl (pi_list (pv 0)) (pg_name (i := 1) sc_checked.nd rfl (by first | exact Or.inl rfl | exact Or.inr rfl))
    (pss_cons (ps_if (PW.pt (pw_or (pt_cmpR op_lt (pe_callB call_len_seq (by rfl) T.n_len bt_len (pa_cons (pv 1) pa_nil)) pe_int (nomark _)) (pw_or1 (pt_cmpR op_gt (pe_callB call_len_seq (by rfl) T.n_len bt_len (pa_cons (pv 1) pa_nil)) (pe_glob (v := .int 8) (by rfl) T.g_MOST_EXITS ⟨_, rfl⟩) (nomark _)))))
    (pss_one (ps_raise rfl (takes_of rfl rfl rfl rfl) (pmk_own PySem.F.excBase_ValueError T.x_NoExit T.g_NoExit T.k_NoExit (raises_own T.b_NoExit T.t_NoExit) (by rfl))))
    pss_nil)
    (pss_one (ps_for (passes_of rfl) rfl (pi_list (pv 1)) (pg_name (i := 2) sc_checked.nd rfl (by first | exact Or.inl rfl | exact Or.inr rfl))
    (pss_one (ps_if (PW.pt (pw_or (pt_cmpR op_lt (pv 2) (pe_glob (v := .int (-1)) (by rfl) T.g_PIT ⟨_, rfl⟩) (nomark _)) (pw_or1 (pt_cmpR op_ge (pv 2) (pe_callB call_len_seq (by rfl) T.n_len bt_len (pa_cons (pv 0) pa_nil)) (nomark _)))))
    (pss_one (ps_raise rfl (takes_of rfl rfl rfl rfl) (pmk_own PySem.F.excBase_ValueError T.x_NoExit T.g_NoExit T.k_NoExit (raises_own T.b_NoExit T.t_NoExit) (by rfl))))
    pss_nil))))))
    (pss_one (ps_ret (pe_lc (own := [("row", 1)]) (g := (gName 1)) (tt := tYes) rfl sc_checked.nd (pi_list (pv 0)) (blkOk_by (own := [("row", 1)]) (N := N_checked) (by kernel_rfl))
      (fun _ _ _ _ _ => (pg_name (i := 1) sc_checked.nd rfl (by first | exact Or.inl rfl | exact Or.inr rfl))) (fun _ _ _ _ _ => pts_nil) (fun _ _ _ _ _ => (pe_callTy call_list_of (by rfl) T.n_list bt_list (pa_cons (pv 1) pa_nil))))))))
theorem okN_checked (T : Txt K mg) : FnOk P w K mg base (L2N.CX P w) 1 T.f_checked T.d_checked ["rows"] (sp_checked K T.G) := by
  refine okXN T.F_checked sc_checked (fun vs H Q E h => len_checked h) (fun cdv A outer s H vs Q E hr h => ⟨t_checked K T.G E, ?_, pure_checked  h⟩)
  exact (pss_cons (ps_if (PW.pt (pw_or (pt_cmpR op_lt (pe_callB call_len_seq (by rfl) T.n_len bt_len (pa_cons (pv 0) pa_nil)) pe_int (nomark _)) (pw_or1 (pt_cmpR op_gt (pe_callB call_len_seq (by rfl) T.n_len bt_len (pa_cons (pv 0) pa_nil)) (pe_glob (v := .int 12) (by rfl) T.g_MOST_SITES ⟨_, rfl⟩) (nomark _)))))
    (pss_one (L2N.ps_raise rfl (L2N.takes_of rfl rfl rfl rfl) (L2N.pmk_own PySem.F.excBase_ValueError T.x_NoSite T.g_NoSite T.k_NoSite (raises_own T.b_NoSite T.t_NoSite) (by rfl))))
    pss_nil)
    (pss_cons (ps_for (passes_of rfl) rfl (pi_list (pv 0)) (pg_name (i := 1) sc_checked.nd rfl (by first | exact Or.inl rfl | exact Or.inr rfl))
    (pss_cons (ps_if (PW.pt (pw_or (pt_cmpR op_lt (pe_callB call_len_seq (by rfl) T.n_len bt_len (pa_cons (pv 1) pa_nil)) pe_int (nomark _)) (pw_or1 (pt_cmpR op_gt (pe_callB call_len_seq (by rfl) T.n_len bt_len (pa_cons (pv 1) pa_nil)) (pe_glob (v := .int 8) (by rfl) T.g_MOST_EXITS ⟨_, rfl⟩) (nomark _)))))
    (pss_one (L2N.ps_raise rfl (L2N.takes_of rfl rfl rfl rfl) (L2N.pmk_own PySem.F.excBase_ValueError T.x_NoExit T.g_NoExit T.k_NoExit (raises_own T.b_NoExit T.t_NoExit) (by rfl))))
    pss_nil)
    (pss_one (ps_for (passes_of rfl) rfl (pi_list (pv 1)) (pg_name (i := 2) sc_checked.nd rfl (by first | exact Or.inl rfl | exact Or.inr rfl))
    (pss_one (ps_if (PW.pt (pw_or (pt_cmpR op_lt (pv 2) (pe_glob (v := .int (-1)) (by rfl) T.g_PIT ⟨_, rfl⟩) (nomark _)) (pw_or1 (pt_cmpR op_ge (pv 2) (pe_callB call_len_seq (by rfl) T.n_len bt_len (pa_cons (pv 0) pa_nil)) (nomark _)))))
    (pss_one (L2N.ps_raise rfl (L2N.takes_of rfl rfl rfl rfl) (L2N.pmk_own PySem.F.excBase_ValueError T.x_NoExit T.g_NoExit T.k_NoExit (raises_own T.b_NoExit T.t_NoExit) (by rfl))))
    pss_nil))))))
    (pss_one (ps_ret (pe_lc (own := [("row", 1)]) (g := (gName 1)) (tt := tYes) rfl sc_checked.nd (pi_list (pv 0)) (blkOk_by (own := [("row", 1)]) (N := N_checked) (by kernel_rfl))
      (fun _ _ _ _ _ => (pg_name (i := 1) sc_checked.nd rfl (by first | exact Or.inl rfl | exact Or.inr rfl))) (fun _ _ _ _ _ => pts_nil) (fun _ _ _ _ _ => (pe_callTy call_list_of (by rfl) T.n_list bt_list (pa_cons (pv 1) pa_nil))))))))
theorem ok_Board_init (T : Txt K mg) : FnOk P w K mg base (L2.CX P w) 2 T.f_Board_init T.d_Board_init ["self", "rows"] (sp_Board_init K T.G) := by
  refine T.F_Board_init.okX sc_Board_init (fun vs H Q E h => len_Board_init h) (fun cdv A outer s H vs Q E hr h => ⟨t_Board_init K T.G E, ?_, pure_Board_init T.bd h⟩)
  exact (pss_cons (ps_fld (pv 0) (pe_call (ok_checked T) (hr.mono (by decide)) (by rfl) T.g_checked T.F_checked.kp T.b_checked .nil (passes_call (takes_of rfl rfl rfl rfl) fun _ _ _ _ z => z) (pa_cons (pv 1) pa_nil)) rfl)
    (pss_cons (ps_fld (pv 0) (pe_lc (own := [("row", 2)]) (g := (gName 2)) (tt := tYes) rfl sc_Board_init.nd (pi_list (pv 1)) (blkOk_by (own := [("row", 2)]) (N := N_Board_init) (by kernel_rfl))
      (fun _ _ _ _ _ => (pg_name (i := 2) sc_Board_init.nd rfl (by first | exact Or.inl rfl | exact Or.inr rfl))) (fun _ _ _ _ _ => pts_nil) (fun _ _ _ _ _ => pe_int)) rfl)
    (pss_cons (ps_fld (pv 0) (pe_lc (own := [("row", 2)]) (g := (gName 2)) (tt := tYes) rfl sc_Board_init.nd (pi_list (pv 1)) (blkOk_by (own := [("row", 2)]) (N := N_Board_init) (by kernel_rfl))
      (fun _ _ _ _ _ => (pg_name (i := 2) sc_Board_init.nd rfl (by first | exact Or.inl rfl | exact Or.inr rfl))) (fun _ _ _ _ _ => pts_nil) (fun _ _ _ _ _ => pe_int)) rfl)
    (pss_cons (ps_fld (pv 0) (pe_lc (own := [("row", 2)]) (g := (gName 2)) (tt := tYes) rfl sc_Board_init.nd (pi_list (pv 1)) (blkOk_by (own := [("row", 2)]) (N := N_Board_init) (by kernel_rfl))
      (fun _ _ _ _ _ => (pg_name (i := 2) sc_Board_init.nd rfl (by first | exact Or.inl rfl | exact Or.inr rfl))) (fun _ _ _ _ _ => pts_nil) (fun _ _ _ _ _ => pe_int)) rfl)
    (pss_one (ps_fld (pv 0) pe_int rfl))))))
theorem okN_Board_init (T : Txt K mg) : FnOk P w K mg base (L2N.CX P w) 2 T.f_Board_init T.d_Board_init ["self", "rows"] (sp_Board_init K T.G) := by
  refine okXN T.F_Board_init sc_Board_init (fun vs H Q E h => len_Board_init h) (fun cdv A outer s H vs Q E hr h => ⟨t_Board_init K T.G E, ?_, pure_Board_init T.bd h⟩)
  exact (pss_cons (ps_fld (pv 0) (pe_call (okN_checked T) (hr.mono (by decide)) (by rfl) T.g_checked T.F_checked.kp T.b_checked .nil (L2N.passes_call (L2N.takes_of rfl rfl rfl rfl) fun _ _ _ _ z => z) (pa_cons (pv 1) pa_nil)) rfl)
    (pss_cons (ps_fld (pv 0) (pe_lc (own := [("row", 2)]) (g := (gName 2)) (tt := tYes) rfl sc_Board_init.nd (pi_list (pv 1)) (blkOk_by (own := [("row", 2)]) (N := N_Board_init) (by kernel_rfl))
      (fun _ _ _ _ _ => (pg_name (i := 2) sc_Board_init.nd rfl (by first | exact Or.inl rfl | exact Or.inr rfl))) (fun _ _ _ _ _ => pts_nil) (fun _ _ _ _ _ => pe_int)) rfl)
    (pss_cons (ps_fld (pv 0) (pe_lc (own := [("row", 2)]) (g := (gName 2)) (tt := tYes) rfl sc_Board_init.nd (pi_list (pv 1)) (blkOk_by (own := [("row", 2)]) (N := N_Board_init) (by kernel_rfl))
      (fun _ _ _ _ _ => (pg_name (i := 2) sc_Board_init.nd rfl (by first | exact Or.inl rfl | exact Or.inr rfl))) (fun _ _ _ _ _ => pts_nil) (fun _ _ _ _ _ => pe_int)) rfl)
    (pss_cons (ps_fld (pv 0) (pe_lc (own := [("row", 2)]) (g := (gName 2)) (tt := tYes) rfl sc_Board_init.nd (pi_list (pv 1)) (blkOk_by (own := [("row", 2)]) (N := N_Board_init) (by kernel_rfl))
      (fun _ _ _ _ _ => (pg_name (i := 2) sc_Board_init.nd rfl (by first | exact Or.inl rfl | exact Or.inr rfl))) (fun _ _ _ _ _ => pts_nil) (fun _ _ _ _ _ => pe_int)) rfl)
    (pss_one (ps_fld (pv 0) pe_int rfl))))))
theorem ok_Board_has_site (T : Txt K mg) : FnOk P w K mg base CX0 1 T.f_Board_has_site T.d_Board_has_site ["self", "at"] (sp_Board_has_site K T.G) := by
  refine T.F_Board_has_site.ok sc_Board_has_site (fun vs H Q E h => len_Board_has_site h) (fun cdv A outer s H vs Q E hr h => ⟨t_Board_has_site K T.G E, ?_, pure_Board_has_site T.bd h⟩)
  exact (pss_one (ps_ret (pe_and (pe_cmpR op_le pe_int (pv 1) (nomark _)) (pe_one (pe_cmpR op_lt (pv 1) (pe_callB call_len_seq (by rfl) T.n_len bt_len (pa_cons (pe_fld (pv 0) rfl) pa_nil)) (nomark _))))))
theorem ok_Board_turn_to (T : Txt K mg) : FnOk P w K mg base (L2.CX P w) 2 T.f_Board_turn_to T.d_Board_turn_to ["self", "at", "place"] (sp_Board_turn_to K T.G) := by
  refine T.F_Board_turn_to.okX sc_Board_turn_to (fun vs H Q E h => len_Board_turn_to h) (fun cdv A outer s H vs Q E hr h => ⟨t_Board_turn_to K T.G E, ?_, pure_Board_turn_to T.bd h⟩)
  exact (pss_cons (ps_if (pt_not (pt_val (pe_meth (pv 0) T.cl_Board T.m_Board_has_site (ok_Board_has_site T) (hr.mono (by decide)) T.b_Board_has_site .nil pass0 (pa_cons (pv 1) pa_nil))))
    (pss_one (ps_raise rfl (takes_of rfl rfl rfl rfl) (pmk_own PySem.F.excBase_ValueError T.x_NoSite T.g_NoSite T.k_NoSite (raises_own T.b_NoSite T.t_NoSite) (by rfl))))
    pss_nil)
    (pss_cons (ps_if (PW.pt (pw_or (pt_cmpR op_lt (pv 2) pe_int (nomark _)) (pw_or1 (pt_cmpR op_ge (pv 2) (pe_callB call_len_seq (by rfl) T.n_len bt_len (pa_cons (pe_ix ix_list (pe_fld (pv 0) rfl) (pv 1) (fun _ _ => rfl)) pa_nil)) (nomark _)))))
    (pss_one (ps_raise rfl (takes_of rfl rfl rfl rfl) (pmk_own PySem.F.excBase_ValueError T.x_NoPlace T.g_NoPlace T.k_NoPlace (raises_own T.b_NoPlace T.t_NoPlace) (by rfl))))
    pss_nil)
    (pss_one (ps_asg (pv 2) (pg_sub (pe_fld (pv 0) rfl) (pv 1) set_list)))))
theorem okN_Board_turn_to (T : Txt K mg) : FnOk P w K mg base (L2N.CX P w) 2 T.f_Board_turn_to T.d_Board_turn_to ["self", "at", "place"] (sp_Board_turn_to K T.G) := by
  refine okXN T.F_Board_turn_to sc_Board_turn_to (fun vs H Q E h => len_Board_turn_to h) (fun cdv A outer s H vs Q E hr h => ⟨t_Board_turn_to K T.G E, ?_, pure_Board_turn_to T.bd h⟩)
  exact (pss_cons (ps_if (pt_not (pt_val (pe_meth (pv 0) T.cl_Board T.m_Board_has_site (ok_Board_has_site T) (hr.mono (by decide)) T.b_Board_has_site .nil pass0 (pa_cons (pv 1) pa_nil))))
    (pss_one (L2N.ps_raise rfl (L2N.takes_of rfl rfl rfl rfl) (L2N.pmk_own PySem.F.excBase_ValueError T.x_NoSite T.g_NoSite T.k_NoSite (raises_own T.b_NoSite T.t_NoSite) (by rfl))))
    pss_nil)
    (pss_cons (ps_if (PW.pt (pw_or (pt_cmpR op_lt (pv 2) pe_int (nomark _)) (pw_or1 (pt_cmpR op_ge (pv 2) (pe_callB call_len_seq (by rfl) T.n_len bt_len (pa_cons (pe_ix ix_list (pe_fld (pv 0) rfl) (pv 1) (fun _ _ => rfl)) pa_nil)) (nomark _)))))
    (pss_one (L2N.ps_raise rfl (L2N.takes_of rfl rfl rfl rfl) (L2N.pmk_own PySem.F.excBase_ValueError T.x_NoPlace T.g_NoPlace T.k_NoPlace (raises_own T.b_NoPlace T.t_NoPlace) (by rfl))))
    pss_nil)
    (pss_one (ps_asg (pv 2) (pg_sub (pe_fld (pv 0) rfl) (pv 1) set_list)))))
theorem ok_step (T : Txt K mg) : FnOk P w K mg base (L2.CX P w) 2 T.f_step T.d_step ["board", "at"] (sp_step K T.G) := by
  refine T.F_step.okX sc_step (fun vs H Q E h => len_step h) (fun cdv A outer s H vs Q E hr h => ⟨t_step K T.G E, ?_, pure_step T.bd h⟩)
  exact (pss_cons (ps_if (pt_not (pt_val (pe_meth (pv 0) T.cl_Board T.m_Board_has_site (ok_Board_has_site T) (hr.mono (by decide)) T.b_Board_has_site .nil pass0 (pa_cons (pv 1) pa_nil))))
    (pss_one (ps_raise rfl (takes_of rfl rfl rfl rfl) (pmk_own PySem.F.excBase_ValueError T.x_NoSite T.g_NoSite T.k_NoSite (raises_own T.b_NoSite T.t_NoSite) (by rfl))))
    pss_nil)
    (pss_cons (ps_if (pt_cmpR op_eq (pe_ix ix_list (pe_fld (pv 0) rfl) (pv 1) (fun _ _ => rfl)) pe_int (nomark _))
    (pss_one (ps_raise rfl (takes_of rfl rfl rfl rfl) (pmk_own PySem.F.excBase_ValueError T.x_NoMarble T.g_NoMarble T.k_NoMarble (raises_own T.b_NoMarble T.t_NoMarble) (by rfl))))
    pss_nil)
    (pss_cons (ps_set (i := 2) sc_step.nd rfl (by first | exact Or.inl rfl | exact Or.inr rfl) (pe_ix ix_list (pe_ix ix_list (pe_fld (pv 0) rfl) (pv 1) (fun _ _ => rfl)) (pe_ix ix_list (pe_fld (pv 0) rfl) (pv 1) (fun _ _ => rfl)) (fun _ _ => rfl)))
    (pss_cons (ps_asg (pe_op op_sub (pe_ix ix_list (pe_fld (pv 0) rfl) (pv 1) (fun _ _ => rfl)) pe_int) (pg_sub (pe_fld (pv 0) rfl) (pv 1) set_list))
    (pss_cons (ps_if (pt_cmpR op_eq (pv 2) (pe_glob (v := .int (-1)) (by rfl) T.g_PIT ⟨_, rfl⟩) (nomark _))
    (pss_one (ps_fld (pv 0) (pe_op op_add (pe_fld (pv 0) rfl) pe_int) rfl))
    (pss_one (ps_asg (pe_op op_add (pe_ix ix_list (pe_fld (pv 0) rfl) (pv 2) (fun _ _ => rfl)) pe_int) (pg_sub (pe_fld (pv 0) rfl) (pv 2) set_list))))
    (pss_cons (ps_asg (pe_op op_mod (pe_op op_add (pe_ix ix_list (pe_fld (pv 0) rfl) (pv 1) (fun _ _ => rfl)) pe_int) (pe_callB call_len_seq (by rfl) T.n_len bt_len (pa_cons (pe_ix ix_list (pe_fld (pv 0) rfl) (pv 1) (fun _ _ => rfl)) pa_nil))) (pg_sub (pe_fld (pv 0) rfl) (pv 1) set_list))
    (pss_cons (ps_asg (pe_op op_add (pe_ix ix_list (pe_fld (pv 0) rfl) (pv 1) (fun _ _ => rfl)) pe_int) (pg_sub (pe_fld (pv 0) rfl) (pv 1) set_list))
    (pss_one (ps_ret (pv 2))))))))))
theorem ok_Board_load (T : Txt K mg) : FnOk P w K mg base (L2.CX P w) 2 T.f_Board_load T.d_Board_load ["self", "at", "many"] (sp_Board_load K T.G) := by
  refine T.F_Board_load.okX sc_Board_load (fun vs H Q E h => len_Board_load h) (fun cdv A outer s H vs Q E hr h => ⟨t_Board_load K T.G E, ?_, pure_Board_load T.bd h⟩)
  exact (pss_cons (ps_if (pt_not (pt_val (pe_meth (pv 0) T.cl_Board T.m_Board_has_site (ok_Board_has_site T) (hr.mono (by decide)) T.b_Board_has_site .nil pass0 (pa_cons (pv 1) pa_nil))))
    (pss_one (ps_raise rfl (takes_of rfl rfl rfl rfl) (pmk_own PySem.F.excBase_ValueError T.x_NoSite T.g_NoSite T.k_NoSite (raises_own T.b_NoSite T.t_NoSite) (by rfl))))
    pss_nil)
    (pss_cons (ps_if (pt_cmpR op_gt (pe_op op_add (pe_callB (cr_sum rfl) (by rfl) T.n_sum bt_sum (pa_cons (pe_fld (pv 0) rfl) pa_nil)) (pv 2)) (pe_glob (v := .int 400) (by rfl) T.g_MOST_MARBLES ⟨_, rfl⟩) (nomark _))
    (pss_one (ps_raise rfl (takes_of rfl rfl rfl rfl) (pmk_own PySem.F.excBase_ValueError T.x_TooMany T.g_TooMany T.k_TooMany (raises_own T.b_TooMany T.t_TooMany) (by rfl))))
    pss_nil)
    (pss_one (ps_asg (pe_op op_add (pe_ix ix_list (pe_fld (pv 0) rfl) (pv 1) (fun _ _ => rfl)) (pv 2)) (pg_sub (pe_fld (pv 0) rfl) (pv 1) set_list)))))
theorem okN_Board_load (T : Txt K mg) : FnOk P w K mg base (L2N.CX P w) 2 T.f_Board_load T.d_Board_load ["self", "at", "many"] (sp_Board_load K T.G) := by
  refine okXN T.F_Board_load sc_Board_load (fun vs H Q E h => len_Board_load h) (fun cdv A outer s H vs Q E hr h => ⟨t_Board_load K T.G E, ?_, pure_Board_load T.bd h⟩)
  exact (pss_cons (ps_if (pt_not (pt_val (pe_meth (pv 0) T.cl_Board T.m_Board_has_site (ok_Board_has_site T) (hr.mono (by decide)) T.b_Board_has_site .nil pass0 (pa_cons (pv 1) pa_nil))))
    (pss_one (L2N.ps_raise rfl (L2N.takes_of rfl rfl rfl rfl) (L2N.pmk_own PySem.F.excBase_ValueError T.x_NoSite T.g_NoSite T.k_NoSite (raises_own T.b_NoSite T.t_NoSite) (by rfl))))
    pss_nil)
    (pss_cons (ps_if (pt_cmpR op_gt (pe_op op_add (pe_callB (cr_sum rfl) (by rfl) T.n_sum bt_sum (pa_cons (pe_fld (pv 0) rfl) pa_nil)) (pv 2)) (pe_glob (v := .int 400) (by rfl) T.g_MOST_MARBLES ⟨_, rfl⟩) (nomark _))
    (pss_one (L2N.ps_raise rfl (L2N.takes_of rfl rfl rfl rfl) (L2N.pmk_own PySem.F.excBase_ValueError T.x_TooMany T.g_TooMany T.k_TooMany (raises_own T.b_TooMany T.t_TooMany) (by rfl))))
    pss_nil)
    (pss_one (ps_asg (pe_op op_add (pe_ix ix_list (pe_fld (pv 0) rfl) (pv 1) (fun _ _ => rfl)) (pv 2)) (pg_sub (pe_fld (pv 0) rfl) (pv 1) set_list)))))
theorem ok_reached (T : Txt K mg) : FnOk P w K mg base CX0 1 T.f_reached T.d_reached ["rows"] (sp_reached K T.G) := by
  refine T.F_reached.ok sc_reached (fun vs H Q E h => len_reached h) (fun cdv A outer s H vs Q E hr h => ⟨t_reached K T.G E, ?_, pure_reached  h⟩)
  exact (pss_cons (ps_setLc (i := 1) (own := [("row", 5)]) (g := (gName 5)) (tt := tYes) rfl sc_reached.nd rfl rfl (sw_true rfl rfl rfl (by decide +kernel)) (pi_list (pv 0)) (blkOk_by (own := [("row", 5)]) (N := N_reached) (by kernel_rfl))
      (fun _ _ _ _ _ => (pg_name (i := 5) sc_reached.nd rfl (by first | exact Or.inl rfl | exact Or.inr rfl))) (fun _ _ _ _ _ => pts_nil) (fun _ _ _ _ _ => pe_bl))
    (pss_cons (ps_for PassesOwn.never rfl (pi_range1 (by rfl) T.n_range (pa_cons (pe_callB call_len_seq (by rfl) T.n_len bt_len (pa_cons (pv 0) pa_nil)) pa_nil)) (pg_name (i := 2) sc_reached.nd rfl (by first | exact Or.inl rfl | exact Or.inr rfl))
    (pss_one (ps_for PassesOwn.never rfl (pi_range1 (by rfl) T.n_range (pa_cons (pe_callB call_len_seq (by rfl) T.n_len bt_len (pa_cons (pv 0) pa_nil)) pa_nil)) (pg_name (i := 3) sc_reached.nd rfl (by first | exact Or.inl rfl | exact Or.inr rfl))
    (pss_one (ps_for PassesOwn.never rfl (pi_list (pe_ix ix_list (pv 0) (pv 3) (fun _ _ => rfl))) (pg_name (i := 4) sc_reached.nd rfl (by first | exact Or.inl rfl | exact Or.inr rfl))
    (pss_one (ps_if (PW.pt (pw_or (pt_cmpR op_eq (pv 4) (pe_glob (v := .int (-1)) (by rfl) T.g_PIT ⟨_, rfl⟩) (nomark _)) (pw_or1 (pt_val (pe_ix ix_list (pv 1) (pv 4) (fun _ _ => rfl))))))
    (pss_one (ps_asg pe_bl (pg_sub (pv 1) (pv 3) set_list)))
    pss_nil)))))))
    (pss_one (ps_ret (pv 1)))))
theorem ok_is_open (T : Txt K mg) : FnOk P w K mg base CX0 2 T.f_is_open T.d_is_open ["board"] (sp_is_open K T.G) := by
  refine T.F_is_open.ok sc_is_open (fun vs H Q E h => len_is_open h) (fun cdv A outer s H vs Q E hr h => ⟨t_is_open K T.G E, ?_, pure_is_open T.bd h⟩)
  exact (pss_one (ps_ret (pe_callB (cr_all rfl) (by rfl) T.n_all bt_all (pa_cons (pe_call (ok_reached T) (hr.mono (by decide)) (by rfl) T.g_reached T.F_reached.kp T.b_reached .nil pass0 (pa_cons (pe_fld (pv 0) rfl) pa_nil)) pa_nil))))
theorem ok_Board_become (T : Txt K mg) : FnOk P w K mg base CX0 1 T.f_Board_become T.d_Board_become ["self", "other"] (sp_Board_become K T.G) := by
  refine T.F_Board_become.ok sc_Board_become (fun vs H Q E h => len_Board_become h) (fun cdv A outer s H vs Q E hr h => ⟨t_Board_become K T.G E, ?_, pure_Board_become T.bd h⟩)
  exact (pss_cons (ps_fld (pv 0) (pe_callTy call_list_of (by rfl) T.n_list bt_list (pa_cons (pe_fld (pv 1) rfl) pa_nil)) rfl)
    (pss_cons (ps_fld (pv 0) (pe_callTy call_list_of (by rfl) T.n_list bt_list (pa_cons (pe_fld (pv 1) rfl) pa_nil)) rfl)
    (pss_cons (ps_fld (pv 0) (pe_callTy call_list_of (by rfl) T.n_list bt_list (pa_cons (pe_fld (pv 1) rfl) pa_nil)) rfl)
    (pss_one (ps_fld (pv 0) (pe_fld (pv 1) rfl) rfl)))))
theorem ok_Board_twin (T : Txt K mg) : FnOk P w K mg base CX0 4 T.f_Board_twin T.d_Board_twin ["self"] (sp_Board_twin K T.G) := by
  refine T.F_Board_twin.ok sc_Board_twin (fun vs H Q E h => len_Board_twin h) (fun cdv A outer s H vs Q E hr h => ⟨t_Board_twin K T.G E, ?_, pure_Board_twin T.bd h⟩)
  exact (pss_cons (ps_set (i := 1) sc_Board_twin.nd rfl (by first | exact Or.inl rfl | exact Or.inr rfl) (pe_make T.mk_Board (ok_Board_init T) (hr.mono (by decide)) (by rfl) T.g_Board T.b_Board_init .nil passL (pa_cons (pe_fld (pv 0) rfl) pa_nil)))
    (pss_cons (ps_expr (pe_meth (pv 1) T.cl_Board T.m_Board_become (ok_Board_become T) (hr.mono (by decide)) T.b_Board_become .nil pass0 (pa_cons (pv 0) pa_nil)))
    (pss_one (ps_ret (pv 1)))))
theorem ok_first_laden (T : Txt K mg) : FnOk P w K mg base CX0 1 T.f_first_laden T.d_first_laden ["board"] (sp_first_laden K T.G) := by
  refine T.F_first_laden.ok sc_first_laden (fun vs H Q E h => len_first_laden h) (fun cdv A outer s H vs Q E hr h => ⟨t_first_laden K T.G E, ?_, pure_first_laden T.bd h⟩)
  exact (pss_cons (ps_for PassesOwn.never rfl (pi_range1 (by rfl) T.n_range (pa_cons (pe_callB call_len_seq (by rfl) T.n_len bt_len (pa_cons (pe_fld (pv 0) rfl) pa_nil)) pa_nil)) (pg_name (i := 1) sc_first_laden.nd rfl (by first | exact Or.inl rfl | exact Or.inr rfl))
    (pss_one (ps_if (pt_cmpR op_gt (pe_ix ix_list (pe_fld (pv 0) rfl) (pv 1) (fun _ _ => rfl)) pe_int (nomark _))
    (pss_one (ps_ret (pv 1)))
    pss_nil)))
    (pss_one (ps_ret pe_non)))
theorem ok_run (T : Txt K mg) : FnOk P w K mg base (L2.CX P w) 5 T.f_run T.d_run ["board", "most"] (sp_run K T.G) := by
  refine T.F_run.okX sc_run (fun vs H Q E h => len_run h) (fun cdv A outer s H vs Q E hr h => ⟨t_run K T.G E, ?_, pure_run  h⟩)
  exact (pss_cons (ps_if (pt_not (pt_val (pe_call (ok_is_open T) (hr.mono (by decide)) (by rfl) T.g_is_open T.F_is_open.kp T.b_is_open .nil pass0 (pa_cons (pv 0) pa_nil))))
    (pss_one (ps_raise rfl (takes_of rfl rfl rfl rfl) (pmk_own PySem.F.excBase_ValueError T.x_NotOpen T.g_NotOpen T.k_NotOpen (raises_own T.b_NotOpen T.t_NotOpen) (by rfl))))
    pss_nil)
    (pss_cons (ps_set (i := 2) sc_run.nd rfl (by first | exact Or.inl rfl | exact Or.inr rfl) (pe_meth0 (pv 0) T.cl_Board T.m_Board_twin (ok_Board_twin T) (hr.mono (by decide)) T.b_Board_twin .nil pass0))
    (pss_cons (ps_set (i := 3) sc_run.nd rfl (by first | exact Or.inl rfl | exact Or.inr rfl) pe_int)
    (pss_cons (ps_set (i := 4) sc_run.nd rfl (by first | exact Or.inl rfl | exact Or.inr rfl) (pe_call (ok_first_laden T) (hr.mono (by decide)) (by rfl) T.g_first_laden T.F_first_laden.kp T.b_first_laden .nil pass0 (pa_cons (pv 2) pa_nil)))
    (pss_cons (ps_while (passes_of rfl) (pt_cmpR op_notN (pv 4) pe_non (nomark _))
    (pss_cons (ps_if (pt_cmpR op_eq (pv 3) (pv 1) (nomark _))
    (pss_one (ps_raise rfl (takes_of rfl rfl rfl rfl) (pmk_own PySem.F.excBase_ValueError T.x_TooLong T.g_TooLong T.k_TooLong (raises_own T.b_TooLong T.t_TooLong) (by rfl))))
    pss_nil)
    (pss_cons (ps_expr (pe_call (ok_step T) (hr.mono (by decide)) (by rfl) T.g_step T.F_step.kp T.b_step .nil (passes_call (takes_of rfl rfl rfl rfl) fun _ _ _ _ z => z) (pa_cons (pv 2) (pa_cons (pv 4) pa_nil))))
    (pss_cons (ps_set (i := 3) sc_run.nd rfl (by first | exact Or.inl rfl | exact Or.inr rfl) (pe_op op_add (pv 3) pe_int))
    (pss_one (ps_set (i := 4) sc_run.nd rfl (by first | exact Or.inl rfl | exact Or.inr rfl) (pe_call (ok_first_laden T) (hr.mono (by decide)) (by rfl) T.g_first_laden T.F_first_laden.kp T.b_first_laden .nil pass0 (pa_cons (pv 2) pa_nil))))))))
    (pss_cons (ps_expr (pe_meth (pv 0) T.cl_Board T.m_Board_become (ok_Board_become T) (hr.mono (by decide)) T.b_Board_become .nil pass0 (pa_cons (pv 2) pa_nil)))
    (pss_one (ps_ret (pv 3)))))))))
theorem ok_last_exit (T : Txt K mg) : FnOk P w K mg base (L2.CX P w) 2 T.f_last_exit T.d_last_exit ["board", "at"] (sp_last_exit K T.G) := by
  refine T.F_last_exit.okX sc_last_exit (fun vs H Q E h => len_last_exit h) (fun cdv A outer s H vs Q E hr h => ⟨t_last_exit K T.G E, ?_, pure_last_exit T.bd h⟩)
  exact (pss_cons (ps_if (pt_not (pt_val (pe_meth (pv 0) T.cl_Board T.m_Board_has_site (ok_Board_has_site T) (hr.mono (by decide)) T.b_Board_has_site .nil pass0 (pa_cons (pv 1) pa_nil))))
    (pss_one (ps_raise rfl (takes_of rfl rfl rfl rfl) (pmk_own PySem.F.excBase_ValueError T.x_NoSite T.g_NoSite T.k_NoSite (raises_own T.b_NoSite T.t_NoSite) (by rfl))))
    pss_nil)
    (pss_cons (ps_set (i := 2) sc_last_exit.nd rfl (by first | exact Or.inl rfl | exact Or.inr rfl) (pe_ix ix_list (pe_fld (pv 0) rfl) (pv 1) (fun _ _ => rfl)))
    (pss_one (ps_ret (pe_ix ix_list (pv 2) (pe_op op_mod (pe_op op_sub (pe_ix ix_list (pe_fld (pv 0) rfl) (pv 1) (fun _ _ => rfl)) pe_int) (pe_callB call_len_seq (by rfl) T.n_len bt_len (pa_cons (pv 2) pa_nil))) (fun _ _ => rfl))))))
theorem ok_is_tree (T : Txt K mg) : FnOk P w K mg base CX0 3 T.f_is_tree T.d_is_tree ["board"] (sp_is_tree K T.G) := by
  refine T.F_is_tree.ok sc_is_tree (fun vs H Q E h => len_is_tree h) (fun cdv A outer s H vs Q E hr h => ⟨t_is_tree K T.G E, ?_, pure_is_tree T.bd h⟩)
  exact (pss_one (ps_ret (pe_callB (cr_all rfl) (by rfl) T.n_all bt_all (pa_cons (pe_call (ok_reached T) (hr.mono (by decide)) (by rfl) T.g_reached T.F_reached.kp T.b_reached .nil pass0 (pa_cons (pe_lc (own := [("at", 1)]) (g := (gName 1)) (tt := tYes) rfl sc_is_tree.nd (pi_range1 (by rfl) T.n_range (pa_cons (pe_callB call_len_seq (by rfl) T.n_len bt_len (pa_cons (pe_fld (pv 0) rfl) pa_nil)) pa_nil)) (blkOk_by (own := [("at", 1)]) (N := N_is_tree) (by kernel_rfl))
      (fun _ _ _ _ _ => (pg_name (i := 1) sc_is_tree.nd rfl (by first | exact Or.inl rfl | exact Or.inr rfl))) (fun _ _ _ _ _ => pts_nil) (fun _ _ _ _ _ => (pe_lst (pa_cons (pe_call (ok_last_exit T) (hr.mono (by decide)) (by rfl) T.g_last_exit T.F_last_exit.kp T.b_last_exit .nil passL (pa_cons (pv 0) (pa_cons (pv 1) pa_nil))) pa_nil)))) pa_nil)) pa_nil))))
theorem ok_before (T : Txt K mg) : FnOk P w K mg base CX0 1 T.f_before T.d_before ["rows", "turns", "start", "spot"] (sp_before K T.G) := by
  refine T.F_before.ok sc_before (fun vs H Q E h => len_before h) (fun cdv A outer s H vs Q E hr h => ⟨t_before K T.G E, ?_, pure_before  h⟩)
  exact (pss_cons (ps_set (i := 4) sc_before.nd rfl (by first | exact Or.inl rfl | exact Or.inr rfl) (pv 3))
    (pss_cons (ps_set (i := 5) sc_before.nd rfl (by first | exact Or.inl rfl | exact Or.inr rfl) pe_non)
    (pss_cons (ps_while PassesOwn.never (pt_cmpR op_ne (pv 5) (pv 3) (nomark _))
    (pss_cons (ps_if (pt_cmpR op_notN (pv 5) pe_non (nomark _))
    (pss_one (ps_set (i := 4) sc_before.nd rfl (by first | exact Or.inl rfl | exact Or.inr rfl) (pv 5)))
    pss_nil)
    (pss_one (ps_if (pt_cmpR op_eq (pv 4) (pe_glob (v := .int (-1)) (by rfl) T.g_PIT ⟨_, rfl⟩) (nomark _))
    (pss_one (ps_set (i := 5) sc_before.nd rfl (by first | exact Or.inl rfl | exact Or.inr rfl) (pv 2)))
    (pss_one (ps_set (i := 5) sc_before.nd rfl (by first | exact Or.inl rfl | exact Or.inr rfl) (pe_ix ix_list (pe_ix ix_list (pv 0) (pv 4) (fun _ _ => rfl)) (pe_op op_mod (pe_op op_sub (pe_ix ix_list (pv 1) (pv 4) (fun _ _ => rfl)) pe_int) (pe_callB call_len_seq (by rfl) T.n_len bt_len (pa_cons (pe_ix ix_list (pv 0) (pv 4) (fun _ _ => rfl)) pa_nil))) (fun _ _ => rfl))))))))
    (pss_one (ps_ret (pv 4))))))
theorem ok_run_back (T : Txt K mg) : FnOk P w K mg base (L2.CX P w) 4 T.f_run_back T.d_run_back ["board", "at", "most"] (sp_run_back K T.G) := by
  refine T.F_run_back.okX sc_run_back (fun vs H Q E h => len_run_back h) (fun cdv A outer s H vs Q E hr h => ⟨t_run_back K T.G E, ?_, pure_run_back T.bd h⟩)
  exact (pss_cons (ps_if (pt_not (pt_val (pe_meth (pv 0) T.cl_Board T.m_Board_has_site (ok_Board_has_site T) (hr.mono (by decide)) T.b_Board_has_site .nil pass0 (pa_cons (pv 1) pa_nil))))
    (pss_one (ps_raise rfl (takes_of rfl rfl rfl rfl) (pmk_own PySem.F.excBase_ValueError T.x_NoSite T.g_NoSite T.k_NoSite (raises_own T.b_NoSite T.t_NoSite) (by rfl))))
    pss_nil)
    (pss_cons (ps_if (pt_not (pt_val (pe_call (ok_is_open T) (hr.mono (by decide)) (by rfl) T.g_is_open T.F_is_open.kp T.b_is_open .nil pass0 (pa_cons (pv 0) pa_nil))))
    (pss_one (ps_raise rfl (takes_of rfl rfl rfl rfl) (pmk_own PySem.F.excBase_ValueError T.x_NotOpen T.g_NotOpen T.k_NotOpen (raises_own T.b_NotOpen T.t_NotOpen) (by rfl))))
    pss_nil)
    (pss_cons (ps_if (pt_cmpR op_gt (pe_callB (cr_sum rfl) (by rfl) T.n_sum bt_sum (pa_cons (pe_fld (pv 0) rfl) pa_nil)) pe_int (nomark _))
    (pss_one (ps_raise rfl (takes_of rfl rfl rfl rfl) (pmk_own PySem.F.excBase_ValueError T.x_NotBare T.g_NotBare T.k_NotBare (raises_own T.b_NotBare T.t_NotBare) (by rfl))))
    pss_nil)
    (pss_cons (ps_if (pt_not (pt_val (pe_call (ok_is_tree T) (hr.mono (by decide)) (by rfl) T.g_is_tree T.F_is_tree.kp T.b_is_tree .nil pass0 (pa_cons (pv 0) pa_nil))))
    (pss_one (ps_raise rfl (takes_of rfl rfl rfl rfl) (pmk_own PySem.F.excBase_ValueError T.x_NotTree T.g_NotTree T.k_NotTree (raises_own T.b_NotTree T.t_NotTree) (by rfl))))
    pss_nil)
    (pss_cons (ps_set (i := 3) sc_run_back.nd rfl (by first | exact Or.inl rfl | exact Or.inr rfl) (pe_callTy call_list_of (by rfl) T.n_list bt_list (pa_cons (pe_fld (pv 0) rfl) pa_nil)))
    (pss_cons (ps_set (i := 4) sc_run_back.nd rfl (by first | exact Or.inl rfl | exact Or.inr rfl) pe_int)
    (pss_cons (ps_set (i := 5) sc_run_back.nd rfl (by first | exact Or.inl rfl | exact Or.inr rfl) (pe_call (ok_before T) (hr.mono (by decide)) (by rfl) T.g_before T.F_before.kp T.b_before .nil pass0 (pa_cons (pe_fld (pv 0) rfl) (pa_cons (pv 3) (pa_cons (pv 1) (pa_cons (pe_glob (v := .int (-1)) (by rfl) T.g_PIT ⟨_, rfl⟩) pa_nil))))))
    (pss_cons (ps_while (passes_of rfl) (pt_cmpR op_ne (pv 5) (pe_glob (v := .int (-1)) (by rfl) T.g_PIT ⟨_, rfl⟩) (nomark _))
    (pss_cons (ps_if (pt_cmpR op_eq (pv 4) (pv 2) (nomark _))
    (pss_one (ps_raise rfl (takes_of rfl rfl rfl rfl) (pmk_own PySem.F.excBase_ValueError T.x_TooLong T.g_TooLong T.k_TooLong (raises_own T.b_TooLong T.t_TooLong) (by rfl))))
    pss_nil)
    (pss_cons (ps_asg (pe_op op_mod (pe_op op_sub (pe_ix ix_list (pv 3) (pv 5) (fun _ _ => rfl)) pe_int) (pe_callB call_len_seq (by rfl) T.n_len bt_len (pa_cons (pe_ix ix_list (pe_fld (pv 0) rfl) (pv 5) (fun _ _ => rfl)) pa_nil))) (pg_sub (pv 3) (pv 5) set_list))
    (pss_cons (ps_set (i := 4) sc_run_back.nd rfl (by first | exact Or.inl rfl | exact Or.inr rfl) (pe_op op_add (pv 4) pe_int))
    (pss_one (ps_set (i := 5) sc_run_back.nd rfl (by first | exact Or.inl rfl | exact Or.inr rfl) (pe_call (ok_before T) (hr.mono (by decide)) (by rfl) T.g_before T.F_before.kp T.b_before .nil pass0 (pa_cons (pe_fld (pv 0) rfl) (pa_cons (pv 3) (pa_cons (pv 1) (pa_cons (pv 5) pa_nil)))))))))))
    (pss_cons (ps_fld (pv 0) (pv 3) rfl)
    (pss_one (ps_ret (pv 4))))))))))))
theorem ok_number_of (T : Txt K mg) : FnOk P w K mg base (L2.CX P w) 1 T.f_number_of T.d_number_of ["word"] (sp_number_of K T.G) := by
  refine T.F_number_of.okX sc_number_of (fun vs H Q E h => len_number_of h) (fun cdv A outer s H vs Q E hr h => ⟨t_number_of K T.G E, ?_, pure_number_of  h⟩)
  exact (pss_cons (ps_if (PW.pt (pw_or (pt_cmpR op_eq (pv 0) pe_str (nomark _)) (pw_or (pt_cmpR op_gt (pe_callB call_len_str (by rfl) T.n_len bt_len (pa_cons (pv 0) pa_nil)) (pe_glob (v := .int 20) (by rfl) T.g_MOST_FIGURES ⟨_, rfl⟩) (nomark _)) (pw_or1 (PW.pt (pw_and (pt_cmpR op_eq (pe_ix ix_str (pv 0) pe_int (fun _ _ => rfl)) pe_str (nomark _)) (pw_and1 (pt_cmpR op_gt (pe_callB call_len_str (by rfl) T.n_len bt_len (pa_cons (pv 0) pa_nil)) pe_int (nomark _)))))))))
    (pss_one (ps_raise rfl (takes_of rfl rfl rfl rfl) (pmk_own PySem.F.excBase_ValueError T.x_NoBoard T.g_NoBoard T.k_NoBoard (raises_own T.b_NoBoard T.t_NoBoard) (by rfl))))
    pss_nil)
    (pss_cons (ps_for (passes_of rfl) rfl (pi_str (pv 0)) (pg_name (i := 1) sc_number_of.nd rfl (by first | exact Or.inl rfl | exact Or.inr rfl))
    (pss_one (ps_if (pt_cmpR op_notIn_sign (pv 1) (pe_glob (v := .str "0123456789") (by rfl) T.g_FIGURES ⟨_, rfl⟩) (by rfl))
    (pss_one (ps_raise rfl (takes_of rfl rfl rfl rfl) (pmk_own PySem.F.excBase_ValueError T.x_NoBoard T.g_NoBoard T.k_NoBoard (raises_own T.b_NoBoard T.t_NoBoard) (by rfl))))
    pss_nil)))
    (pss_one (ps_ret (pe_callTy call_int_str (by rfl) T.n_int bt_int (pa_cons (pv 0) pa_nil))))))
theorem ok_exit_of (T : Txt K mg) : FnOk P w K mg base (L2.CX P w) 2 T.f_exit_of T.d_exit_of ["word"] (sp_exit_of K T.G) := by
  refine T.F_exit_of.okX sc_exit_of (fun vs H Q E h => len_exit_of h) (fun cdv A outer s H vs Q E hr h => ⟨t_exit_of K T.G E, ?_, pure_exit_of  h⟩)
  exact (pss_cons (ps_if (pt_cmpR op_eq (pv 0) pe_str (nomark _))
    (pss_one (ps_ret (pe_glob (v := .int (-1)) (by rfl) T.g_PIT ⟨_, rfl⟩)))
    pss_nil)
    (pss_one (ps_ret (pe_call (ok_number_of T) (hr.mono (by decide)) (by rfl) T.g_number_of T.F_number_of.kp T.b_number_of .nil (passes_call (takes_of rfl rfl rfl rfl) fun _ _ _ _ z => z) (pa_cons (pv 0) pa_nil)))))
theorem ok_site_of_k28 (T : Txt K mg) : FnOk P w K mg base (L2.CX P w) 3 T.f_site_of_k28 T.d_site_of_k28 ["line"] (sp_site_of_k28 K T.G) := by
  refine T.F_site_of_k28.okX sc_site_of_k28 (fun vs H Q E h => len_site_of_k28 h) (fun cdv A outer s H vs Q E hr h => ⟨t_site_of_k28 K T.G E, ?_, pure_site_of_k28  h⟩)
  exact (pss_cons (ps_set (i := 1) sc_site_of_k28.nd rfl (by first | exact Or.inl rfl | exact Or.inr rfl) (pe_split (pv 0) pe_str))
    (pss_cons (ps_if (PW.pt (pw_or (pt_cmpR op_lt (pe_callB call_len_seq (by rfl) T.n_len bt_len (pa_cons (pv 1) pa_nil)) pe_int (nomark _)) (pw_or1 (pt_cmpR op_ne (pe_ix ix_list (pv 1) pe_int (fun _ _ => rfl)) pe_str (nomark _)))))
    (pss_one (ps_raise rfl (takes_of rfl rfl rfl rfl) (pmk_own PySem.F.excBase_ValueError T.x_NoBoard T.g_NoBoard T.k_NoBoard (raises_own T.b_NoBoard T.t_NoBoard) (by rfl))))
    pss_nil)
    (pss_cons (ps_setLc (i := 2) (own := [("word", 3)]) (g := (gName 3)) (tt := tYes) rfl sc_site_of_k28.nd rfl rfl (sw_true rfl rfl rfl (by decide +kernel)) (pi_list (pe_slice sl_list (pv 1) po_none (po_some pe_int))) (blkOk_by (own := [("word", 3)]) (N := N_site_of_k28) (by kernel_rfl))
      (fun _ _ _ _ _ => (pg_name (i := 3) sc_site_of_k28.nd rfl (by first | exact Or.inl rfl | exact Or.inr rfl))) (fun _ _ _ _ _ => pts_nil) (fun _ _ _ _ _ => (pe_call (ok_number_of T) (hr.mono (by decide)) (by rfl) T.g_number_of T.F_number_of.kp T.b_number_of .nil passL (pa_cons (pv 3) pa_nil))))
    (pss_one (ps_ret (pe_tup (pa_cons (pv 2) (pa_cons (pe_lc (own := [("word", 3)]) (g := (gName 3)) (tt := tYes) rfl sc_site_of_k28.nd (pi_list (pe_slice sl_list (pv 1) (po_some pe_int) po_none)) (blkOk_by (own := [("word", 3)]) (N := N_site_of_k28) (by kernel_rfl))
      (fun _ _ _ _ _ => (pg_name (i := 3) sc_site_of_k28.nd rfl (by first | exact Or.inl rfl | exact Or.inr rfl))) (fun _ _ _ _ _ => pts_nil) (fun _ _ _ _ _ => (pe_call (ok_exit_of T) (hr.mono (by decide)) (by rfl) T.g_exit_of T.F_exit_of.kp T.b_exit_of .nil passL (pa_cons (pv 3) pa_nil)))) pa_nil))))))))
theorem ok_read_k28 (T : Txt K mg) : FnOk P w K mg base (L2.CX P w) 4 T.f_read_k28 T.d_read_k28 ["text"] (sp_read_k28 K T.G) := by
  refine T.F_read_k28.okX sc_read_k28 (fun vs H Q E h => len_read_k28 h) (fun cdv A outer s H vs Q E hr h => ⟨t_read_k28 K T.G E, ?_, pure_read_k28 T.bd T.e_NoSite_BoardError h⟩)
  exact (pss_cons (ps_set (i := 1) sc_read_k28.nd rfl (by first | exact Or.inl rfl | exact Or.inr rfl) (pe_split (pv 0) pe_str))
    (pss_cons (ps_set (i := 2) sc_read_k28.nd rfl (by first | exact Or.inl rfl | exact Or.inr rfl) (pe_split (pe_ix ix_list (pv 1) pe_int (fun _ _ => rfl)) pe_str))
    (pss_cons (ps_if (PW.pt (pw_or (pt_cmpR op_ne (pe_callB call_len_seq (by rfl) T.n_len bt_len (pa_cons (pv 2) pa_nil)) pe_int (nomark _)) (pw_or1 (pt_cmpR op_ne (pe_ix ix_list (pv 2) pe_int (fun _ _ => rfl)) pe_str (nomark _)))))
    (pss_one (ps_raise rfl (takes_of rfl rfl rfl rfl) (pmk_own PySem.F.excBase_ValueError T.x_NoBoard T.g_NoBoard T.k_NoBoard (raises_own T.b_NoBoard T.t_NoBoard) (by rfl))))
    pss_nil)
    (pss_cons (ps_set (i := 3) sc_read_k28.nd rfl (by first | exact Or.inl rfl | exact Or.inr rfl) (pe_call (ok_number_of T) (hr.mono (by decide)) (by rfl) T.g_number_of T.F_number_of.kp T.b_number_of .nil (passes_call (takes_of rfl rfl rfl rfl) fun _ _ _ _ z => z) (pa_cons (pe_ix ix_list (pv 2) pe_int (fun _ _ => rfl)) pa_nil)))
    (pss_cons (ps_setLc (i := 4) (own := [("line", 7)]) (g := (gName 7)) (tt := tYes) rfl sc_read_k28.nd rfl rfl (sw_true rfl rfl rfl (by decide +kernel)) (pi_list (pe_slice sl_list (pv 1) (po_some pe_int) po_none)) (blkOk_by (own := [("line", 7)]) (N := N_read_k28) (by kernel_rfl))
      (fun _ _ _ _ _ => (pg_name (i := 7) sc_read_k28.nd rfl (by first | exact Or.inl rfl | exact Or.inr rfl))) (fun _ _ _ _ _ => pts_nil) (fun _ _ _ _ _ => (pe_call (ok_site_of_k28 T) (hr.mono (by decide)) (by rfl) T.g_site_of_k28 T.F_site_of_k28.kp T.b_site_of_k28 .nil passL (pa_cons (pv 7) pa_nil))))
    (pss_cons (L2H.ps_try_onlyX (tb := (fun W => (tSeq (tAsg (tMakeT T.G.Board (sp_Board_init K T.G) (WE W) (tCons (tLc (iList K (tVar 4)) (gName 8) tYes (tOp (rIxT K) (tVar 8) (tC (.int 1))) [8]) tNil)) (gName 5))
    (tFor (iRng1 (tCons (tCB (mLen K) (tCons (tVar 4) tNil)) tNil)) (gName 6)
    (tSeq (tDrop (tMethT T.G.Board "turn_to" (sp_Board_turn_to K T.G) (WE W) (tVar 5) (tCons (tVar 6) (tCons (tOp (rIxL K) (tOp (rIxT K) (tOp (rIxL K) (tVar 4) (tVar 6)) (tC (.int 0))) (tC (.int 0))) tNil))))
    (tDrop (tMethT T.G.Board "load" (sp_Board_load K T.G) (WE W) (tVar 5) (tCons (tVar 6) (tCons (tOp (rIxL K) (tOp (rIxT K) (tOp (rIxL K) (tVar 4) (tVar 6)) (tC (.int 0))) (tC (.int 1))) tNil))))))))) rfl rfl ⟨rfl, by decide, .inl T.g_BoardError⟩ (fun hd => L2H.passesAt_of rfl hd) (takes_of rfl rfl rfl rfl)
    (fun W pn xe tk tkP po => (pss_cons (ps_set (i := 5) sc_read_k28.nd rfl (by first | exact Or.inl rfl | exact Or.inr rfl) (pe_makeT T.mk_Board (okN_Board_init T) (hr.mono (by decide)) (by rfl) T.g_Board T.b_Board_init (fun σ => L2N.passAt tk σ) (pa_cons (pe_lc (own := [("part", 8)]) (g := (gName 8)) (tt := tYes) rfl sc_read_k28.nd (pi_list (pv 4)) (blkOk_by (own := [("part", 8)]) (N := N_read_k28) (by kernel_rfl))
      (fun _ _ _ _ _ => (pg_name (i := 8) sc_read_k28.nd rfl (by first | exact Or.inl rfl | exact Or.inr rfl))) (fun _ _ _ _ _ => pts_nil) (fun _ _ _ _ _ => (pe_ix ix_tup (pv 8) pe_int (fun _ _ => rfl)))) pa_nil)))
    (pss_one (ps_for po rfl (pi_range1 (by rfl) T.n_range (pa_cons (pe_callB call_len_seq (by rfl) T.n_len bt_len (pa_cons (pv 4) pa_nil)) pa_nil)) (pg_name (i := 6) sc_read_k28.nd rfl (by first | exact Or.inl rfl | exact Or.inr rfl))
    (pss_cons (ps_expr (pe_methT (pv 5) T.cl_Board T.m_Board_turn_to (okN_Board_turn_to T) (hr.mono (by decide)) T.b_Board_turn_to (fun σ => L2N.passAt tk σ) (pa_cons (pv 6) (pa_cons (pe_ix ix_list (pe_ix ix_tup (pe_ix ix_list (pv 4) (pv 6) (fun _ _ => rfl)) pe_int (fun _ _ => rfl)) pe_int (fun _ _ => rfl)) pa_nil))))
    (pss_one (ps_expr (pe_methT (pv 5) T.cl_Board T.m_Board_load (okN_Board_load T) (hr.mono (by decide)) T.b_Board_load (fun σ => L2N.passAt tk σ) (pa_cons (pv 6) (pa_cons (pe_ix ix_list (pe_ix ix_tup (pe_ix ix_list (pv 4) (pv 6) (fun _ _ => rfl)) pe_int (fun _ _ => rfl)) pe_int (fun _ _ => rfl)) pa_nil))))))))))
    (fun a oe cls d pn hz hf tkS hot => (pss_one (L2H.ps_raiseH hot tkS (L2N.pmk_own PySem.F.excBase_ValueError T.x_NoBoard T.g_NoBoard T.k_NoBoard (raises_own T.b_NoBoard T.t_NoBoard) (by rfl))))))
    (pss_cons (ps_fld (pv 5) (pe_lc (own := [("part", 8)]) (g := (gName 8)) (tt := tYes) rfl sc_read_k28.nd (pi_list (pv 4)) (blkOk_by (own := [("part", 8)]) (N := N_read_k28) (by kernel_rfl))
      (fun _ _ _ _ _ => (pg_name (i := 8) sc_read_k28.nd rfl (by first | exact Or.inl rfl | exact Or.inr rfl))) (fun _ _ _ _ _ => pts_nil) (fun _ _ _ _ _ => (pe_ix ix_list (pe_ix ix_tup (pv 8) pe_int (fun _ _ => rfl)) pe_int (fun _ _ => rfl)))) rfl)
    (pss_cons (ps_fld (pv 5) (pv 3) rfl)
    (pss_one (ps_ret (pv 5)))))))))))
theorem ok_deed_k28 (T : Txt K mg) : FnOk P w K mg base (L2.CX P w) 6 T.f_deed_k28 T.d_deed_k28 ["board", "way", "at", "size"] (sp_deed_k28 K T.G) := by
  refine T.F_deed_k28.okX sc_deed_k28 (fun vs H Q E h => len_deed_k28 h) (fun cdv A outer s H vs Q E hr h => ⟨t_deed_k28 K T.G E, ?_, pure_deed_k28 T.bd h⟩)
  exact (pss_one (ps_if (pt_cmpR op_eq (pv 1) pe_int (nomark _))
    (pss_one (ps_expr (pe_meth (pv 0) T.cl_Board T.m_Board_turn_to (ok_Board_turn_to T) (hr.mono (by decide)) T.b_Board_turn_to .nil (passes_call (takes_of rfl rfl rfl rfl) fun _ _ _ _ z => z) (pa_cons (pv 2) (pa_cons (pv 3) pa_nil)))))
    (pss_one (ps_if (pt_cmpR op_eq (pv 1) pe_int (nomark _))
    (pss_one (ps_expr (pe_meth (pv 0) T.cl_Board T.m_Board_turn_to (ok_Board_turn_to T) (hr.mono (by decide)) T.b_Board_turn_to .nil (passes_call (takes_of rfl rfl rfl rfl) fun _ _ _ _ z => z) (pa_cons (pe_callB call_len_seq (by rfl) T.n_len bt_len (pa_cons (pe_fld (pv 0) rfl) pa_nil)) (pa_cons pe_int pa_nil)))))
    (pss_one (ps_if (pt_cmpR op_eq (pv 1) pe_int (nomark _))
    (pss_one (ps_expr (pe_make T.mk_Board (ok_Board_init T) (hr.mono (by decide)) (by rfl) T.g_Board T.b_Board_init .nil (passes_call (takes_of rfl rfl rfl rfl) fun _ _ _ _ z => z) (pa_cons (pe_lst (pa_cons (pe_lst (pa_cons pe_int (pa_cons (pe_op op_add pe_int (pv 2)) pa_nil))) pa_nil)) pa_nil))))
    (pss_one (ps_if (pt_cmpR op_eq (pv 1) pe_int (nomark _))
    (pss_one (ps_expr (pe_call (ok_step T) (hr.mono (by decide)) (by rfl) T.g_step T.F_step.kp T.b_step .nil (passes_call (takes_of rfl rfl rfl rfl) fun _ _ _ _ z => z) (pa_cons (pv 0) (pa_cons (pv 2) pa_nil)))))
    (pss_one (ps_if (pt_cmpR op_eq (pv 1) pe_int (nomark _))
    (pss_one (ps_expr (pe_meth (pv 0) T.cl_Board T.m_Board_load (ok_Board_load T) (hr.mono (by decide)) T.b_Board_load .nil (passes_call (takes_of rfl rfl rfl rfl) fun _ _ _ _ z => z) (pa_cons (pv 2) (pa_cons pe_int pa_nil)))))
    (pss_one (ps_if (pt_cmpR op_eq (pv 1) pe_int (nomark _))
    (pss_one (ps_expr (pe_call (ok_run T) (hr.mono (by decide)) (by rfl) T.g_run T.F_run.kp T.b_run .nil (passes_call (takes_of rfl rfl rfl rfl) fun _ _ _ _ z => z) (pa_cons (pe_make T.mk_Board (ok_Board_init T) (hr.mono (by decide)) (by rfl) T.g_Board T.b_Board_init .nil (passes_call (takes_of rfl rfl rfl rfl) fun _ _ _ _ z => z) (pa_cons (pe_lst (pa_cons (pe_lst (pa_cons pe_int pa_nil)) (pa_cons (pe_lst (pa_cons pe_int (pa_cons pe_int pa_nil))) pa_nil))) pa_nil)) (pa_cons pe_int pa_nil)))))
    (pss_one (ps_if (pt_cmpR op_eq (pv 1) pe_int (nomark _))
    (pss_cons (ps_expr (pe_meth (pv 0) T.cl_Board T.m_Board_load (ok_Board_load T) (hr.mono (by decide)) T.b_Board_load .nil (passes_call (takes_of rfl rfl rfl rfl) fun _ _ _ _ z => z) (pa_cons (pv 2) (pa_cons pe_int pa_nil))))
    (pss_one (ps_expr (pe_call (ok_run_back T) (hr.mono (by decide)) (by rfl) T.g_run_back T.F_run_back.kp T.b_run_back .nil (passes_call (takes_of rfl rfl rfl rfl) fun _ _ _ _ z => z) (pa_cons (pv 0) (pa_cons (pv 2) (pa_cons pe_int pa_nil)))))))
    (pss_one (ps_if (pt_cmpR op_eq (pv 1) pe_int (nomark _))
    (pss_one (ps_expr (pe_call (ok_run_back T) (hr.mono (by decide)) (by rfl) T.g_run_back T.F_run_back.kp T.b_run_back .nil (passes_call (takes_of rfl rfl rfl rfl) fun _ _ _ _ z => z) (pa_cons (pe_make T.mk_Board (ok_Board_init T) (hr.mono (by decide)) (by rfl) T.g_Board T.b_Board_init .nil (passes_call (takes_of rfl rfl rfl rfl) fun _ _ _ _ z => z) (pa_cons (pe_lst (pa_cons (pe_lst (pa_cons (pe_un un_neg pe_int) (pa_cons pe_int pa_nil))) pa_nil)) pa_nil)) (pa_cons pe_int (pa_cons pe_int pa_nil))))))
    (pss_one (ps_if (pt_cmpR op_eq (pv 1) pe_int (nomark _))
    (pss_one (ps_expr (pe_call (ok_run_back T) (hr.mono (by decide)) (by rfl) T.g_run_back T.F_run_back.kp T.b_run_back .nil (passes_call (takes_of rfl rfl rfl rfl) fun _ _ _ _ z => z) (pa_cons (pv 0) (pa_cons (pv 2) (pa_cons pe_int pa_nil))))))
    (pss_one (ps_expr (pe_call (ok_read_k28 T) (hr.mono (by decide)) (by rfl) T.g_read_k28 T.F_read_k28.kp T.b_read_k28 .nil (passes_call (takes_of rfl rfl rfl rfl) fun _ _ _ _ z => z) (pa_cons (pe_op op_add_str pe_str (pe_callTy call_str_int (by rfl) T.n_str bt_str (pa_cons (pv 2) pa_nil))) pa_nil))))))))))))))))))))))
theorem ok_marks_k28 (T : Txt K mg) : FnP P w K mg base 1 T.f_marks_k28 T.d_marks_k28 ["e"] (sp_marks_k28 K T.G) := by
  refine okP T.F_marks_k28 sc_marks_k28 (fun p vs H Q E h => len_marks_k28 h) (fun cdv p A outer s H vs Q hf hr h => ⟨t_marks_k28 K T.G E0 p, ?_, pure_marks_k28 T.kt_NoPlace_ValueError T.kt_NoSite_ValueError T.kt_NoExit_ValueError T.kt_NoMarble_ValueError T.kt_TooMany_ValueError T.kt_NotOpen_ValueError T.kt_NotBare_ValueError T.kt_NotTree_ValueError T.kt_TooLong_ValueError T.kt_NoBoard_ValueError T.ki_NoPlace_NoPlace T.ki_NoPlace_NoSite T.ki_NoPlace_NoExit T.ki_NoPlace_NoMarble T.ki_NoPlace_TooMany T.ki_NoPlace_NotOpen T.ki_NoPlace_NotBare T.ki_NoPlace_NotTree T.ki_NoPlace_TooLong T.ki_NoPlace_NoBoard T.ki_NoSite_NoPlace T.ki_NoSite_NoSite T.ki_NoSite_NoExit T.ki_NoSite_NoMarble T.ki_NoSite_TooMany T.ki_NoSite_NotOpen T.ki_NoSite_NotBare T.ki_NoSite_NotTree T.ki_NoSite_TooLong T.ki_NoSite_NoBoard T.ki_NoExit_NoPlace T.ki_NoExit_NoSite T.ki_NoExit_NoExit T.ki_NoExit_NoMarble T.ki_NoExit_TooMany T.ki_NoExit_NotOpen T.ki_NoExit_NotBare T.ki_NoExit_NotTree T.ki_NoExit_TooLong T.ki_NoExit_NoBoard T.ki_NoMarble_NoPlace T.ki_NoMarble_NoSite T.ki_NoMarble_NoExit T.ki_NoMarble_NoMarble T.ki_NoMarble_TooMany T.ki_NoMarble_NotOpen T.ki_NoMarble_NotBare T.ki_NoMarble_NotTree T.ki_NoMarble_TooLong T.ki_NoMarble_NoBoard T.ki_TooMany_NoPlace T.ki_TooMany_NoSite T.ki_TooMany_NoExit T.ki_TooMany_NoMarble T.ki_TooMany_TooMany T.ki_TooMany_NotOpen T.ki_TooMany_NotBare T.ki_TooMany_NotTree T.ki_TooMany_TooLong T.ki_TooMany_NoBoard T.ki_NotOpen_NoPlace T.ki_NotOpen_NoSite T.ki_NotOpen_NoExit T.ki_NotOpen_NoMarble T.ki_NotOpen_TooMany T.ki_NotOpen_NotOpen T.ki_NotOpen_NotBare T.ki_NotOpen_NotTree T.ki_NotOpen_TooLong T.ki_NotOpen_NoBoard T.ki_NotBare_NoPlace T.ki_NotBare_NoSite T.ki_NotBare_NoExit T.ki_NotBare_NoMarble T.ki_NotBare_TooMany T.ki_NotBare_NotOpen T.ki_NotBare_NotBare T.ki_NotBare_NotTree T.ki_NotBare_TooLong T.ki_NotBare_NoBoard T.ki_NotTree_NoPlace T.ki_NotTree_NoSite T.ki_NotTree_NoExit T.ki_NotTree_NoMarble T.ki_NotTree_TooMany T.ki_NotTree_NotOpen T.ki_NotTree_NotBare T.ki_NotTree_NotTree T.ki_NotTree_TooLong T.ki_NotTree_NoBoard T.ki_TooLong_NoPlace T.ki_TooLong_NoSite T.ki_TooLong_NoExit T.ki_TooLong_NoMarble T.ki_TooLong_TooMany T.ki_TooLong_NotOpen T.ki_TooLong_NotBare T.ki_TooLong_NotTree T.ki_TooLong_TooLong T.ki_TooLong_NoBoard T.ki_NoBoard_NoPlace T.ki_NoBoard_NoSite T.ki_NoBoard_NoExit T.ki_NoBoard_NoMarble T.ki_NoBoard_TooMany T.ki_NoBoard_NotOpen T.ki_NoBoard_NotBare T.ki_NoBoard_NotTree T.ki_NoBoard_TooLong T.ki_NoBoard_NoBoard T.ec_NoPlace T.ec_NoSite T.ec_NoExit T.ec_NoMarble T.ec_TooMany T.ec_NotOpen T.ec_NotBare T.ec_NotTree T.ec_TooLong T.ec_NoBoard h⟩)
  exact (pss_cons (ps_set (i := 1) sc_marks_k28.nd rfl (by first | exact Or.inl rfl | exact Or.inr rfl) (pe_lst (pa_cons (pe_callB (call_isP List.mem_cons_self hf) (by rfl) T.n_isinstance bt_isinstance (pa_cons (pv 0) (pa_cons (pe_glob (v := .ref T.G.NoPlace) (by rfl) T.g_NoPlace rfl) pa_nil))) (pa_cons (pe_callB (call_isP List.mem_cons_self hf) (by rfl) T.n_isinstance bt_isinstance (pa_cons (pv 0) (pa_cons (pe_glob (v := .ref T.G.NoSite) (by rfl) T.g_NoSite rfl) pa_nil))) (pa_cons (pe_callB (call_isP List.mem_cons_self hf) (by rfl) T.n_isinstance bt_isinstance (pa_cons (pv 0) (pa_cons (pe_glob (v := .ref T.G.NoExit) (by rfl) T.g_NoExit rfl) pa_nil))) (pa_cons (pe_callB (call_isP List.mem_cons_self hf) (by rfl) T.n_isinstance bt_isinstance (pa_cons (pv 0) (pa_cons (pe_glob (v := .ref T.G.NoMarble) (by rfl) T.g_NoMarble rfl) pa_nil))) pa_nil))))))
    (pss_cons (ps_set (i := 1) sc_marks_k28.nd rfl (by first | exact Or.inl rfl | exact Or.inr rfl) (pe_op op_cat (pv 1) (pe_lst (pa_cons (pe_callB (call_isP List.mem_cons_self hf) (by rfl) T.n_isinstance bt_isinstance (pa_cons (pv 0) (pa_cons (pe_glob (v := .ref T.G.TooMany) (by rfl) T.g_TooMany rfl) pa_nil))) (pa_cons (pe_callB (call_isP List.mem_cons_self hf) (by rfl) T.n_isinstance bt_isinstance (pa_cons (pv 0) (pa_cons (pe_glob (v := .ref T.G.NotOpen) (by rfl) T.g_NotOpen rfl) pa_nil))) (pa_cons (pe_callB (call_isP List.mem_cons_self hf) (by rfl) T.n_isinstance bt_isinstance (pa_cons (pv 0) (pa_cons (pe_glob (v := .ref T.G.NotBare) (by rfl) T.g_NotBare rfl) pa_nil))) (pa_cons (pe_callB (call_isP List.mem_cons_self hf) (by rfl) T.n_isinstance bt_isinstance (pa_cons (pv 0) (pa_cons (pe_glob (v := .ref T.G.NotTree) (by rfl) T.g_NotTree rfl) pa_nil))) pa_nil)))))))
    (pss_one (ps_ret (pe_op op_cat (pv 1) (pe_lst (pa_cons (pe_callB (call_isP List.mem_cons_self hf) (by rfl) T.n_isinstance bt_isinstance (pa_cons (pv 0) (pa_cons (pe_glob (v := .ref T.G.TooLong) (by rfl) T.g_TooLong rfl) pa_nil))) (pa_cons (pe_callB (call_isP List.mem_cons_self hf) (by rfl) T.n_isinstance bt_isinstance (pa_cons (pv 0) (pa_cons (pe_glob (v := .ref T.G.NoBoard) (by rfl) T.g_NoBoard rfl) pa_nil))) (pa_cons (pe_callB (call_isP List.mem_cons_self hf) (by rfl) T.n_isinstance bt_isinstance (pa_cons (pv 0) (pa_cons (pe_bltn (v := .ty "ValueError") (by rfl) T.n_ValueError bt_ValueError rfl) pa_nil))) pa_nil)))))))))
theorem ok_law_k28 (T : Txt K mg) : FnOk P w K mg base CX0 7 T.f_law_k28 T.d_law_k28 ["script"] (spLaw K) := by
  refine T.F_law_k28.ok sc_law_k28 (fun vs H Q E h => lenLaw h) (fun cdv A outer s H vs Q E hr h => ⟨t_law_k28 K T.G E, ?_, pure_law_k28 T.e_NoPlace_BoardError T.e_NoSite_BoardError T.e_NoExit_BoardError T.e_NoMarble_BoardError T.e_TooMany_BoardError T.e_NotOpen_BoardError T.e_NotBare_BoardError T.e_NotTree_BoardError T.e_TooLong_BoardError T.e_NoBoard_BoardError h⟩)
  exact (pss_cons (ps_setLc (i := 1) (own := [("k", 7)]) (g := (gName 7)) (tt := tYes) rfl sc_law_k28.nd rfl rfl (sw_true rfl rfl rfl (by decide +kernel)) (pi_range1 (by rfl) T.n_range (pa_cons (pe_op op_add pe_int (pe_call (ok_drawn T) (hr.mono (by decide)) (by rfl) T.g_drawn T.F_drawn.kp T.b_drawn .nil pass0 (pa_cons (pv 0) (pa_cons pe_int (pa_cons pe_int pa_nil))))) pa_nil)) (blkOk_by (own := [("k", 7)]) (N := N_law_k28) (by kernel_rfl))
      (fun _ _ _ _ _ => (pg_name (i := 7) sc_law_k28.nd rfl (by first | exact Or.inl rfl | exact Or.inr rfl))) (fun _ _ _ _ _ => pts_nil) (fun _ _ _ _ _ => (pe_lc (own := [("j", 8)]) (g := (gName 8)) (tt := tYes) rfl sc_law_k28.nd (pi_range1 (by rfl) T.n_range (pa_cons (pe_op op_add pe_int (pe_call (ok_drawn T) (hr.mono (by decide)) (by rfl) T.g_drawn T.F_drawn.kp T.b_drawn .nil pass0 (pa_cons (pv 0) (pa_cons (pe_op op_add pe_int (pv 7)) (pa_cons pe_int pa_nil))))) pa_nil)) (blkOk_by (own := [("j", 8)]) (N := N_law_k28) (by kernel_rfl))
      (fun _ _ _ _ _ => (pg_name (i := 8) sc_law_k28.nd rfl (by first | exact Or.inl rfl | exact Or.inr rfl))) (fun _ _ _ _ _ => pts_nil) (fun _ _ _ _ _ => (pe_un un_neg pe_int)))))
    (pss_cons (ps_set (i := 2) sc_law_k28.nd rfl (by first | exact Or.inl rfl | exact Or.inr rfl) (pe_make T.mk_Board (ok_Board_init T) (hr.mono (by decide)) (by rfl) T.g_Board T.b_Board_init .nil passL (pa_cons (pe_lc (own := [("row", 9)]) (g := (gName 9)) (tt := tYes) rfl sc_law_k28.nd (pi_list (pv 1)) (blkOk_by (own := [("row", 9)]) (N := N_law_k28) (by kernel_rfl))
      (fun _ _ _ _ _ => (pg_name (i := 9) sc_law_k28.nd rfl (by first | exact Or.inl rfl | exact Or.inr rfl))) (fun _ _ _ _ _ => pts_nil) (fun _ _ _ _ _ => (pe_callTy call_list_of (by rfl) T.n_list bt_list (pa_cons (pv 9) pa_nil)))) pa_nil)))
    (pss_cons (ps_set (i := 3) sc_law_k28.nd rfl (by first | exact Or.inl rfl | exact Or.inr rfl) (pe_call (ok_drawn T) (hr.mono (by decide)) (by rfl) T.g_drawn T.F_drawn.kp T.b_drawn .nil pass0 (pa_cons (pv 0) (pa_cons pe_int (pa_cons (pe_callB call_len_seq (by rfl) T.n_len bt_len (pa_cons (pv 1) pa_nil)) pa_nil)))))
    (pss_cons (ps_set (i := 4) sc_law_k28.nd rfl (by first | exact Or.inl rfl | exact Or.inr rfl) (pe_call (ok_drawn T) (hr.mono (by decide)) (by rfl) T.g_drawn T.F_drawn.kp T.b_drawn .nil pass0 (pa_cons (pv 0) (pa_cons pe_int (pa_cons pe_int pa_nil)))))
    (pss_cons (ps_set (i := 5) sc_law_k28.nd rfl (by first | exact Or.inl rfl | exact Or.inr rfl) (pe_lst pa_nil))
    (pss_cons (ps_try_as (tb := (fun W => (tDrop (tCallS (sp_deed_k28 K T.G) (WE W) (tCons (tVar 2) (tCons (tVar 4) (tCons (tVar 3) (tCons (tCB (mLen K) (tCons (tOp (rIxL K) (tVar 1) (tVar 3)) tNil)) tNil)))))))) (i := 6) rfl rfl sc_law_k28.nd rfl rfl ⟨rfl, by decide, .inl T.g_BoardError⟩ takes0
    (fun W pn xe tk po => (pss_one (ps_expr (pe_callS (ok_deed_k28 T) (hr.mono (by decide)) (by rfl) T.g_deed_k28 T.F_deed_k28.kp T.b_deed_k28 (fun σ => passAt tk σ) (pa_cons (pv 2) (pa_cons (pv 4) (pa_cons (pv 3) (pa_cons (pe_callB call_len_seq (by rfl) T.n_len bt_len (pa_cons (pe_ix ix_list (pv 1) (pv 3) (fun _ _ => rfl)) pa_nil)) pa_nil))))))))
    (fun a oe cls d pn hz hf => (pss_one (ps_set (i := 5) sc_law_k28.nd rfl (by first | exact Or.inl rfl | exact Or.inr rfl) (pe_callP (ok_marks_k28 T) (roomMark (hr.mono (by decide))) hz hf (by rfl) T.g_marks_k28 T.F_marks_k28.kp T.b_marks_k28 (pa_cons (pv 6) pa_nil))))))
    (pss_one (ps_ret (pe_cmpR (op_eqD hr.units) (pv 5) (pe_lc (own := [("k", 7)]) (g := (gName 7)) (tt := tYes) rfl sc_law_k28.nd (pi_range1 (by rfl) T.n_range (pa_cons pe_int pa_nil)) (blkOk_by (own := [("k", 7)]) (N := N_law_k28) (by kernel_rfl))
      (fun _ _ _ _ _ => (pg_name (i := 7) sc_law_k28.nd rfl (by first | exact Or.inl rfl | exact Or.inr rfl))) (fun _ _ _ _ _ => pts_nil) (fun _ _ _ _ _ => (pe_or (pe_cmpR op_eq (pv 7) (pv 4) (nomark _)) (pe_one (pe_cmpR op_eq (pv 7) pe_int (nomark _)))))) (nomark _))))))))))
end
theorem all_mk {l : PySem.W.OpenLaw} {w : World} {K : PySem.W.Frag} {h : Heap} {mg : Str → Option Value} {fa f_drawn f_checked f_Board_init f_Board_has_site f_Board_turn_to f_step f_Board_load f_reached f_is_open f_Board_become f_Board_twin f_first_laden f_run f_last_exit f_is_tree f_before f_run_back f_number_of f_exit_of f_site_of_k28 f_read_k28 f_deed_k28 f_marks_k28 f_law_k28 c_Board c_NoSite c_NoExit c_NoPlace c_NoMarble c_TooMany c_NotOpen c_TooLong c_NotBare c_NotTree c_NoBoard c_BoardError : Addr} (X : K.In h) (G : h.Ns mainGlobals mg) (hfa : mg "law" = some (.ref fa))
    {od_drawn an_drawn : Option Addr} {sl_drawn : Array (Option Value)} {oc_drawn kV_drawn dc_drawn pm_drawn cd_drawn ct_drawn : Value}
    {od_checked an_checked : Option Addr} {sl_checked : Array (Option Value)} {oc_checked kV_checked dc_checked pm_checked cd_checked ct_checked : Value}
    {od_Board_init an_Board_init : Option Addr} {sl_Board_init : Array (Option Value)} {oc_Board_init kV_Board_init dc_Board_init pm_Board_init cd_Board_init ct_Board_init : Value}
    {od_Board_has_site an_Board_has_site : Option Addr} {sl_Board_has_site : Array (Option Value)} {oc_Board_has_site kV_Board_has_site dc_Board_has_site pm_Board_has_site cd_Board_has_site ct_Board_has_site : Value}
    {od_Board_turn_to an_Board_turn_to : Option Addr} {sl_Board_turn_to : Array (Option Value)} {oc_Board_turn_to kV_Board_turn_to dc_Board_turn_to pm_Board_turn_to cd_Board_turn_to ct_Board_turn_to : Value}
    {od_step an_step : Option Addr} {sl_step : Array (Option Value)} {oc_step kV_step dc_step pm_step cd_step ct_step : Value}
    {od_Board_load an_Board_load : Option Addr} {sl_Board_load : Array (Option Value)} {oc_Board_load kV_Board_load dc_Board_load pm_Board_load cd_Board_load ct_Board_load : Value}
    {od_reached an_reached : Option Addr} {sl_reached : Array (Option Value)} {oc_reached kV_reached dc_reached pm_reached cd_reached ct_reached : Value}
    {od_is_open an_is_open : Option Addr} {sl_is_open : Array (Option Value)} {oc_is_open kV_is_open dc_is_open pm_is_open cd_is_open ct_is_open : Value}
    {od_Board_become an_Board_become : Option Addr} {sl_Board_become : Array (Option Value)} {oc_Board_become kV_Board_become dc_Board_become pm_Board_become cd_Board_become ct_Board_become : Value}
    {od_Board_twin an_Board_twin : Option Addr} {sl_Board_twin : Array (Option Value)} {oc_Board_twin kV_Board_twin dc_Board_twin pm_Board_twin cd_Board_twin ct_Board_twin : Value}
    {od_first_laden an_first_laden : Option Addr} {sl_first_laden : Array (Option Value)} {oc_first_laden kV_first_laden dc_first_laden pm_first_laden cd_first_laden ct_first_laden : Value}
    {od_run an_run : Option Addr} {sl_run : Array (Option Value)} {oc_run kV_run dc_run pm_run cd_run ct_run : Value}
    {od_last_exit an_last_exit : Option Addr} {sl_last_exit : Array (Option Value)} {oc_last_exit kV_last_exit dc_last_exit pm_last_exit cd_last_exit ct_last_exit : Value}
    {od_is_tree an_is_tree : Option Addr} {sl_is_tree : Array (Option Value)} {oc_is_tree kV_is_tree dc_is_tree pm_is_tree cd_is_tree ct_is_tree : Value}
    {od_before an_before : Option Addr} {sl_before : Array (Option Value)} {oc_before kV_before dc_before pm_before cd_before ct_before : Value}
    {od_run_back an_run_back : Option Addr} {sl_run_back : Array (Option Value)} {oc_run_back kV_run_back dc_run_back pm_run_back cd_run_back ct_run_back : Value}
    {od_number_of an_number_of : Option Addr} {sl_number_of : Array (Option Value)} {oc_number_of kV_number_of dc_number_of pm_number_of cd_number_of ct_number_of : Value}
    {od_exit_of an_exit_of : Option Addr} {sl_exit_of : Array (Option Value)} {oc_exit_of kV_exit_of dc_exit_of pm_exit_of cd_exit_of ct_exit_of : Value}
    {od_site_of_k28 an_site_of_k28 : Option Addr} {sl_site_of_k28 : Array (Option Value)} {oc_site_of_k28 kV_site_of_k28 dc_site_of_k28 pm_site_of_k28 cd_site_of_k28 ct_site_of_k28 : Value}
    {od_read_k28 an_read_k28 : Option Addr} {sl_read_k28 : Array (Option Value)} {oc_read_k28 kV_read_k28 dc_read_k28 pm_read_k28 cd_read_k28 ct_read_k28 : Value}
    {od_deed_k28 an_deed_k28 : Option Addr} {sl_deed_k28 : Array (Option Value)} {oc_deed_k28 kV_deed_k28 dc_deed_k28 pm_deed_k28 cd_deed_k28 ct_deed_k28 : Value}
    {od_marks_k28 an_marks_k28 : Option Addr} {sl_marks_k28 : Array (Option Value)} {oc_marks_k28 kV_marks_k28 dc_marks_k28 pm_marks_k28 cd_marks_k28 ct_marks_k28 : Value}
    {od_law_k28 an_law_k28 : Option Addr} {sl_law_k28 : Array (Option Value)} {oc_law_k28 kV_law_k28 dc_law_k28 pm_law_k28 cd_law_k28 ct_law_k28 : Value}
    {tk_MOST_SITES : Tok}
    {tk_MOST_EXITS : Tok}
    {tk_PIT : Tok}
    {tk_MOST_MARBLES : Tok}
    {tk_MOST_FIGURES : Tok}
    {tk_FIGURES : Tok}
    (a_cBoard : PySem.W.nsIn K mainGlobals "Board" = some (some (.ref c_Board)))
    (a_drawn : PySem.W.nsIn K mainGlobals "_law_drawn" = some (some (.ref f_drawn)))
    (l_drawn : K.lookup f_drawn = some ⟨oc_drawn, od_drawn, .func (PySem.W.fnOf "_law_drawn" "_law_drawn" (defArgs s_drawn) (defBody s_drawn) (defScope s_drawn) .none kV_drawn dc_drawn pm_drawn an_drawn cd_drawn ct_drawn), sl_drawn⟩)
    (c_drawn : PySem.W.codeIn K cd_drawn "_law_drawn" = true)
    (k_drawn : PySem.W.keepIn K (.ref f_drawn) = true)
    (a_checked : PySem.W.nsIn K mainGlobals "checked" = some (some (.ref f_checked)))
    (l_checked : K.lookup f_checked = some ⟨oc_checked, od_checked, .func (PySem.W.fnOf "checked" "checked" (defArgs s_checked) (defBody s_checked) (defScope s_checked) .none kV_checked dc_checked pm_checked an_checked cd_checked ct_checked), sl_checked⟩)
    (c_checked : PySem.W.codeIn K cd_checked "checked" = true)
    (k_checked : PySem.W.keepIn K (.ref f_checked) = true)
    (a_Board_init : PySem.W.findIn K (.ref c_Board) "__init__" = some (some (.ref f_Board_init)))
    (i_Board_init : PySem.W.isFn K (.ref f_Board_init) = true)
    (l_Board_init : K.lookup f_Board_init = some ⟨oc_Board_init, od_Board_init, .func (PySem.W.fnOf "__init__" "Board.__init__" (defArgs s_Board_init) (defBody s_Board_init) (defScope s_Board_init) .none kV_Board_init dc_Board_init pm_Board_init an_Board_init cd_Board_init ct_Board_init), sl_Board_init⟩)
    (c_Board_init : PySem.W.codeIn K cd_Board_init "Board.__init__" = true)
    (k_Board_init : PySem.W.keepIn K (.ref f_Board_init) = true)
    (a_Board_has_site : PySem.W.findIn K (.ref c_Board) "has_site" = some (some (.ref f_Board_has_site)))
    (i_Board_has_site : PySem.W.isFn K (.ref f_Board_has_site) = true)
    (l_Board_has_site : K.lookup f_Board_has_site = some ⟨oc_Board_has_site, od_Board_has_site, .func (PySem.W.fnOf "has_site" "Board.has_site" (defArgs s_Board_has_site) (defBody s_Board_has_site) (defScope s_Board_has_site) .none kV_Board_has_site dc_Board_has_site pm_Board_has_site an_Board_has_site cd_Board_has_site ct_Board_has_site), sl_Board_has_site⟩)
    (c_Board_has_site : PySem.W.codeIn K cd_Board_has_site "Board.has_site" = true)
    (k_Board_has_site : PySem.W.keepIn K (.ref f_Board_has_site) = true)
    (a_Board_turn_to : PySem.W.findIn K (.ref c_Board) "turn_to" = some (some (.ref f_Board_turn_to)))
    (i_Board_turn_to : PySem.W.isFn K (.ref f_Board_turn_to) = true)
    (l_Board_turn_to : K.lookup f_Board_turn_to = some ⟨oc_Board_turn_to, od_Board_turn_to, .func (PySem.W.fnOf "turn_to" "Board.turn_to" (defArgs s_Board_turn_to) (defBody s_Board_turn_to) (defScope s_Board_turn_to) .none kV_Board_turn_to dc_Board_turn_to pm_Board_turn_to an_Board_turn_to cd_Board_turn_to ct_Board_turn_to), sl_Board_turn_to⟩)
    (c_Board_turn_to : PySem.W.codeIn K cd_Board_turn_to "Board.turn_to" = true)
    (k_Board_turn_to : PySem.W.keepIn K (.ref f_Board_turn_to) = true)
    (a_step : PySem.W.nsIn K mainGlobals "step" = some (some (.ref f_step)))
    (l_step : K.lookup f_step = some ⟨oc_step, od_step, .func (PySem.W.fnOf "step" "step" (defArgs s_step) (defBody s_step) (defScope s_step) .none kV_step dc_step pm_step an_step cd_step ct_step), sl_step⟩)
    (c_step : PySem.W.codeIn K cd_step "step" = true)
    (k_step : PySem.W.keepIn K (.ref f_step) = true)
    (a_Board_load : PySem.W.findIn K (.ref c_Board) "load" = some (some (.ref f_Board_load)))
    (i_Board_load : PySem.W.isFn K (.ref f_Board_load) = true)
    (l_Board_load : K.lookup f_Board_load = some ⟨oc_Board_load, od_Board_load, .func (PySem.W.fnOf "load" "Board.load" (defArgs s_Board_load) (defBody s_Board_load) (defScope s_Board_load) .none kV_Board_load dc_Board_load pm_Board_load an_Board_load cd_Board_load ct_Board_load), sl_Board_load⟩)
    (c_Board_load : PySem.W.codeIn K cd_Board_load "Board.load" = true)
    (k_Board_load : PySem.W.keepIn K (.ref f_Board_load) = true)
    (a_reached : PySem.W.nsIn K mainGlobals "reached" = some (some (.ref f_reached)))
    (l_reached : K.lookup f_reached = some ⟨oc_reached, od_reached, .func (PySem.W.fnOf "reached" "reached" (defArgs s_reached) (defBody s_reached) (defScope s_reached) .none kV_reached dc_reached pm_reached an_reached cd_reached ct_reached), sl_reached⟩)
    (c_reached : PySem.W.codeIn K cd_reached "reached" = true)
    (k_reached : PySem.W.keepIn K (.ref f_reached) = true)
    (a_is_open : PySem.W.nsIn K mainGlobals "is_open" = some (some (.ref f_is_open)))
    (l_is_open : K.lookup f_is_open = some ⟨oc_is_open, od_is_open, .func (PySem.W.fnOf "is_open" "is_open" (defArgs s_is_open) (defBody s_is_open) (defScope s_is_open) .none kV_is_open dc_is_open pm_is_open an_is_open cd_is_open ct_is_open), sl_is_open⟩)
    (c_is_open : PySem.W.codeIn K cd_is_open "is_open" = true)
    (k_is_open : PySem.W.keepIn K (.ref f_is_open) = true)
    (a_Board_become : PySem.W.findIn K (.ref c_Board) "become" = some (some (.ref f_Board_become)))
    (i_Board_become : PySem.W.isFn K (.ref f_Board_become) = true)
    (l_Board_become : K.lookup f_Board_become = some ⟨oc_Board_become, od_Board_become, .func (PySem.W.fnOf "become" "Board.become" (defArgs s_Board_become) (defBody s_Board_become) (defScope s_Board_become) .none kV_Board_become dc_Board_become pm_Board_become an_Board_become cd_Board_become ct_Board_become), sl_Board_become⟩)
    (c_Board_become : PySem.W.codeIn K cd_Board_become "Board.become" = true)
    (k_Board_become : PySem.W.keepIn K (.ref f_Board_become) = true)
    (a_Board_twin : PySem.W.findIn K (.ref c_Board) "twin" = some (some (.ref f_Board_twin)))
    (i_Board_twin : PySem.W.isFn K (.ref f_Board_twin) = true)
    (l_Board_twin : K.lookup f_Board_twin = some ⟨oc_Board_twin, od_Board_twin, .func (PySem.W.fnOf "twin" "Board.twin" (defArgs s_Board_twin) (defBody s_Board_twin) (defScope s_Board_twin) .none kV_Board_twin dc_Board_twin pm_Board_twin an_Board_twin cd_Board_twin ct_Board_twin), sl_Board_twin⟩)
    (c_Board_twin : PySem.W.codeIn K cd_Board_twin "Board.twin" = true)
    (k_Board_twin : PySem.W.keepIn K (.ref f_Board_twin) = true)
    (a_first_laden : PySem.W.nsIn K mainGlobals "first_laden" = some (some (.ref f_first_laden)))
    (l_first_laden : K.lookup f_first_laden = some ⟨oc_first_laden, od_first_laden, .func (PySem.W.fnOf "first_laden" "first_laden" (defArgs s_first_laden) (defBody s_first_laden) (defScope s_first_laden) .none kV_first_laden dc_first_laden pm_first_laden an_first_laden cd_first_laden ct_first_laden), sl_first_laden⟩)
    (c_first_laden : PySem.W.codeIn K cd_first_laden "first_laden" = true)
    (k_first_laden : PySem.W.keepIn K (.ref f_first_laden) = true)
    (a_run : PySem.W.nsIn K mainGlobals "run" = some (some (.ref f_run)))
    (l_run : K.lookup f_run = some ⟨oc_run, od_run, .func (PySem.W.fnOf "run" "run" (defArgs s_run) (defBody s_run) (defScope s_run) .none kV_run dc_run pm_run an_run cd_run ct_run), sl_run⟩)
    (c_run : PySem.W.codeIn K cd_run "run" = true)
    (k_run : PySem.W.keepIn K (.ref f_run) = true)
    (a_last_exit : PySem.W.nsIn K mainGlobals "last_exit" = some (some (.ref f_last_exit)))
    (l_last_exit : K.lookup f_last_exit = some ⟨oc_last_exit, od_last_exit, .func (PySem.W.fnOf "last_exit" "last_exit" (defArgs s_last_exit) (defBody s_last_exit) (defScope s_last_exit) .none kV_last_exit dc_last_exit pm_last_exit an_last_exit cd_last_exit ct_last_exit), sl_last_exit⟩)
    (c_last_exit : PySem.W.codeIn K cd_last_exit "last_exit" = true)
    (k_last_exit : PySem.W.keepIn K (.ref f_last_exit) = true)
    (a_is_tree : PySem.W.nsIn K mainGlobals "is_tree" = some (some (.ref f_is_tree)))
    (l_is_tree : K.lookup f_is_tree = some ⟨oc_is_tree, od_is_tree, .func (PySem.W.fnOf "is_tree" "is_tree" (defArgs s_is_tree) (defBody s_is_tree) (defScope s_is_tree) .none kV_is_tree dc_is_tree pm_is_tree an_is_tree cd_is_tree ct_is_tree), sl_is_tree⟩)
    (c_is_tree : PySem.W.codeIn K cd_is_tree "is_tree" = true)
    (k_is_tree : PySem.W.keepIn K (.ref f_is_tree) = true)
    (a_before : PySem.W.nsIn K mainGlobals "before" = some (some (.ref f_before)))
    (l_before : K.lookup f_before = some ⟨oc_before, od_before, .func (PySem.W.fnOf "before" "before" (defArgs s_before) (defBody s_before) (defScope s_before) .none kV_before dc_before pm_before an_before cd_before ct_before), sl_before⟩)
    (c_before : PySem.W.codeIn K cd_before "before" = true)
    (k_before : PySem.W.keepIn K (.ref f_before) = true)
    (a_run_back : PySem.W.nsIn K mainGlobals "run_back" = some (some (.ref f_run_back)))
    (l_run_back : K.lookup f_run_back = some ⟨oc_run_back, od_run_back, .func (PySem.W.fnOf "run_back" "run_back" (defArgs s_run_back) (defBody s_run_back) (defScope s_run_back) .none kV_run_back dc_run_back pm_run_back an_run_back cd_run_back ct_run_back), sl_run_back⟩)
    (c_run_back : PySem.W.codeIn K cd_run_back "run_back" = true)
    (k_run_back : PySem.W.keepIn K (.ref f_run_back) = true)
    (a_number_of : PySem.W.nsIn K mainGlobals "number_of" = some (some (.ref f_number_of)))
    (l_number_of : K.lookup f_number_of = some ⟨oc_number_of, od_number_of, .func (PySem.W.fnOf "number_of" "number_of" (defArgs s_number_of) (defBody s_number_of) (defScope s_number_of) .none kV_number_of dc_number_of pm_number_of an_number_of cd_number_of ct_number_of), sl_number_of⟩)
    (c_number_of : PySem.W.codeIn K cd_number_of "number_of" = true)
    (k_number_of : PySem.W.keepIn K (.ref f_number_of) = true)
    (a_exit_of : PySem.W.nsIn K mainGlobals "exit_of" = some (some (.ref f_exit_of)))
    (l_exit_of : K.lookup f_exit_of = some ⟨oc_exit_of, od_exit_of, .func (PySem.W.fnOf "exit_of" "exit_of" (defArgs s_exit_of) (defBody s_exit_of) (defScope s_exit_of) .none kV_exit_of dc_exit_of pm_exit_of an_exit_of cd_exit_of ct_exit_of), sl_exit_of⟩)
    (c_exit_of : PySem.W.codeIn K cd_exit_of "exit_of" = true)
    (k_exit_of : PySem.W.keepIn K (.ref f_exit_of) = true)
    (a_site_of_k28 : PySem.W.nsIn K mainGlobals "site_of" = some (some (.ref f_site_of_k28)))
    (l_site_of_k28 : K.lookup f_site_of_k28 = some ⟨oc_site_of_k28, od_site_of_k28, .func (PySem.W.fnOf "site_of" "site_of" (defArgs s_site_of_k28) (defBody s_site_of_k28) (defScope s_site_of_k28) .none kV_site_of_k28 dc_site_of_k28 pm_site_of_k28 an_site_of_k28 cd_site_of_k28 ct_site_of_k28), sl_site_of_k28⟩)
    (c_site_of_k28 : PySem.W.codeIn K cd_site_of_k28 "site_of" = true)
    (k_site_of_k28 : PySem.W.keepIn K (.ref f_site_of_k28) = true)
    (a_read_k28 : PySem.W.nsIn K mainGlobals "read" = some (some (.ref f_read_k28)))
    (l_read_k28 : K.lookup f_read_k28 = some ⟨oc_read_k28, od_read_k28, .func (PySem.W.fnOf "read" "read" (defArgs s_read_k28) (defBody s_read_k28) (defScope s_read_k28) .none kV_read_k28 dc_read_k28 pm_read_k28 an_read_k28 cd_read_k28 ct_read_k28), sl_read_k28⟩)
    (c_read_k28 : PySem.W.codeIn K cd_read_k28 "read" = true)
    (k_read_k28 : PySem.W.keepIn K (.ref f_read_k28) = true)
    (a_deed_k28 : PySem.W.nsIn K mainGlobals "_law_deed" = some (some (.ref f_deed_k28)))
    (l_deed_k28 : K.lookup f_deed_k28 = some ⟨oc_deed_k28, od_deed_k28, .func (PySem.W.fnOf "_law_deed" "_law_deed" (defArgs s_deed_k28) (defBody s_deed_k28) (defScope s_deed_k28) .none kV_deed_k28 dc_deed_k28 pm_deed_k28 an_deed_k28 cd_deed_k28 ct_deed_k28), sl_deed_k28⟩)
    (c_deed_k28 : PySem.W.codeIn K cd_deed_k28 "_law_deed" = true)
    (k_deed_k28 : PySem.W.keepIn K (.ref f_deed_k28) = true)
    (a_marks_k28 : PySem.W.nsIn K mainGlobals "_law_marks" = some (some (.ref f_marks_k28)))
    (l_marks_k28 : K.lookup f_marks_k28 = some ⟨oc_marks_k28, od_marks_k28, .func (PySem.W.fnOf "_law_marks" "_law_marks" (defArgs s_marks_k28) (defBody s_marks_k28) (defScope s_marks_k28) .none kV_marks_k28 dc_marks_k28 pm_marks_k28 an_marks_k28 cd_marks_k28 ct_marks_k28), sl_marks_k28⟩)
    (c_marks_k28 : PySem.W.codeIn K cd_marks_k28 "_law_marks" = true)
    (k_marks_k28 : PySem.W.keepIn K (.ref f_marks_k28) = true)
    (a_law_k28 : PySem.W.nsIn K mainGlobals "law" = some (some (.ref f_law_k28)))
    (l_law_k28 : K.lookup f_law_k28 = some ⟨oc_law_k28, od_law_k28, .func (PySem.W.fnOf "law" "law" (defArgs s_law_k28) (defBody s_law_k28) (defScope s_law_k28) .none kV_law_k28 dc_law_k28 pm_law_k28 an_law_k28 cd_law_k28 ct_law_k28), sl_law_k28⟩)
    (c_law_k28 : PySem.W.codeIn K cd_law_k28 "law" = true)
    (k_law_k28 : PySem.W.keepIn K (.ref f_law_k28) = true)
    (pg_Board : PySem.W.plainGet K c_Board Str.empty = true)
    (hd_Board : PySem.W.hasDictIn K c_Board = true)
    (po_Board : PySem.W.plainOver K c_Board = true)
    (sa_Board : PySem.W.findIn K (.ref c_Board) "__setattr__" = some (some (.builtin "object.__setattr__")))
    (mk_Board : PySem.W.makesIn K c_Board = true)
    (kc_Board : PySem.W.keepIn K (.ref c_Board) = true)
    (na_rows : PySem.W.findIn K (.ref c_Board) "rows" = some none)
    (na_turns : PySem.W.findIn K (.ref c_Board) "turns" = some none)
    (na_loads : PySem.W.findIn K (.ref c_Board) "loads" = some none)
    (na_steps : PySem.W.findIn K (.ref c_Board) "steps" = some none)
    (na_taken : PySem.W.findIn K (.ref c_Board) "taken" = some none)
    (gi_MOST_SITES : PySem.W.nsIn K mainGlobals "MOST_SITES" = some (some (.int 12 tk_MOST_SITES)))
    (gi_MOST_EXITS : PySem.W.nsIn K mainGlobals "MOST_EXITS" = some (some (.int 8 tk_MOST_EXITS)))
    (gi_PIT : PySem.W.nsIn K mainGlobals "PIT" = some (some (.int (-1) tk_PIT)))
    (gi_MOST_MARBLES : PySem.W.nsIn K mainGlobals "MOST_MARBLES" = some (some (.int 400 tk_MOST_MARBLES)))
    (gi_MOST_FIGURES : PySem.W.nsIn K mainGlobals "MOST_FIGURES" = some (some (.int 20 tk_MOST_FIGURES)))
    (gi_FIGURES : PySem.W.nsIn K mainGlobals "FIGURES" = some (some (.str "0123456789" tk_FIGURES)))
    (n_len : PySem.W.nsIn K mainGlobals "len" = some none)
    (n_list : PySem.W.nsIn K mainGlobals "list" = some none)
    (n_sum : PySem.W.nsIn K mainGlobals "sum" = some none)
    (n_range : PySem.W.nsIn K mainGlobals "range" = some none)
    (n_all : PySem.W.nsIn K mainGlobals "all" = some none)
    (n_int : PySem.W.nsIn K mainGlobals "int" = some none)
    (n_str : PySem.W.nsIn K mainGlobals "str" = some none)
    (n_isinstance : PySem.W.nsIn K mainGlobals "isinstance" = some none)
    (n_ValueError : PySem.W.nsIn K mainGlobals "ValueError" = some none)
    (a_cNoSite : PySem.W.nsIn K mainGlobals "NoSite" = some (some (.ref c_NoSite)))
    (x_NoSite : PySem.W.excIn K c_NoSite [.type "ValueError", .type "Exception", .type "BaseException", .type "object"] "ValueError.__new__" = true)
    (k_NoSite : PySem.W.keepIn K (.ref c_NoSite) = true)
    (b_NoSite : PySem.W.subIn K (.ref c_NoSite) (.type "BaseException") = some true)
    (t_NoSite : PySem.W.typeIn K (.ref c_NoSite) = some (.type "type"))
    (a_cNoExit : PySem.W.nsIn K mainGlobals "NoExit" = some (some (.ref c_NoExit)))
    (x_NoExit : PySem.W.excIn K c_NoExit [.type "ValueError", .type "Exception", .type "BaseException", .type "object"] "ValueError.__new__" = true)
    (k_NoExit : PySem.W.keepIn K (.ref c_NoExit) = true)
    (b_NoExit : PySem.W.subIn K (.ref c_NoExit) (.type "BaseException") = some true)
    (t_NoExit : PySem.W.typeIn K (.ref c_NoExit) = some (.type "type"))
    (a_cNoPlace : PySem.W.nsIn K mainGlobals "NoPlace" = some (some (.ref c_NoPlace)))
    (x_NoPlace : PySem.W.excIn K c_NoPlace [.type "ValueError", .type "Exception", .type "BaseException", .type "object"] "ValueError.__new__" = true)
    (k_NoPlace : PySem.W.keepIn K (.ref c_NoPlace) = true)
    (b_NoPlace : PySem.W.subIn K (.ref c_NoPlace) (.type "BaseException") = some true)
    (t_NoPlace : PySem.W.typeIn K (.ref c_NoPlace) = some (.type "type"))
    (a_cNoMarble : PySem.W.nsIn K mainGlobals "NoMarble" = some (some (.ref c_NoMarble)))
    (x_NoMarble : PySem.W.excIn K c_NoMarble [.type "ValueError", .type "Exception", .type "BaseException", .type "object"] "ValueError.__new__" = true)
    (k_NoMarble : PySem.W.keepIn K (.ref c_NoMarble) = true)
    (b_NoMarble : PySem.W.subIn K (.ref c_NoMarble) (.type "BaseException") = some true)
    (t_NoMarble : PySem.W.typeIn K (.ref c_NoMarble) = some (.type "type"))
    (a_cTooMany : PySem.W.nsIn K mainGlobals "TooMany" = some (some (.ref c_TooMany)))
    (x_TooMany : PySem.W.excIn K c_TooMany [.type "ValueError", .type "Exception", .type "BaseException", .type "object"] "ValueError.__new__" = true)
    (k_TooMany : PySem.W.keepIn K (.ref c_TooMany) = true)
    (b_TooMany : PySem.W.subIn K (.ref c_TooMany) (.type "BaseException") = some true)
    (t_TooMany : PySem.W.typeIn K (.ref c_TooMany) = some (.type "type"))
    (a_cNotOpen : PySem.W.nsIn K mainGlobals "NotOpen" = some (some (.ref c_NotOpen)))
    (x_NotOpen : PySem.W.excIn K c_NotOpen [.type "ValueError", .type "Exception", .type "BaseException", .type "object"] "ValueError.__new__" = true)
    (k_NotOpen : PySem.W.keepIn K (.ref c_NotOpen) = true)
    (b_NotOpen : PySem.W.subIn K (.ref c_NotOpen) (.type "BaseException") = some true)
    (t_NotOpen : PySem.W.typeIn K (.ref c_NotOpen) = some (.type "type"))
    (a_cTooLong : PySem.W.nsIn K mainGlobals "TooLong" = some (some (.ref c_TooLong)))
    (x_TooLong : PySem.W.excIn K c_TooLong [.type "ValueError", .type "Exception", .type "BaseException", .type "object"] "ValueError.__new__" = true)
    (k_TooLong : PySem.W.keepIn K (.ref c_TooLong) = true)
    (b_TooLong : PySem.W.subIn K (.ref c_TooLong) (.type "BaseException") = some true)
    (t_TooLong : PySem.W.typeIn K (.ref c_TooLong) = some (.type "type"))
    (a_cNotBare : PySem.W.nsIn K mainGlobals "NotBare" = some (some (.ref c_NotBare)))
    (x_NotBare : PySem.W.excIn K c_NotBare [.type "ValueError", .type "Exception", .type "BaseException", .type "object"] "ValueError.__new__" = true)
    (k_NotBare : PySem.W.keepIn K (.ref c_NotBare) = true)
    (b_NotBare : PySem.W.subIn K (.ref c_NotBare) (.type "BaseException") = some true)
    (t_NotBare : PySem.W.typeIn K (.ref c_NotBare) = some (.type "type"))
    (a_cNotTree : PySem.W.nsIn K mainGlobals "NotTree" = some (some (.ref c_NotTree)))
    (x_NotTree : PySem.W.excIn K c_NotTree [.type "ValueError", .type "Exception", .type "BaseException", .type "object"] "ValueError.__new__" = true)
    (k_NotTree : PySem.W.keepIn K (.ref c_NotTree) = true)
    (b_NotTree : PySem.W.subIn K (.ref c_NotTree) (.type "BaseException") = some true)
    (t_NotTree : PySem.W.typeIn K (.ref c_NotTree) = some (.type "type"))
    (a_cNoBoard : PySem.W.nsIn K mainGlobals "NoBoard" = some (some (.ref c_NoBoard)))
    (x_NoBoard : PySem.W.excIn K c_NoBoard [.type "ValueError", .type "Exception", .type "BaseException", .type "object"] "ValueError.__new__" = true)
    (k_NoBoard : PySem.W.keepIn K (.ref c_NoBoard) = true)
    (b_NoBoard : PySem.W.subIn K (.ref c_NoBoard) (.type "BaseException") = some true)
    (t_NoBoard : PySem.W.typeIn K (.ref c_NoBoard) = some (.type "type"))
    (a_cBoardError : PySem.W.nsIn K mainGlobals "BoardError" = some (some (.ref c_BoardError)))
    (x_BoardError : PySem.W.excIn K c_BoardError [.type "ValueError", .type "Exception", .type "BaseException", .type "object"] "ValueError.__new__" = true)
    (k_BoardError : PySem.W.keepIn K (.ref c_BoardError) = true)
    (b_BoardError : PySem.W.subIn K (.ref c_BoardError) (.type "BaseException") = some true)
    (t_BoardError : PySem.W.typeIn K (.ref c_BoardError) = some (.type "type"))
    (hd_BoardError : PySem.W.hasDictIn K c_BoardError = true)
    (e_NoSite_BoardError : PySem.W.subIn K (.ref c_NoSite) (.ref c_BoardError) = some true)
    (kt_NoPlace_ValueError : PySem.W.kitOne K (.ref c_NoPlace) (.type "ValueError") = some true)
    (kt_NoSite_ValueError : PySem.W.kitOne K (.ref c_NoSite) (.type "ValueError") = some true)
    (kt_NoExit_ValueError : PySem.W.kitOne K (.ref c_NoExit) (.type "ValueError") = some true)
    (kt_NoMarble_ValueError : PySem.W.kitOne K (.ref c_NoMarble) (.type "ValueError") = some true)
    (kt_TooMany_ValueError : PySem.W.kitOne K (.ref c_TooMany) (.type "ValueError") = some true)
    (kt_NotOpen_ValueError : PySem.W.kitOne K (.ref c_NotOpen) (.type "ValueError") = some true)
    (kt_NotBare_ValueError : PySem.W.kitOne K (.ref c_NotBare) (.type "ValueError") = some true)
    (kt_NotTree_ValueError : PySem.W.kitOne K (.ref c_NotTree) (.type "ValueError") = some true)
    (kt_TooLong_ValueError : PySem.W.kitOne K (.ref c_TooLong) (.type "ValueError") = some true)
    (kt_NoBoard_ValueError : PySem.W.kitOne K (.ref c_NoBoard) (.type "ValueError") = some true)
    (ki_NoPlace_NoPlace : PySem.W.kitOne K (.ref c_NoPlace) (.ref c_NoPlace) = some true)
    (ki_NoPlace_NoSite : PySem.W.kitOne K (.ref c_NoPlace) (.ref c_NoSite) = some false)
    (ki_NoPlace_NoExit : PySem.W.kitOne K (.ref c_NoPlace) (.ref c_NoExit) = some false)
    (ki_NoPlace_NoMarble : PySem.W.kitOne K (.ref c_NoPlace) (.ref c_NoMarble) = some false)
    (ki_NoPlace_TooMany : PySem.W.kitOne K (.ref c_NoPlace) (.ref c_TooMany) = some false)
    (ki_NoPlace_NotOpen : PySem.W.kitOne K (.ref c_NoPlace) (.ref c_NotOpen) = some false)
    (ki_NoPlace_NotBare : PySem.W.kitOne K (.ref c_NoPlace) (.ref c_NotBare) = some false)
    (ki_NoPlace_NotTree : PySem.W.kitOne K (.ref c_NoPlace) (.ref c_NotTree) = some false)
    (ki_NoPlace_TooLong : PySem.W.kitOne K (.ref c_NoPlace) (.ref c_TooLong) = some false)
    (ki_NoPlace_NoBoard : PySem.W.kitOne K (.ref c_NoPlace) (.ref c_NoBoard) = some false)
    (ki_NoSite_NoPlace : PySem.W.kitOne K (.ref c_NoSite) (.ref c_NoPlace) = some false)
    (ki_NoSite_NoSite : PySem.W.kitOne K (.ref c_NoSite) (.ref c_NoSite) = some true)
    (ki_NoSite_NoExit : PySem.W.kitOne K (.ref c_NoSite) (.ref c_NoExit) = some false)
    (ki_NoSite_NoMarble : PySem.W.kitOne K (.ref c_NoSite) (.ref c_NoMarble) = some false)
    (ki_NoSite_TooMany : PySem.W.kitOne K (.ref c_NoSite) (.ref c_TooMany) = some false)
    (ki_NoSite_NotOpen : PySem.W.kitOne K (.ref c_NoSite) (.ref c_NotOpen) = some false)
    (ki_NoSite_NotBare : PySem.W.kitOne K (.ref c_NoSite) (.ref c_NotBare) = some false)
    (ki_NoSite_NotTree : PySem.W.kitOne K (.ref c_NoSite) (.ref c_NotTree) = some false)
    (ki_NoSite_TooLong : PySem.W.kitOne K (.ref c_NoSite) (.ref c_TooLong) = some false)
    (ki_NoSite_NoBoard : PySem.W.kitOne K (.ref c_NoSite) (.ref c_NoBoard) = some false)
    (ki_NoExit_NoPlace : PySem.W.kitOne K (.ref c_NoExit) (.ref c_NoPlace) = some false)
    (ki_NoExit_NoSite : PySem.W.kitOne K (.ref c_NoExit) (.ref c_NoSite) = some false)
    (ki_NoExit_NoExit : PySem.W.kitOne K (.ref c_NoExit) (.ref c_NoExit) = some true)
    (ki_NoExit_NoMarble : PySem.W.kitOne K (.ref c_NoExit) (.ref c_NoMarble) = some false)
    (ki_NoExit_TooMany : PySem.W.kitOne K (.ref c_NoExit) (.ref c_TooMany) = some false)
    (ki_NoExit_NotOpen : PySem.W.kitOne K (.ref c_NoExit) (.ref c_NotOpen) = some false)
    (ki_NoExit_NotBare : PySem.W.kitOne K (.ref c_NoExit) (.ref c_NotBare) = some false)
    (ki_NoExit_NotTree : PySem.W.kitOne K (.ref c_NoExit) (.ref c_NotTree) = some false)
    (ki_NoExit_TooLong : PySem.W.kitOne K (.ref c_NoExit) (.ref c_TooLong) = some false)
    (ki_NoExit_NoBoard : PySem.W.kitOne K (.ref c_NoExit) (.ref c_NoBoard) = some false)
    (ki_NoMarble_NoPlace : PySem.W.kitOne K (.ref c_NoMarble) (.ref c_NoPlace) = some false)
    (ki_NoMarble_NoSite : PySem.W.kitOne K (.ref c_NoMarble) (.ref c_NoSite) = some false)
    (ki_NoMarble_NoExit : PySem.W.kitOne K (.ref c_NoMarble) (.ref c_NoExit) = some false)
    (ki_NoMarble_NoMarble : PySem.W.kitOne K (.ref c_NoMarble) (.ref c_NoMarble) = some true)
    (ki_NoMarble_TooMany : PySem.W.kitOne K (.ref c_NoMarble) (.ref c_TooMany) = some false)
    (ki_NoMarble_NotOpen : PySem.W.kitOne K (.ref c_NoMarble) (.ref c_NotOpen) = some false)
    (ki_NoMarble_NotBare : PySem.W.kitOne K (.ref c_NoMarble) (.ref c_NotBare) = some false)
    (ki_NoMarble_NotTree : PySem.W.kitOne K (.ref c_NoMarble) (.ref c_NotTree) = some false)
    (ki_NoMarble_TooLong : PySem.W.kitOne K (.ref c_NoMarble) (.ref c_TooLong) = some false)
    (ki_NoMarble_NoBoard : PySem.W.kitOne K (.ref c_NoMarble) (.ref c_NoBoard) = some false)
    (ki_TooMany_NoPlace : PySem.W.kitOne K (.ref c_TooMany) (.ref c_NoPlace) = some false)
    (ki_TooMany_NoSite : PySem.W.kitOne K (.ref c_TooMany) (.ref c_NoSite) = some false)
    (ki_TooMany_NoExit : PySem.W.kitOne K (.ref c_TooMany) (.ref c_NoExit) = some false)
    (ki_TooMany_NoMarble : PySem.W.kitOne K (.ref c_TooMany) (.ref c_NoMarble) = some false)
    (ki_TooMany_TooMany : PySem.W.kitOne K (.ref c_TooMany) (.ref c_TooMany) = some true)
    (ki_TooMany_NotOpen : PySem.W.kitOne K (.ref c_TooMany) (.ref c_NotOpen) = some false)
    (ki_TooMany_NotBare : PySem.W.kitOne K (.ref c_TooMany) (.ref c_NotBare) = some false)
    (ki_TooMany_NotTree : PySem.W.kitOne K (.ref c_TooMany) (.ref c_NotTree) = some false)
    (ki_TooMany_TooLong : PySem.W.kitOne K (.ref c_TooMany) (.ref c_TooLong) = some false)
    (ki_TooMany_NoBoard : PySem.W.kitOne K (.ref c_TooMany) (.ref c_NoBoard) = some false)
    (ki_NotOpen_NoPlace : PySem.W.kitOne K (.ref c_NotOpen) (.ref c_NoPlace) = some false)
    (ki_NotOpen_NoSite : PySem.W.kitOne K (.ref c_NotOpen) (.ref c_NoSite) = some false)
    (ki_NotOpen_NoExit : PySem.W.kitOne K (.ref c_NotOpen) (.ref c_NoExit) = some false)
    (ki_NotOpen_NoMarble : PySem.W.kitOne K (.ref c_NotOpen) (.ref c_NoMarble) = some false)
    (ki_NotOpen_TooMany : PySem.W.kitOne K (.ref c_NotOpen) (.ref c_TooMany) = some false)
    (ki_NotOpen_NotOpen : PySem.W.kitOne K (.ref c_NotOpen) (.ref c_NotOpen) = some true)
    (ki_NotOpen_NotBare : PySem.W.kitOne K (.ref c_NotOpen) (.ref c_NotBare) = some false)
    (ki_NotOpen_NotTree : PySem.W.kitOne K (.ref c_NotOpen) (.ref c_NotTree) = some false)
    (ki_NotOpen_TooLong : PySem.W.kitOne K (.ref c_NotOpen) (.ref c_TooLong) = some false)
    (ki_NotOpen_NoBoard : PySem.W.kitOne K (.ref c_NotOpen) (.ref c_NoBoard) = some false)
    (ki_NotBare_NoPlace : PySem.W.kitOne K (.ref c_NotBare) (.ref c_NoPlace) = some false)
    (ki_NotBare_NoSite : PySem.W.kitOne K (.ref c_NotBare) (.ref c_NoSite) = some false)
    (ki_NotBare_NoExit : PySem.W.kitOne K (.ref c_NotBare) (.ref c_NoExit) = some false)
    (ki_NotBare_NoMarble : PySem.W.kitOne K (.ref c_NotBare) (.ref c_NoMarble) = some false)
    (ki_NotBare_TooMany : PySem.W.kitOne K (.ref c_NotBare) (.ref c_TooMany) = some false)
    (ki_NotBare_NotOpen : PySem.W.kitOne K (.ref c_NotBare) (.ref c_NotOpen) = some false)
    (ki_NotBare_NotBare : PySem.W.kitOne K (.ref c_NotBare) (.ref c_NotBare) = some true)
    (ki_NotBare_NotTree : PySem.W.kitOne K (.ref c_NotBare) (.ref c_NotTree) = some false)
    (ki_NotBare_TooLong : PySem.W.kitOne K (.ref c_NotBare) (.ref c_TooLong) = some false)
    (ki_NotBare_NoBoard : PySem.W.kitOne K (.ref c_NotBare) (.ref c_NoBoard) = some false)
    (ki_NotTree_NoPlace : PySem.W.kitOne K (.ref c_NotTree) (.ref c_NoPlace) = some false)
    (ki_NotTree_NoSite : PySem.W.kitOne K (.ref c_NotTree) (.ref c_NoSite) = some false)
    (ki_NotTree_NoExit : PySem.W.kitOne K (.ref c_NotTree) (.ref c_NoExit) = some false)
    (ki_NotTree_NoMarble : PySem.W.kitOne K (.ref c_NotTree) (.ref c_NoMarble) = some false)
    (ki_NotTree_TooMany : PySem.W.kitOne K (.ref c_NotTree) (.ref c_TooMany) = some false)
    (ki_NotTree_NotOpen : PySem.W.kitOne K (.ref c_NotTree) (.ref c_NotOpen) = some false)
    (ki_NotTree_NotBare : PySem.W.kitOne K (.ref c_NotTree) (.ref c_NotBare) = some false)
    (ki_NotTree_NotTree : PySem.W.kitOne K (.ref c_NotTree) (.ref c_NotTree) = some true)
    (ki_NotTree_TooLong : PySem.W.kitOne K (.ref c_NotTree) (.ref c_TooLong) = some false)
    (ki_NotTree_NoBoard : PySem.W.kitOne K (.ref c_NotTree) (.ref c_NoBoard) = some false)
    (ki_TooLong_NoPlace : PySem.W.kitOne K (.ref c_TooLong) (.ref c_NoPlace) = some false)
    (ki_TooLong_NoSite : PySem.W.kitOne K (.ref c_TooLong) (.ref c_NoSite) = some false)
    (ki_TooLong_NoExit : PySem.W.kitOne K (.ref c_TooLong) (.ref c_NoExit) = some false)
    (ki_TooLong_NoMarble : PySem.W.kitOne K (.ref c_TooLong) (.ref c_NoMarble) = some false)
    (ki_TooLong_TooMany : PySem.W.kitOne K (.ref c_TooLong) (.ref c_TooMany) = some false)
    (ki_TooLong_NotOpen : PySem.W.kitOne K (.ref c_TooLong) (.ref c_NotOpen) = some false)
    (ki_TooLong_NotBare : PySem.W.kitOne K (.ref c_TooLong) (.ref c_NotBare) = some false)
    (ki_TooLong_NotTree : PySem.W.kitOne K (.ref c_TooLong) (.ref c_NotTree) = some false)
    (ki_TooLong_TooLong : PySem.W.kitOne K (.ref c_TooLong) (.ref c_TooLong) = some true)
    (ki_TooLong_NoBoard : PySem.W.kitOne K (.ref c_TooLong) (.ref c_NoBoard) = some false)
    (ki_NoBoard_NoPlace : PySem.W.kitOne K (.ref c_NoBoard) (.ref c_NoPlace) = some false)
    (ki_NoBoard_NoSite : PySem.W.kitOne K (.ref c_NoBoard) (.ref c_NoSite) = some false)
    (ki_NoBoard_NoExit : PySem.W.kitOne K (.ref c_NoBoard) (.ref c_NoExit) = some false)
    (ki_NoBoard_NoMarble : PySem.W.kitOne K (.ref c_NoBoard) (.ref c_NoMarble) = some false)
    (ki_NoBoard_TooMany : PySem.W.kitOne K (.ref c_NoBoard) (.ref c_TooMany) = some false)
    (ki_NoBoard_NotOpen : PySem.W.kitOne K (.ref c_NoBoard) (.ref c_NotOpen) = some false)
    (ki_NoBoard_NotBare : PySem.W.kitOne K (.ref c_NoBoard) (.ref c_NotBare) = some false)
    (ki_NoBoard_NotTree : PySem.W.kitOne K (.ref c_NoBoard) (.ref c_NotTree) = some false)
    (ki_NoBoard_TooLong : PySem.W.kitOne K (.ref c_NoBoard) (.ref c_TooLong) = some false)
    (ki_NoBoard_NoBoard : PySem.W.kitOne K (.ref c_NoBoard) (.ref c_NoBoard) = some true)
    (echg_NoPlace : PySem.W.findIn K (.ref c_NoPlace) "__getattribute__" = some (some (.builtin "BaseException.__getattribute__")))
    (echk_NoPlace : PySem.W.findIn K (.ref c_NoPlace) "__getattr__" = some none)
    (echs_NoPlace : PySem.W.subIn K (.ref c_NoPlace) (.type "BaseException") = some true)
    (echd_NoPlace : PySem.W.hasDictIn K c_NoPlace = true)
    (echa_NoPlace : PySem.W.findIn K (.ref c_NoPlace) "__class__" = some (some (.builtin "object.__class__")))
    (echn_NoPlace : PySem.W.specialIn K (.builtin "object.__class__") "__get__" = some (some (.builtin "getset_descriptor.__get__")))
    (echt_NoPlace : PySem.W.takesIn K (.builtin "object.__class__") = some true)
    (echm_NoPlace : PySem.W.mroIn K c_NoPlace (.type "object") = some true)
    (echg_NoSite : PySem.W.findIn K (.ref c_NoSite) "__getattribute__" = some (some (.builtin "BaseException.__getattribute__")))
    (echk_NoSite : PySem.W.findIn K (.ref c_NoSite) "__getattr__" = some none)
    (echs_NoSite : PySem.W.subIn K (.ref c_NoSite) (.type "BaseException") = some true)
    (echd_NoSite : PySem.W.hasDictIn K c_NoSite = true)
    (echa_NoSite : PySem.W.findIn K (.ref c_NoSite) "__class__" = some (some (.builtin "object.__class__")))
    (echn_NoSite : PySem.W.specialIn K (.builtin "object.__class__") "__get__" = some (some (.builtin "getset_descriptor.__get__")))
    (echt_NoSite : PySem.W.takesIn K (.builtin "object.__class__") = some true)
    (echm_NoSite : PySem.W.mroIn K c_NoSite (.type "object") = some true)
    (echg_NoExit : PySem.W.findIn K (.ref c_NoExit) "__getattribute__" = some (some (.builtin "BaseException.__getattribute__")))
    (echk_NoExit : PySem.W.findIn K (.ref c_NoExit) "__getattr__" = some none)
    (echs_NoExit : PySem.W.subIn K (.ref c_NoExit) (.type "BaseException") = some true)
    (echd_NoExit : PySem.W.hasDictIn K c_NoExit = true)
    (echa_NoExit : PySem.W.findIn K (.ref c_NoExit) "__class__" = some (some (.builtin "object.__class__")))
    (echn_NoExit : PySem.W.specialIn K (.builtin "object.__class__") "__get__" = some (some (.builtin "getset_descriptor.__get__")))
    (echt_NoExit : PySem.W.takesIn K (.builtin "object.__class__") = some true)
    (echm_NoExit : PySem.W.mroIn K c_NoExit (.type "object") = some true)
    (echg_NoMarble : PySem.W.findIn K (.ref c_NoMarble) "__getattribute__" = some (some (.builtin "BaseException.__getattribute__")))
    (echk_NoMarble : PySem.W.findIn K (.ref c_NoMarble) "__getattr__" = some none)
    (echs_NoMarble : PySem.W.subIn K (.ref c_NoMarble) (.type "BaseException") = some true)
    (echd_NoMarble : PySem.W.hasDictIn K c_NoMarble = true)
    (echa_NoMarble : PySem.W.findIn K (.ref c_NoMarble) "__class__" = some (some (.builtin "object.__class__")))
    (echn_NoMarble : PySem.W.specialIn K (.builtin "object.__class__") "__get__" = some (some (.builtin "getset_descriptor.__get__")))
    (echt_NoMarble : PySem.W.takesIn K (.builtin "object.__class__") = some true)
    (echm_NoMarble : PySem.W.mroIn K c_NoMarble (.type "object") = some true)
    (echg_TooMany : PySem.W.findIn K (.ref c_TooMany) "__getattribute__" = some (some (.builtin "BaseException.__getattribute__")))
    (echk_TooMany : PySem.W.findIn K (.ref c_TooMany) "__getattr__" = some none)
    (echs_TooMany : PySem.W.subIn K (.ref c_TooMany) (.type "BaseException") = some true)
    (echd_TooMany : PySem.W.hasDictIn K c_TooMany = true)
    (echa_TooMany : PySem.W.findIn K (.ref c_TooMany) "__class__" = some (some (.builtin "object.__class__")))
    (echn_TooMany : PySem.W.specialIn K (.builtin "object.__class__") "__get__" = some (some (.builtin "getset_descriptor.__get__")))
    (echt_TooMany : PySem.W.takesIn K (.builtin "object.__class__") = some true)
    (echm_TooMany : PySem.W.mroIn K c_TooMany (.type "object") = some true)
    (echg_NotOpen : PySem.W.findIn K (.ref c_NotOpen) "__getattribute__" = some (some (.builtin "BaseException.__getattribute__")))
    (echk_NotOpen : PySem.W.findIn K (.ref c_NotOpen) "__getattr__" = some none)
    (echs_NotOpen : PySem.W.subIn K (.ref c_NotOpen) (.type "BaseException") = some true)
    (echd_NotOpen : PySem.W.hasDictIn K c_NotOpen = true)
    (echa_NotOpen : PySem.W.findIn K (.ref c_NotOpen) "__class__" = some (some (.builtin "object.__class__")))
    (echn_NotOpen : PySem.W.specialIn K (.builtin "object.__class__") "__get__" = some (some (.builtin "getset_descriptor.__get__")))
    (echt_NotOpen : PySem.W.takesIn K (.builtin "object.__class__") = some true)
    (echm_NotOpen : PySem.W.mroIn K c_NotOpen (.type "object") = some true)
    (echg_NotBare : PySem.W.findIn K (.ref c_NotBare) "__getattribute__" = some (some (.builtin "BaseException.__getattribute__")))
    (echk_NotBare : PySem.W.findIn K (.ref c_NotBare) "__getattr__" = some none)
    (echs_NotBare : PySem.W.subIn K (.ref c_NotBare) (.type "BaseException") = some true)
    (echd_NotBare : PySem.W.hasDictIn K c_NotBare = true)
    (echa_NotBare : PySem.W.findIn K (.ref c_NotBare) "__class__" = some (some (.builtin "object.__class__")))
    (echn_NotBare : PySem.W.specialIn K (.builtin "object.__class__") "__get__" = some (some (.builtin "getset_descriptor.__get__")))
    (echt_NotBare : PySem.W.takesIn K (.builtin "object.__class__") = some true)
    (echm_NotBare : PySem.W.mroIn K c_NotBare (.type "object") = some true)
    (echg_NotTree : PySem.W.findIn K (.ref c_NotTree) "__getattribute__" = some (some (.builtin "BaseException.__getattribute__")))
    (echk_NotTree : PySem.W.findIn K (.ref c_NotTree) "__getattr__" = some none)
    (echs_NotTree : PySem.W.subIn K (.ref c_NotTree) (.type "BaseException") = some true)
    (echd_NotTree : PySem.W.hasDictIn K c_NotTree = true)
    (echa_NotTree : PySem.W.findIn K (.ref c_NotTree) "__class__" = some (some (.builtin "object.__class__")))
    (echn_NotTree : PySem.W.specialIn K (.builtin "object.__class__") "__get__" = some (some (.builtin "getset_descriptor.__get__")))
    (echt_NotTree : PySem.W.takesIn K (.builtin "object.__class__") = some true)
    (echm_NotTree : PySem.W.mroIn K c_NotTree (.type "object") = some true)
    (echg_TooLong : PySem.W.findIn K (.ref c_TooLong) "__getattribute__" = some (some (.builtin "BaseException.__getattribute__")))
    (echk_TooLong : PySem.W.findIn K (.ref c_TooLong) "__getattr__" = some none)
    (echs_TooLong : PySem.W.subIn K (.ref c_TooLong) (.type "BaseException") = some true)
    (echd_TooLong : PySem.W.hasDictIn K c_TooLong = true)
    (echa_TooLong : PySem.W.findIn K (.ref c_TooLong) "__class__" = some (some (.builtin "object.__class__")))
    (echn_TooLong : PySem.W.specialIn K (.builtin "object.__class__") "__get__" = some (some (.builtin "getset_descriptor.__get__")))
    (echt_TooLong : PySem.W.takesIn K (.builtin "object.__class__") = some true)
    (echm_TooLong : PySem.W.mroIn K c_TooLong (.type "object") = some true)
    (echg_NoBoard : PySem.W.findIn K (.ref c_NoBoard) "__getattribute__" = some (some (.builtin "BaseException.__getattribute__")))
    (echk_NoBoard : PySem.W.findIn K (.ref c_NoBoard) "__getattr__" = some none)
    (echs_NoBoard : PySem.W.subIn K (.ref c_NoBoard) (.type "BaseException") = some true)
    (echd_NoBoard : PySem.W.hasDictIn K c_NoBoard = true)
    (echa_NoBoard : PySem.W.findIn K (.ref c_NoBoard) "__class__" = some (some (.builtin "object.__class__")))
    (echn_NoBoard : PySem.W.specialIn K (.builtin "object.__class__") "__get__" = some (some (.builtin "getset_descriptor.__get__")))
    (echt_NoBoard : PySem.W.takesIn K (.builtin "object.__class__") = some true)
    (echm_NoBoard : PySem.W.mroIn K c_NoBoard (.type "object") = some true)
    (e_NoPlace_BoardError : PySem.W.subIn K (.ref c_NoPlace) (.ref c_BoardError) = some true)
    (e_NoExit_BoardError : PySem.W.subIn K (.ref c_NoExit) (.ref c_BoardError) = some true)
    (e_NoMarble_BoardError : PySem.W.subIn K (.ref c_NoMarble) (.ref c_BoardError) = some true)
    (e_TooMany_BoardError : PySem.W.subIn K (.ref c_TooMany) (.ref c_BoardError) = some true)
    (e_NotOpen_BoardError : PySem.W.subIn K (.ref c_NotOpen) (.ref c_BoardError) = some true)
    (e_NotBare_BoardError : PySem.W.subIn K (.ref c_NotBare) (.ref c_BoardError) = some true)
    (e_NotTree_BoardError : PySem.W.subIn K (.ref c_NotTree) (.ref c_BoardError) = some true)
    (e_TooLong_BoardError : PySem.W.subIn K (.ref c_TooLong) (.ref c_BoardError) = some true)
    (e_NoBoard_BoardError : PySem.W.subIn K (.ref c_NoBoard) (.ref c_BoardError) = some true)
    : ∃ fd : FuncData, (∀ (s : Shared) (v : Value), BindsTo s fd ⟨[v], []⟩ [("script", v)]) ∧ ∀ base : Heap, K.In base → base.Ns mainGlobals mg → FnOk l.prog w K mg base CX0 7 fa fd ["script"] (spLaw K) := by
  have e := hfa.symm.trans (PySem.W.mg_of X G a_law_k28)
  cases e
  let T : Txt K mg := {
    G := ⟨c_Board, c_BoardError, c_NoSite, c_NoExit, c_NoPlace, c_NoMarble, c_TooMany, c_NotOpen, c_NotBare, c_NotTree, c_TooLong, c_NoBoard⟩
    f_drawn := f_drawn
    d_drawn := _
    F_drawn := fun_mk (st := s_drawn) l_drawn c_drawn k_drawn
    b_drawn := Fun.binds (ps := ["script", "k", "many"]) (fun_mk (st := s_drawn) l_drawn c_drawn k_drawn) fun _ _ _ _ _ _ us hl => match us, hl with | [_, _, _], _ => rfl
    g_drawn := PySem.W.mg_of X G a_drawn
    f_checked := f_checked
    d_checked := _
    F_checked := fun_mk (st := s_checked) l_checked c_checked k_checked
    b_checked := Fun.binds (ps := ["rows"]) (fun_mk (st := s_checked) l_checked c_checked k_checked) fun _ _ _ _ _ _ us hl => match us, hl with | [_], _ => rfl
    g_checked := PySem.W.mg_of X G a_checked
    f_Board_init := f_Board_init
    d_Board_init := _
    F_Board_init := fun_mk (st := s_Board_init) l_Board_init c_Board_init k_Board_init
    b_Board_init := Fun.binds (ps := ["self", "rows"]) (fun_mk (st := s_Board_init) l_Board_init c_Board_init k_Board_init) fun _ _ _ _ _ _ us hl => match us, hl with | [_, _], _ => rfl
    mk_Board := ⟨mk_Board, a_Board_init, i_Board_init, kc_Board⟩
    f_Board_has_site := f_Board_has_site
    d_Board_has_site := _
    F_Board_has_site := fun_mk (st := s_Board_has_site) l_Board_has_site c_Board_has_site k_Board_has_site
    b_Board_has_site := Fun.binds (ps := ["self", "at"]) (fun_mk (st := s_Board_has_site) l_Board_has_site c_Board_has_site k_Board_has_site) fun _ _ _ _ _ _ us hl => match us, hl with | [_, _], _ => rfl
    m_Board_has_site := ⟨a_Board_has_site, i_Board_has_site, k_Board_has_site⟩
    f_Board_turn_to := f_Board_turn_to
    d_Board_turn_to := _
    F_Board_turn_to := fun_mk (st := s_Board_turn_to) l_Board_turn_to c_Board_turn_to k_Board_turn_to
    b_Board_turn_to := Fun.binds (ps := ["self", "at", "place"]) (fun_mk (st := s_Board_turn_to) l_Board_turn_to c_Board_turn_to k_Board_turn_to) fun _ _ _ _ _ _ us hl => match us, hl with | [_, _, _], _ => rfl
    m_Board_turn_to := ⟨a_Board_turn_to, i_Board_turn_to, k_Board_turn_to⟩
    f_step := f_step
    d_step := _
    F_step := fun_mk (st := s_step) l_step c_step k_step
    b_step := Fun.binds (ps := ["board", "at"]) (fun_mk (st := s_step) l_step c_step k_step) fun _ _ _ _ _ _ us hl => match us, hl with | [_, _], _ => rfl
    g_step := PySem.W.mg_of X G a_step
    f_Board_load := f_Board_load
    d_Board_load := _
    F_Board_load := fun_mk (st := s_Board_load) l_Board_load c_Board_load k_Board_load
    b_Board_load := Fun.binds (ps := ["self", "at", "many"]) (fun_mk (st := s_Board_load) l_Board_load c_Board_load k_Board_load) fun _ _ _ _ _ _ us hl => match us, hl with | [_, _, _], _ => rfl
    m_Board_load := ⟨a_Board_load, i_Board_load, k_Board_load⟩
    f_reached := f_reached
    d_reached := _
    F_reached := fun_mk (st := s_reached) l_reached c_reached k_reached
    b_reached := Fun.binds (ps := ["rows"]) (fun_mk (st := s_reached) l_reached c_reached k_reached) fun _ _ _ _ _ _ us hl => match us, hl with | [_], _ => rfl
    g_reached := PySem.W.mg_of X G a_reached
    f_is_open := f_is_open
    d_is_open := _
    F_is_open := fun_mk (st := s_is_open) l_is_open c_is_open k_is_open
    b_is_open := Fun.binds (ps := ["board"]) (fun_mk (st := s_is_open) l_is_open c_is_open k_is_open) fun _ _ _ _ _ _ us hl => match us, hl with | [_], _ => rfl
    g_is_open := PySem.W.mg_of X G a_is_open
    f_Board_become := f_Board_become
    d_Board_become := _
    F_Board_become := fun_mk (st := s_Board_become) l_Board_become c_Board_become k_Board_become
    b_Board_become := Fun.binds (ps := ["self", "other"]) (fun_mk (st := s_Board_become) l_Board_become c_Board_become k_Board_become) fun _ _ _ _ _ _ us hl => match us, hl with | [_, _], _ => rfl
    m_Board_become := ⟨a_Board_become, i_Board_become, k_Board_become⟩
    f_Board_twin := f_Board_twin
    d_Board_twin := _
    F_Board_twin := fun_mk (st := s_Board_twin) l_Board_twin c_Board_twin k_Board_twin
    b_Board_twin := Fun.binds (ps := ["self"]) (fun_mk (st := s_Board_twin) l_Board_twin c_Board_twin k_Board_twin) fun _ _ _ _ _ _ us hl => match us, hl with | [_], _ => rfl
    m_Board_twin := ⟨a_Board_twin, i_Board_twin, k_Board_twin⟩
    f_first_laden := f_first_laden
    d_first_laden := _
    F_first_laden := fun_mk (st := s_first_laden) l_first_laden c_first_laden k_first_laden
    b_first_laden := Fun.binds (ps := ["board"]) (fun_mk (st := s_first_laden) l_first_laden c_first_laden k_first_laden) fun _ _ _ _ _ _ us hl => match us, hl with | [_], _ => rfl
    g_first_laden := PySem.W.mg_of X G a_first_laden
    f_run := f_run
    d_run := _
    F_run := fun_mk (st := s_run) l_run c_run k_run
    b_run := Fun.binds (ps := ["board", "most"]) (fun_mk (st := s_run) l_run c_run k_run) fun _ _ _ _ _ _ us hl => match us, hl with | [_, _], _ => rfl
    g_run := PySem.W.mg_of X G a_run
    f_last_exit := f_last_exit
    d_last_exit := _
    F_last_exit := fun_mk (st := s_last_exit) l_last_exit c_last_exit k_last_exit
    b_last_exit := Fun.binds (ps := ["board", "at"]) (fun_mk (st := s_last_exit) l_last_exit c_last_exit k_last_exit) fun _ _ _ _ _ _ us hl => match us, hl with | [_, _], _ => rfl
    g_last_exit := PySem.W.mg_of X G a_last_exit
    f_is_tree := f_is_tree
    d_is_tree := _
    F_is_tree := fun_mk (st := s_is_tree) l_is_tree c_is_tree k_is_tree
    b_is_tree := Fun.binds (ps := ["board"]) (fun_mk (st := s_is_tree) l_is_tree c_is_tree k_is_tree) fun _ _ _ _ _ _ us hl => match us, hl with | [_], _ => rfl
    g_is_tree := PySem.W.mg_of X G a_is_tree
    f_before := f_before
    d_before := _
    F_before := fun_mk (st := s_before) l_before c_before k_before
    b_before := Fun.binds (ps := ["rows", "turns", "start", "spot"]) (fun_mk (st := s_before) l_before c_before k_before) fun _ _ _ _ _ _ us hl => match us, hl with | [_, _, _, _], _ => rfl
    g_before := PySem.W.mg_of X G a_before
    f_run_back := f_run_back
    d_run_back := _
    F_run_back := fun_mk (st := s_run_back) l_run_back c_run_back k_run_back
    b_run_back := Fun.binds (ps := ["board", "at", "most"]) (fun_mk (st := s_run_back) l_run_back c_run_back k_run_back) fun _ _ _ _ _ _ us hl => match us, hl with | [_, _, _], _ => rfl
    g_run_back := PySem.W.mg_of X G a_run_back
    f_number_of := f_number_of
    d_number_of := _
    F_number_of := fun_mk (st := s_number_of) l_number_of c_number_of k_number_of
    b_number_of := Fun.binds (ps := ["word"]) (fun_mk (st := s_number_of) l_number_of c_number_of k_number_of) fun _ _ _ _ _ _ us hl => match us, hl with | [_], _ => rfl
    g_number_of := PySem.W.mg_of X G a_number_of
    f_exit_of := f_exit_of
    d_exit_of := _
    F_exit_of := fun_mk (st := s_exit_of) l_exit_of c_exit_of k_exit_of
    b_exit_of := Fun.binds (ps := ["word"]) (fun_mk (st := s_exit_of) l_exit_of c_exit_of k_exit_of) fun _ _ _ _ _ _ us hl => match us, hl with | [_], _ => rfl
    g_exit_of := PySem.W.mg_of X G a_exit_of
    f_site_of_k28 := f_site_of_k28
    d_site_of_k28 := _
    F_site_of_k28 := fun_mk (st := s_site_of_k28) l_site_of_k28 c_site_of_k28 k_site_of_k28
    b_site_of_k28 := Fun.binds (ps := ["line"]) (fun_mk (st := s_site_of_k28) l_site_of_k28 c_site_of_k28 k_site_of_k28) fun _ _ _ _ _ _ us hl => match us, hl with | [_], _ => rfl
    g_site_of_k28 := PySem.W.mg_of X G a_site_of_k28
    f_read_k28 := f_read_k28
    d_read_k28 := _
    F_read_k28 := fun_mk (st := s_read_k28) l_read_k28 c_read_k28 k_read_k28
    b_read_k28 := Fun.binds (ps := ["text"]) (fun_mk (st := s_read_k28) l_read_k28 c_read_k28 k_read_k28) fun _ _ _ _ _ _ us hl => match us, hl with | [_], _ => rfl
    g_read_k28 := PySem.W.mg_of X G a_read_k28
    f_deed_k28 := f_deed_k28
    d_deed_k28 := _
    F_deed_k28 := fun_mk (st := s_deed_k28) l_deed_k28 c_deed_k28 k_deed_k28
    b_deed_k28 := Fun.binds (ps := ["board", "way", "at", "size"]) (fun_mk (st := s_deed_k28) l_deed_k28 c_deed_k28 k_deed_k28) fun _ _ _ _ _ _ us hl => match us, hl with | [_, _, _, _], _ => rfl
    g_deed_k28 := PySem.W.mg_of X G a_deed_k28
    f_marks_k28 := f_marks_k28
    d_marks_k28 := _
    F_marks_k28 := fun_mk (st := s_marks_k28) l_marks_k28 c_marks_k28 k_marks_k28
    b_marks_k28 := Fun.binds (ps := ["e"]) (fun_mk (st := s_marks_k28) l_marks_k28 c_marks_k28 k_marks_k28) fun _ _ _ _ _ _ us hl => match us, hl with | [_], _ => rfl
    g_marks_k28 := PySem.W.mg_of X G a_marks_k28
    f_law_k28 := fa
    d_law_k28 := _
    F_law_k28 := fun_mk (st := s_law_k28) l_law_k28 c_law_k28 k_law_k28
    b_law_k28 := Fun.binds (ps := ["script"]) (fun_mk (st := s_law_k28) l_law_k28 c_law_k28 k_law_k28) fun _ _ _ _ _ _ us hl => match us, hl with | [_], _ => rfl
    cl_Board := ⟨pg_Board, hd_Board, po_Board, sa_Board⟩
    bd := ⟨⟨pg_Board, hd_Board, po_Board, sa_Board⟩, na_rows, na_turns, na_loads, na_steps, na_taken⟩
    g_Board := PySem.W.mg_of X G a_cBoard
    tk_MOST_SITES := tk_MOST_SITES
    g_MOST_SITES := PySem.W.mg_of X G gi_MOST_SITES
    tk_MOST_EXITS := tk_MOST_EXITS
    g_MOST_EXITS := PySem.W.mg_of X G gi_MOST_EXITS
    tk_PIT := tk_PIT
    g_PIT := PySem.W.mg_of X G gi_PIT
    tk_MOST_MARBLES := tk_MOST_MARBLES
    g_MOST_MARBLES := PySem.W.mg_of X G gi_MOST_MARBLES
    tk_MOST_FIGURES := tk_MOST_FIGURES
    g_MOST_FIGURES := PySem.W.mg_of X G gi_MOST_FIGURES
    tk_FIGURES := tk_FIGURES
    g_FIGURES := PySem.W.mg_of X G gi_FIGURES
    n_len := PySem.W.mg_none_of X G n_len
    n_list := PySem.W.mg_none_of X G n_list
    n_sum := PySem.W.mg_none_of X G n_sum
    n_range := PySem.W.mg_none_of X G n_range
    n_all := PySem.W.mg_none_of X G n_all
    n_int := PySem.W.mg_none_of X G n_int
    n_str := PySem.W.mg_none_of X G n_str
    n_isinstance := PySem.W.mg_none_of X G n_isinstance
    n_ValueError := PySem.W.mg_none_of X G n_ValueError
    g_NoSite := PySem.W.mg_of X G a_cNoSite
    x_NoSite := x_NoSite
    k_NoSite := k_NoSite
    b_NoSite := b_NoSite
    t_NoSite := t_NoSite
    g_NoExit := PySem.W.mg_of X G a_cNoExit
    x_NoExit := x_NoExit
    k_NoExit := k_NoExit
    b_NoExit := b_NoExit
    t_NoExit := t_NoExit
    g_NoPlace := PySem.W.mg_of X G a_cNoPlace
    x_NoPlace := x_NoPlace
    k_NoPlace := k_NoPlace
    b_NoPlace := b_NoPlace
    t_NoPlace := t_NoPlace
    g_NoMarble := PySem.W.mg_of X G a_cNoMarble
    x_NoMarble := x_NoMarble
    k_NoMarble := k_NoMarble
    b_NoMarble := b_NoMarble
    t_NoMarble := t_NoMarble
    g_TooMany := PySem.W.mg_of X G a_cTooMany
    x_TooMany := x_TooMany
    k_TooMany := k_TooMany
    b_TooMany := b_TooMany
    t_TooMany := t_TooMany
    g_NotOpen := PySem.W.mg_of X G a_cNotOpen
    x_NotOpen := x_NotOpen
    k_NotOpen := k_NotOpen
    b_NotOpen := b_NotOpen
    t_NotOpen := t_NotOpen
    g_TooLong := PySem.W.mg_of X G a_cTooLong
    x_TooLong := x_TooLong
    k_TooLong := k_TooLong
    b_TooLong := b_TooLong
    t_TooLong := t_TooLong
    g_NotBare := PySem.W.mg_of X G a_cNotBare
    x_NotBare := x_NotBare
    k_NotBare := k_NotBare
    b_NotBare := b_NotBare
    t_NotBare := t_NotBare
    g_NotTree := PySem.W.mg_of X G a_cNotTree
    x_NotTree := x_NotTree
    k_NotTree := k_NotTree
    b_NotTree := b_NotTree
    t_NotTree := t_NotTree
    g_NoBoard := PySem.W.mg_of X G a_cNoBoard
    x_NoBoard := x_NoBoard
    k_NoBoard := k_NoBoard
    b_NoBoard := b_NoBoard
    t_NoBoard := t_NoBoard
    g_BoardError := PySem.W.mg_of X G a_cBoardError
    x_BoardError := x_BoardError
    k_BoardError := k_BoardError
    b_BoardError := b_BoardError
    t_BoardError := t_BoardError
    e_NoSite_BoardError := PySem.W.exm_ref b_BoardError hd_BoardError t_BoardError e_NoSite_BoardError
    kt_NoPlace_ValueError := kt_NoPlace_ValueError
    kt_NoSite_ValueError := kt_NoSite_ValueError
    kt_NoExit_ValueError := kt_NoExit_ValueError
    kt_NoMarble_ValueError := kt_NoMarble_ValueError
    kt_TooMany_ValueError := kt_TooMany_ValueError
    kt_NotOpen_ValueError := kt_NotOpen_ValueError
    kt_NotBare_ValueError := kt_NotBare_ValueError
    kt_NotTree_ValueError := kt_NotTree_ValueError
    kt_TooLong_ValueError := kt_TooLong_ValueError
    kt_NoBoard_ValueError := kt_NoBoard_ValueError
    ki_NoPlace_NoPlace := ki_NoPlace_NoPlace
    ki_NoPlace_NoSite := ki_NoPlace_NoSite
    ki_NoPlace_NoExit := ki_NoPlace_NoExit
    ki_NoPlace_NoMarble := ki_NoPlace_NoMarble
    ki_NoPlace_TooMany := ki_NoPlace_TooMany
    ki_NoPlace_NotOpen := ki_NoPlace_NotOpen
    ki_NoPlace_NotBare := ki_NoPlace_NotBare
    ki_NoPlace_NotTree := ki_NoPlace_NotTree
    ki_NoPlace_TooLong := ki_NoPlace_TooLong
    ki_NoPlace_NoBoard := ki_NoPlace_NoBoard
    ki_NoSite_NoPlace := ki_NoSite_NoPlace
    ki_NoSite_NoSite := ki_NoSite_NoSite
    ki_NoSite_NoExit := ki_NoSite_NoExit
    ki_NoSite_NoMarble := ki_NoSite_NoMarble
    ki_NoSite_TooMany := ki_NoSite_TooMany
    ki_NoSite_NotOpen := ki_NoSite_NotOpen
    ki_NoSite_NotBare := ki_NoSite_NotBare
    ki_NoSite_NotTree := ki_NoSite_NotTree
    ki_NoSite_TooLong := ki_NoSite_TooLong
    ki_NoSite_NoBoard := ki_NoSite_NoBoard
    ki_NoExit_NoPlace := ki_NoExit_NoPlace
    ki_NoExit_NoSite := ki_NoExit_NoSite
    ki_NoExit_NoExit := ki_NoExit_NoExit
    ki_NoExit_NoMarble := ki_NoExit_NoMarble
    ki_NoExit_TooMany := ki_NoExit_TooMany
    ki_NoExit_NotOpen := ki_NoExit_NotOpen
    ki_NoExit_NotBare := ki_NoExit_NotBare
    ki_NoExit_NotTree := ki_NoExit_NotTree
    ki_NoExit_TooLong := ki_NoExit_TooLong
    ki_NoExit_NoBoard := ki_NoExit_NoBoard
    ki_NoMarble_NoPlace := ki_NoMarble_NoPlace
    ki_NoMarble_NoSite := ki_NoMarble_NoSite
    ki_NoMarble_NoExit := ki_NoMarble_NoExit
    ki_NoMarble_NoMarble := ki_NoMarble_NoMarble
    ki_NoMarble_TooMany := ki_NoMarble_TooMany
    ki_NoMarble_NotOpen := ki_NoMarble_NotOpen
    ki_NoMarble_NotBare := ki_NoMarble_NotBare
    ki_NoMarble_NotTree := ki_NoMarble_NotTree
    ki_NoMarble_TooLong := ki_NoMarble_TooLong
    ki_NoMarble_NoBoard := ki_NoMarble_NoBoard
    ki_TooMany_NoPlace := ki_TooMany_NoPlace
    ki_TooMany_NoSite := ki_TooMany_NoSite
    ki_TooMany_NoExit := ki_TooMany_NoExit
    ki_TooMany_NoMarble := ki_TooMany_NoMarble
    ki_TooMany_TooMany := ki_TooMany_TooMany
    ki_TooMany_NotOpen := ki_TooMany_NotOpen
    ki_TooMany_NotBare := ki_TooMany_NotBare
    ki_TooMany_NotTree := ki_TooMany_NotTree
    ki_TooMany_TooLong := ki_TooMany_TooLong
    ki_TooMany_NoBoard := ki_TooMany_NoBoard
    ki_NotOpen_NoPlace := ki_NotOpen_NoPlace
    ki_NotOpen_NoSite := ki_NotOpen_NoSite
    ki_NotOpen_NoExit := ki_NotOpen_NoExit
    ki_NotOpen_NoMarble := ki_NotOpen_NoMarble
    ki_NotOpen_TooMany := ki_NotOpen_TooMany
    ki_NotOpen_NotOpen := ki_NotOpen_NotOpen
    ki_NotOpen_NotBare := ki_NotOpen_NotBare
    ki_NotOpen_NotTree := ki_NotOpen_NotTree
    ki_NotOpen_TooLong := ki_NotOpen_TooLong
    ki_NotOpen_NoBoard := ki_NotOpen_NoBoard
    ki_NotBare_NoPlace := ki_NotBare_NoPlace
    ki_NotBare_NoSite := ki_NotBare_NoSite
    ki_NotBare_NoExit := ki_NotBare_NoExit
    ki_NotBare_NoMarble := ki_NotBare_NoMarble
    ki_NotBare_TooMany := ki_NotBare_TooMany
    ki_NotBare_NotOpen := ki_NotBare_NotOpen
    ki_NotBare_NotBare := ki_NotBare_NotBare
    ki_NotBare_NotTree := ki_NotBare_NotTree
    ki_NotBare_TooLong := ki_NotBare_TooLong
    ki_NotBare_NoBoard := ki_NotBare_NoBoard
    ki_NotTree_NoPlace := ki_NotTree_NoPlace
    ki_NotTree_NoSite := ki_NotTree_NoSite
    ki_NotTree_NoExit := ki_NotTree_NoExit
    ki_NotTree_NoMarble := ki_NotTree_NoMarble
    ki_NotTree_TooMany := ki_NotTree_TooMany
    ki_NotTree_NotOpen := ki_NotTree_NotOpen
    ki_NotTree_NotBare := ki_NotTree_NotBare
    ki_NotTree_NotTree := ki_NotTree_NotTree
    ki_NotTree_TooLong := ki_NotTree_TooLong
    ki_NotTree_NoBoard := ki_NotTree_NoBoard
    ki_TooLong_NoPlace := ki_TooLong_NoPlace
    ki_TooLong_NoSite := ki_TooLong_NoSite
    ki_TooLong_NoExit := ki_TooLong_NoExit
    ki_TooLong_NoMarble := ki_TooLong_NoMarble
    ki_TooLong_TooMany := ki_TooLong_TooMany
    ki_TooLong_NotOpen := ki_TooLong_NotOpen
    ki_TooLong_NotBare := ki_TooLong_NotBare
    ki_TooLong_NotTree := ki_TooLong_NotTree
    ki_TooLong_TooLong := ki_TooLong_TooLong
    ki_TooLong_NoBoard := ki_TooLong_NoBoard
    ki_NoBoard_NoPlace := ki_NoBoard_NoPlace
    ki_NoBoard_NoSite := ki_NoBoard_NoSite
    ki_NoBoard_NoExit := ki_NoBoard_NoExit
    ki_NoBoard_NoMarble := ki_NoBoard_NoMarble
    ki_NoBoard_TooMany := ki_NoBoard_TooMany
    ki_NoBoard_NotOpen := ki_NoBoard_NotOpen
    ki_NoBoard_NotBare := ki_NoBoard_NotBare
    ki_NoBoard_NotTree := ki_NoBoard_NotTree
    ki_NoBoard_TooLong := ki_NoBoard_TooLong
    ki_NoBoard_NoBoard := ki_NoBoard_NoBoard
    ec_NoPlace := ⟨echg_NoPlace, echk_NoPlace, echs_NoPlace, echd_NoPlace, echa_NoPlace, echn_NoPlace, echt_NoPlace, echm_NoPlace⟩
    ec_NoSite := ⟨echg_NoSite, echk_NoSite, echs_NoSite, echd_NoSite, echa_NoSite, echn_NoSite, echt_NoSite, echm_NoSite⟩
    ec_NoExit := ⟨echg_NoExit, echk_NoExit, echs_NoExit, echd_NoExit, echa_NoExit, echn_NoExit, echt_NoExit, echm_NoExit⟩
    ec_NoMarble := ⟨echg_NoMarble, echk_NoMarble, echs_NoMarble, echd_NoMarble, echa_NoMarble, echn_NoMarble, echt_NoMarble, echm_NoMarble⟩
    ec_TooMany := ⟨echg_TooMany, echk_TooMany, echs_TooMany, echd_TooMany, echa_TooMany, echn_TooMany, echt_TooMany, echm_TooMany⟩
    ec_NotOpen := ⟨echg_NotOpen, echk_NotOpen, echs_NotOpen, echd_NotOpen, echa_NotOpen, echn_NotOpen, echt_NotOpen, echm_NotOpen⟩
    ec_NotBare := ⟨echg_NotBare, echk_NotBare, echs_NotBare, echd_NotBare, echa_NotBare, echn_NotBare, echt_NotBare, echm_NotBare⟩
    ec_NotTree := ⟨echg_NotTree, echk_NotTree, echs_NotTree, echd_NotTree, echa_NotTree, echn_NotTree, echt_NotTree, echm_NotTree⟩
    ec_TooLong := ⟨echg_TooLong, echk_TooLong, echs_TooLong, echd_TooLong, echa_TooLong, echn_TooLong, echt_TooLong, echm_TooLong⟩
    ec_NoBoard := ⟨echg_NoBoard, echk_NoBoard, echs_NoBoard, echd_NoBoard, echa_NoBoard, echn_NoBoard, echt_NoBoard, echm_NoBoard⟩
    e_NoPlace_BoardError := PySem.W.exm_ref b_BoardError hd_BoardError t_BoardError e_NoPlace_BoardError
    e_NoExit_BoardError := PySem.W.exm_ref b_BoardError hd_BoardError t_BoardError e_NoExit_BoardError
    e_NoMarble_BoardError := PySem.W.exm_ref b_BoardError hd_BoardError t_BoardError e_NoMarble_BoardError
    e_TooMany_BoardError := PySem.W.exm_ref b_BoardError hd_BoardError t_BoardError e_TooMany_BoardError
    e_NotOpen_BoardError := PySem.W.exm_ref b_BoardError hd_BoardError t_BoardError e_NotOpen_BoardError
    e_NotBare_BoardError := PySem.W.exm_ref b_BoardError hd_BoardError t_BoardError e_NotBare_BoardError
    e_NotTree_BoardError := PySem.W.exm_ref b_BoardError hd_BoardError t_BoardError e_NotTree_BoardError
    e_TooLong_BoardError := PySem.W.exm_ref b_BoardError hd_BoardError t_BoardError e_TooLong_BoardError
    e_NoBoard_BoardError := PySem.W.exm_ref b_BoardError hd_BoardError t_BoardError e_NoBoard_BoardError
  }
  exact ⟨PySem.W.fnOf "law" "law" (defArgs s_law_k28) (defBody s_law_k28) (defScope s_law_k28) .none kV_law_k28 dc_law_k28 pm_law_k28 an_law_k28 cd_law_k28 ct_law_k28, fun s v => .of_eq rfl, fun base _ _ => ok_law_k28 T⟩
theorem walk {l : PySem.W.OpenLaw} {q : Program} {loose : List Str} {XP : (Str → Option Value) → Heap → Prop} {YP : World → Heap → Prop} {d : DefRec} {K : Params → PySem.W.Frag} (hn : l.most = some 63) (hdf : d.params.defaults = [])
    (hY : ∀ (w : World) (h : Heap), YP w h → (K w.params).In h)
    (F : ∀ (w : World) (mg : Str → Option Value) (fa : Addr) (h : Heap), (K w.params).In h → h.Ns mainGlobals mg → mg d.name = some (.ref fa) →
      ∃ fd : FuncData, (∀ (s : Shared) (u : Value), BindsTo s fd ⟨[u], []⟩ [("script", u)]) ∧ ∀ base : Heap, (K w.params).In base → base.Ns mainGlobals mg → FnOk l.prog w (K w.params) mg base CX0 7 fa fd ["script"] (spLaw (K w.params))) :
    PySem.W.WalkO q loose XP YP l.row.toRowW d [] (fun f vs => PySem.call f vs) :=
  L2.walk_of (n := 63) (k := 7) (x := "script") (CX := fun _ => CX0) (sp := fun w => spLaw (K w.params)) hn (by decide) hdf ⟨rfl, by decide, by decide⟩ hY F (fun _ _ a ns hl _ hS => ⟨a, ns, rfl, hS, hl, fun _ => rfl⟩) fun _ _ _ _ _ z => z
end Mb
open PySem PySem.W PyProof.Rows
set_option maxRecDepth 100000 in
set_option maxHeartbeats 0 in
set_option pp.maxSteps 60 in
theorem PySem.Challenge.cw_marblerun_k28_refusals_apart_holds : PySem.Challenge.rw_marblerun_k28_refusals_apart.Holds := by
  w_on; o_law; k_head; (case hw => w_witness2)
  k_fill
  refine Mb.walk (l := PySem.Challenge.rw_marblerun_k28_refusals_apart) rfl rfl (fun w h Y => PySem.W.kIn_of Y) ?F
  case F =>
    intro w mg fa h KX G hmg
    refine' Mb.all_mk KX G hmg ?a_cBoard ?a_drawn ?l_drawn ?c_drawn ?k_drawn ?a_checked ?l_checked ?c_checked ?k_checked ?a_Board_init ?i_Board_init ?l_Board_init ?c_Board_init ?k_Board_init ?a_Board_has_site ?i_Board_has_site ?l_Board_has_site ?c_Board_has_site ?k_Board_has_site ?a_Board_turn_to ?i_Board_turn_to ?l_Board_turn_to ?c_Board_turn_to ?k_Board_turn_to ?a_step ?l_step ?c_step ?k_step ?a_Board_load ?i_Board_load ?l_Board_load ?c_Board_load ?k_Board_load ?a_reached ?l_reached ?c_reached ?k_reached ?a_is_open ?l_is_open ?c_is_open ?k_is_open ?a_Board_become ?i_Board_become ?l_Board_become ?c_Board_become ?k_Board_become ?a_Board_twin ?i_Board_twin ?l_Board_twin ?c_Board_twin ?k_Board_twin ?a_first_laden ?l_first_laden ?c_first_laden ?k_first_laden ?a_run ?l_run ?c_run ?k_run ?a_last_exit ?l_last_exit ?c_last_exit ?k_last_exit ?a_is_tree ?l_is_tree ?c_is_tree ?k_is_tree ?a_before ?l_before ?c_before ?k_before ?a_run_back ?l_run_back ?c_run_back ?k_run_back ?a_number_of ?l_number_of ?c_number_of ?k_number_of ?a_exit_of ?l_exit_of ?c_exit_of ?k_exit_of ?a_site_of_k28 ?l_site_of_k28 ?c_site_of_k28 ?k_site_of_k28 ?a_read_k28 ?l_read_k28 ?c_read_k28 ?k_read_k28 ?a_deed_k28 ?l_deed_k28 ?c_deed_k28 ?k_deed_k28 ?a_marks_k28 ?l_marks_k28 ?c_marks_k28 ?k_marks_k28 ?a_law_k28 ?l_law_k28 ?c_law_k28 ?k_law_k28 ?pg_Board ?hd_Board ?po_Board ?sa_Board ?mk_Board ?kc_Board ?na_rows ?na_turns ?na_loads ?na_steps ?na_taken ?gi_MOST_SITES ?gi_MOST_EXITS ?gi_PIT ?gi_MOST_MARBLES ?gi_MOST_FIGURES ?gi_FIGURES ?n_len ?n_list ?n_sum ?n_range ?n_all ?n_int ?n_str ?n_isinstance ?n_ValueError ?a_cNoSite ?x_NoSite ?k_NoSite ?b_NoSite ?t_NoSite ?a_cNoExit ?x_NoExit ?k_NoExit ?b_NoExit ?t_NoExit ?a_cNoPlace ?x_NoPlace ?k_NoPlace ?b_NoPlace ?t_NoPlace ?a_cNoMarble ?x_NoMarble ?k_NoMarble ?b_NoMarble ?t_NoMarble ?a_cTooMany ?x_TooMany ?k_TooMany ?b_TooMany ?t_TooMany ?a_cNotOpen ?x_NotOpen ?k_NotOpen ?b_NotOpen ?t_NotOpen ?a_cTooLong ?x_TooLong ?k_TooLong ?b_TooLong ?t_TooLong ?a_cNotBare ?x_NotBare ?k_NotBare ?b_NotBare ?t_NotBare ?a_cNotTree ?x_NotTree ?k_NotTree ?b_NotTree ?t_NotTree ?a_cNoBoard ?x_NoBoard ?k_NoBoard ?b_NoBoard ?t_NoBoard ?a_cBoardError ?x_BoardError ?k_BoardError ?b_BoardError ?t_BoardError ?hd_BoardError ?e_NoSite_BoardError ?kt_NoPlace_ValueError ?kt_NoSite_ValueError ?kt_NoExit_ValueError ?kt_NoMarble_ValueError ?kt_TooMany_ValueError ?kt_NotOpen_ValueError ?kt_NotBare_ValueError ?kt_NotTree_ValueError ?kt_TooLong_ValueError ?kt_NoBoard_ValueError ?ki_NoPlace_NoPlace ?ki_NoPlace_NoSite ?ki_NoPlace_NoExit ?ki_NoPlace_NoMarble ?ki_NoPlace_TooMany ?ki_NoPlace_NotOpen ?ki_NoPlace_NotBare ?ki_NoPlace_NotTree ?ki_NoPlace_TooLong ?ki_NoPlace_NoBoard ?ki_NoSite_NoPlace ?ki_NoSite_NoSite ?ki_NoSite_NoExit ?ki_NoSite_NoMarble ?ki_NoSite_TooMany ?ki_NoSite_NotOpen ?ki_NoSite_NotBare ?ki_NoSite_NotTree ?ki_NoSite_TooLong ?ki_NoSite_NoBoard ?ki_NoExit_NoPlace ?ki_NoExit_NoSite ?ki_NoExit_NoExit ?ki_NoExit_NoMarble ?ki_NoExit_TooMany ?ki_NoExit_NotOpen ?ki_NoExit_NotBare ?ki_NoExit_NotTree ?ki_NoExit_TooLong ?ki_NoExit_NoBoard ?ki_NoMarble_NoPlace ?ki_NoMarble_NoSite ?ki_NoMarble_NoExit ?ki_NoMarble_NoMarble ?ki_NoMarble_TooMany ?ki_NoMarble_NotOpen ?ki_NoMarble_NotBare ?ki_NoMarble_NotTree ?ki_NoMarble_TooLong ?ki_NoMarble_NoBoard ?ki_TooMany_NoPlace ?ki_TooMany_NoSite ?ki_TooMany_NoExit ?ki_TooMany_NoMarble ?ki_TooMany_TooMany ?ki_TooMany_NotOpen ?ki_TooMany_NotBare ?ki_TooMany_NotTree ?ki_TooMany_TooLong ?ki_TooMany_NoBoard ?ki_NotOpen_NoPlace ?ki_NotOpen_NoSite ?ki_NotOpen_NoExit ?ki_NotOpen_NoMarble ?ki_NotOpen_TooMany ?ki_NotOpen_NotOpen ?ki_NotOpen_NotBare ?ki_NotOpen_NotTree ?ki_NotOpen_TooLong ?ki_NotOpen_NoBoard ?ki_NotBare_NoPlace ?ki_NotBare_NoSite ?ki_NotBare_NoExit ?ki_NotBare_NoMarble ?ki_NotBare_TooMany ?ki_NotBare_NotOpen ?ki_NotBare_NotBare ?ki_NotBare_NotTree ?ki_NotBare_TooLong ?ki_NotBare_NoBoard ?ki_NotTree_NoPlace ?ki_NotTree_NoSite ?ki_NotTree_NoExit ?ki_NotTree_NoMarble ?ki_NotTree_TooMany ?ki_NotTree_NotOpen ?ki_NotTree_NotBare ?ki_NotTree_NotTree ?ki_NotTree_TooLong ?ki_NotTree_NoBoard ?ki_TooLong_NoPlace ?ki_TooLong_NoSite ?ki_TooLong_NoExit ?ki_TooLong_NoMarble ?ki_TooLong_TooMany ?ki_TooLong_NotOpen ?ki_TooLong_NotBare ?ki_TooLong_NotTree ?ki_TooLong_TooLong ?ki_TooLong_NoBoard ?ki_NoBoard_NoPlace ?ki_NoBoard_NoSite ?ki_NoBoard_NoExit ?ki_NoBoard_NoMarble ?ki_NoBoard_TooMany ?ki_NoBoard_NotOpen ?ki_NoBoard_NotBare ?ki_NoBoard_NotTree ?ki_NoBoard_TooLong ?ki_NoBoard_NoBoard ?echg_NoPlace ?echk_NoPlace ?echs_NoPlace ?echd_NoPlace ?echa_NoPlace ?echn_NoPlace ?echt_NoPlace ?echm_NoPlace ?echg_NoSite ?echk_NoSite ?echs_NoSite ?echd_NoSite ?echa_NoSite ?echn_NoSite ?echt_NoSite ?echm_NoSite ?echg_NoExit ?echk_NoExit ?echs_NoExit ?echd_NoExit ?echa_NoExit ?echn_NoExit ?echt_NoExit ?echm_NoExit ?echg_NoMarble ?echk_NoMarble ?echs_NoMarble ?echd_NoMarble ?echa_NoMarble ?echn_NoMarble ?echt_NoMarble ?echm_NoMarble ?echg_TooMany ?echk_TooMany ?echs_TooMany ?echd_TooMany ?echa_TooMany ?echn_TooMany ?echt_TooMany ?echm_TooMany ?echg_NotOpen ?echk_NotOpen ?echs_NotOpen ?echd_NotOpen ?echa_NotOpen ?echn_NotOpen ?echt_NotOpen ?echm_NotOpen ?echg_NotBare ?echk_NotBare ?echs_NotBare ?echd_NotBare ?echa_NotBare ?echn_NotBare ?echt_NotBare ?echm_NotBare ?echg_NotTree ?echk_NotTree ?echs_NotTree ?echd_NotTree ?echa_NotTree ?echn_NotTree ?echt_NotTree ?echm_NotTree ?echg_TooLong ?echk_TooLong ?echs_TooLong ?echd_TooLong ?echa_TooLong ?echn_TooLong ?echt_TooLong ?echm_TooLong ?echg_NoBoard ?echk_NoBoard ?echs_NoBoard ?echd_NoBoard ?echa_NoBoard ?echn_NoBoard ?echt_NoBoard ?echm_NoBoard ?e_NoPlace_BoardError ?e_NoExit_BoardError ?e_NoMarble_BoardError ?e_TooMany_BoardError ?e_NotOpen_BoardError ?e_NotBare_BoardError ?e_NotTree_BoardError ?e_TooLong_BoardError ?e_NoBoard_BoardError
    (case a_cBoard => k_is)
    (case a_drawn => k_is)
    (case l_drawn => k_is)
    (case c_drawn => k_is)
    (case k_drawn => k_is)
    (case a_checked => k_is)
    (case l_checked => k_is)
    (case c_checked => k_is)
    (case k_checked => k_is)
    (case a_Board_init => k_is)
    (case i_Board_init => k_is)
    (case l_Board_init => k_is)
    (case c_Board_init => k_is)
    (case k_Board_init => k_is)
    (case a_Board_has_site => k_is)
    (case i_Board_has_site => k_is)
    (case l_Board_has_site => k_is)
    (case c_Board_has_site => k_is)
    (case k_Board_has_site => k_is)
    (case a_Board_turn_to => k_is)
    (case i_Board_turn_to => k_is)
    (case l_Board_turn_to => k_is)
    (case c_Board_turn_to => k_is)
    (case k_Board_turn_to => k_is)
    (case a_step => k_is)
    (case l_step => k_is)
    (case c_step => k_is)
    (case k_step => k_is)
    (case a_Board_load => k_is)
    (case i_Board_load => k_is)
    (case l_Board_load => k_is)
    (case c_Board_load => k_is)
    (case k_Board_load => k_is)
    (case a_reached => k_is)
    (case l_reached => k_is)
    (case c_reached => k_is)
    (case k_reached => k_is)
    (case a_is_open => k_is)
    (case l_is_open => k_is)
    (case c_is_open => k_is)
    (case k_is_open => k_is)
    (case a_Board_become => k_is)
    (case i_Board_become => k_is)
    (case l_Board_become => k_is)
    (case c_Board_become => k_is)
    (case k_Board_become => k_is)
    (case a_Board_twin => k_is)
    (case i_Board_twin => k_is)
    (case l_Board_twin => k_is)
    (case c_Board_twin => k_is)
    (case k_Board_twin => k_is)
    (case a_first_laden => k_is)
    (case l_first_laden => k_is)
    (case c_first_laden => k_is)
    (case k_first_laden => k_is)
    (case a_run => k_is)
    (case l_run => k_is)
    (case c_run => k_is)
    (case k_run => k_is)
    (case a_last_exit => k_is)
    (case l_last_exit => k_is)
    (case c_last_exit => k_is)
    (case k_last_exit => k_is)
    (case a_is_tree => k_is)
    (case l_is_tree => k_is)
    (case c_is_tree => k_is)
    (case k_is_tree => k_is)
    (case a_before => k_is)
    (case l_before => k_is)
    (case c_before => k_is)
    (case k_before => k_is)
    (case a_run_back => k_is)
    (case l_run_back => k_is)
    (case c_run_back => k_is)
    (case k_run_back => k_is)
    (case a_number_of => k_is)
    (case l_number_of => k_is)
    (case c_number_of => k_is)
    (case k_number_of => k_is)
    (case a_exit_of => k_is)
    (case l_exit_of => k_is)
    (case c_exit_of => k_is)
    (case k_exit_of => k_is)
    (case a_site_of_k28 => k_is)
    (case l_site_of_k28 => k_is)
    (case c_site_of_k28 => k_is)
    (case k_site_of_k28 => k_is)
    (case a_read_k28 => k_is)
    (case l_read_k28 => k_is)
    (case c_read_k28 => k_is)
    (case k_read_k28 => k_is)
    (case a_deed_k28 => k_is)
    (case l_deed_k28 => k_is)
    (case c_deed_k28 => k_is)
    (case k_deed_k28 => k_is)
    (case a_marks_k28 => k_is)
    (case l_marks_k28 => k_is)
    (case c_marks_k28 => k_is)
    (case k_marks_k28 => k_is)
    (case a_law_k28 => k_is)
    (case l_law_k28 => k_is)
    (case c_law_k28 => k_is)
    (case k_law_k28 => k_is)
    (case pg_Board => k_is)
    (case hd_Board => k_is)
    (case po_Board => k_is)
    (case sa_Board => k_is)
    (case mk_Board => k_is)
    (case kc_Board => k_is)
    (case na_rows => k_is)
    (case na_turns => k_is)
    (case na_loads => k_is)
    (case na_steps => k_is)
    (case na_taken => k_is)
    (case gi_MOST_SITES => k_is)
    (case gi_MOST_EXITS => k_is)
    (case gi_PIT => k_is)
    (case gi_MOST_MARBLES => k_is)
    (case gi_MOST_FIGURES => k_is)
    (case gi_FIGURES => k_is)
    (case n_len => k_is)
    (case n_list => k_is)
    (case n_sum => k_is)
    (case n_range => k_is)
    (case n_all => k_is)
    (case n_int => k_is)
    (case n_str => k_is)
    (case n_isinstance => k_is)
    (case n_ValueError => k_is)
    (case a_cNoSite => k_is)
    (case x_NoSite => k_exc)
    (case k_NoSite => k_is)
    (case b_NoSite => k_is)
    (case t_NoSite => k_is)
    (case a_cNoExit => k_is)
    (case x_NoExit => k_exc)
    (case k_NoExit => k_is)
    (case b_NoExit => k_is)
    (case t_NoExit => k_is)
    (case a_cNoPlace => k_is)
    (case x_NoPlace => k_exc)
    (case k_NoPlace => k_is)
    (case b_NoPlace => k_is)
    (case t_NoPlace => k_is)
    (case a_cNoMarble => k_is)
    (case x_NoMarble => k_exc)
    (case k_NoMarble => k_is)
    (case b_NoMarble => k_is)
    (case t_NoMarble => k_is)
    (case a_cTooMany => k_is)
    (case x_TooMany => k_exc)
    (case k_TooMany => k_is)
    (case b_TooMany => k_is)
    (case t_TooMany => k_is)
    (case a_cNotOpen => k_is)
    (case x_NotOpen => k_exc)
    (case k_NotOpen => k_is)
    (case b_NotOpen => k_is)
    (case t_NotOpen => k_is)
    (case a_cTooLong => k_is)
    (case x_TooLong => k_exc)
    (case k_TooLong => k_is)
    (case b_TooLong => k_is)
    (case t_TooLong => k_is)
    (case a_cNotBare => k_is)
    (case x_NotBare => k_exc)
    (case k_NotBare => k_is)
    (case b_NotBare => k_is)
    (case t_NotBare => k_is)
    (case a_cNotTree => k_is)
    (case x_NotTree => k_exc)
    (case k_NotTree => k_is)
    (case b_NotTree => k_is)
    (case t_NotTree => k_is)
    (case a_cNoBoard => k_is)
    (case x_NoBoard => k_exc)
    (case k_NoBoard => k_is)
    (case b_NoBoard => k_is)
    (case t_NoBoard => k_is)
    (case a_cBoardError => k_is)
    (case x_BoardError => k_exc)
    (case k_BoardError => k_is)
    (case b_BoardError => k_is)
    (case t_BoardError => k_is)
    (case hd_BoardError => k_is)
    (case e_NoSite_BoardError => (first | rfl | k_is))
    (case kt_NoPlace_ValueError => (first | rfl | k_is))
    (case kt_NoSite_ValueError => (first | rfl | k_is))
    (case kt_NoExit_ValueError => (first | rfl | k_is))
    (case kt_NoMarble_ValueError => (first | rfl | k_is))
    (case kt_TooMany_ValueError => (first | rfl | k_is))
    (case kt_NotOpen_ValueError => (first | rfl | k_is))
    (case kt_NotBare_ValueError => (first | rfl | k_is))
    (case kt_NotTree_ValueError => (first | rfl | k_is))
    (case kt_TooLong_ValueError => (first | rfl | k_is))
    (case kt_NoBoard_ValueError => (first | rfl | k_is))
    (case ki_NoPlace_NoPlace => (first | rfl | k_is))
    (case ki_NoPlace_NoSite => (first | rfl | k_is))
    (case ki_NoPlace_NoExit => (first | rfl | k_is))
    (case ki_NoPlace_NoMarble => (first | rfl | k_is))
    (case ki_NoPlace_TooMany => (first | rfl | k_is))
    (case ki_NoPlace_NotOpen => (first | rfl | k_is))
    (case ki_NoPlace_NotBare => (first | rfl | k_is))
    (case ki_NoPlace_NotTree => (first | rfl | k_is))
    (case ki_NoPlace_TooLong => (first | rfl | k_is))
    (case ki_NoPlace_NoBoard => (first | rfl | k_is))
    (case ki_NoSite_NoPlace => (first | rfl | k_is))
    (case ki_NoSite_NoSite => (first | rfl | k_is))
    (case ki_NoSite_NoExit => (first | rfl | k_is))
    (case ki_NoSite_NoMarble => (first | rfl | k_is))
    (case ki_NoSite_TooMany => (first | rfl | k_is))
    (case ki_NoSite_NotOpen => (first | rfl | k_is))
    (case ki_NoSite_NotBare => (first | rfl | k_is))
    (case ki_NoSite_NotTree => (first | rfl | k_is))
    (case ki_NoSite_TooLong => (first | rfl | k_is))
    (case ki_NoSite_NoBoard => (first | rfl | k_is))
    (case ki_NoExit_NoPlace => (first | rfl | k_is))
    (case ki_NoExit_NoSite => (first | rfl | k_is))
    (case ki_NoExit_NoExit => (first | rfl | k_is))
    (case ki_NoExit_NoMarble => (first | rfl | k_is))
    (case ki_NoExit_TooMany => (first | rfl | k_is))
    (case ki_NoExit_NotOpen => (first | rfl | k_is))
    (case ki_NoExit_NotBare => (first | rfl | k_is))
    (case ki_NoExit_NotTree => (first | rfl | k_is))
    (case ki_NoExit_TooLong => (first | rfl | k_is))
    (case ki_NoExit_NoBoard => (first | rfl | k_is))
    (case ki_NoMarble_NoPlace => (first | rfl | k_is))
    (case ki_NoMarble_NoSite => (first | rfl | k_is))
    (case ki_NoMarble_NoExit => (first | rfl | k_is))
    (case ki_NoMarble_NoMarble => (first | rfl | k_is))
    (case ki_NoMarble_TooMany => (first | rfl | k_is))
    (case ki_NoMarble_NotOpen => (first | rfl | k_is))
    (case ki_NoMarble_NotBare => (first | rfl | k_is))
    (case ki_NoMarble_NotTree => (first | rfl | k_is))
    (case ki_NoMarble_TooLong => (first | rfl | k_is))
    (case ki_NoMarble_NoBoard => (first | rfl | k_is))
    (case ki_TooMany_NoPlace => (first | rfl | k_is))
    (case ki_TooMany_NoSite => (first | rfl | k_is))
    (case ki_TooMany_NoExit => (first | rfl | k_is))
    (case ki_TooMany_NoMarble => (first | rfl | k_is))
    (case ki_TooMany_TooMany => (first | rfl | k_is))
    (case ki_TooMany_NotOpen => (first | rfl | k_is))
    (case ki_TooMany_NotBare => (first | rfl | k_is))
    (case ki_TooMany_NotTree => (first | rfl | k_is))
    (case ki_TooMany_TooLong => (first | rfl | k_is))
    (case ki_TooMany_NoBoard => (first | rfl | k_is))
    (case ki_NotOpen_NoPlace => (first | rfl | k_is))
    (case ki_NotOpen_NoSite => (first | rfl | k_is))
    (case ki_NotOpen_NoExit => (first | rfl | k_is))
    (case ki_NotOpen_NoMarble => (first | rfl | k_is))
    (case ki_NotOpen_TooMany => (first | rfl | k_is))
    (case ki_NotOpen_NotOpen => (first | rfl | k_is))
    (case ki_NotOpen_NotBare => (first | rfl | k_is))
    (case ki_NotOpen_NotTree => (first | rfl | k_is))
    (case ki_NotOpen_TooLong => (first | rfl | k_is))
    (case ki_NotOpen_NoBoard => (first | rfl | k_is))
    (case ki_NotBare_NoPlace => (first | rfl | k_is))
    (case ki_NotBare_NoSite => (first | rfl | k_is))
    (case ki_NotBare_NoExit => (first | rfl | k_is))
    (case ki_NotBare_NoMarble => (first | rfl | k_is))
    (case ki_NotBare_TooMany => (first | rfl | k_is))
    (case ki_NotBare_NotOpen => (first | rfl | k_is))
    (case ki_NotBare_NotBare => (first | rfl | k_is))
    (case ki_NotBare_NotTree => (first | rfl | k_is))
    (case ki_NotBare_TooLong => (first | rfl | k_is))
    (case ki_NotBare_NoBoard => (first | rfl | k_is))
    (case ki_NotTree_NoPlace => (first | rfl | k_is))
    (case ki_NotTree_NoSite => (first | rfl | k_is))
    (case ki_NotTree_NoExit => (first | rfl | k_is))
    (case ki_NotTree_NoMarble => (first | rfl | k_is))
    (case ki_NotTree_TooMany => (first | rfl | k_is))
    (case ki_NotTree_NotOpen => (first | rfl | k_is))
    (case ki_NotTree_NotBare => (first | rfl | k_is))
    (case ki_NotTree_NotTree => (first | rfl | k_is))
    (case ki_NotTree_TooLong => (first | rfl | k_is))
    (case ki_NotTree_NoBoard => (first | rfl | k_is))
    (case ki_TooLong_NoPlace => (first | rfl | k_is))
    (case ki_TooLong_NoSite => (first | rfl | k_is))
    (case ki_TooLong_NoExit => (first | rfl | k_is))
    (case ki_TooLong_NoMarble => (first | rfl | k_is))
    (case ki_TooLong_TooMany => (first | rfl | k_is))
    (case ki_TooLong_NotOpen => (first | rfl | k_is))
    (case ki_TooLong_NotBare => (first | rfl | k_is))
    (case ki_TooLong_NotTree => (first | rfl | k_is))
    (case ki_TooLong_TooLong => (first | rfl | k_is))
    (case ki_TooLong_NoBoard => (first | rfl | k_is))
    (case ki_NoBoard_NoPlace => (first | rfl | k_is))
    (case ki_NoBoard_NoSite => (first | rfl | k_is))
    (case ki_NoBoard_NoExit => (first | rfl | k_is))
    (case ki_NoBoard_NoMarble => (first | rfl | k_is))
    (case ki_NoBoard_TooMany => (first | rfl | k_is))
    (case ki_NoBoard_NotOpen => (first | rfl | k_is))
    (case ki_NoBoard_NotBare => (first | rfl | k_is))
    (case ki_NoBoard_NotTree => (first | rfl | k_is))
    (case ki_NoBoard_TooLong => (first | rfl | k_is))
    (case ki_NoBoard_NoBoard => (first | rfl | k_is))
    (case echg_NoPlace => k_is)
    (case echk_NoPlace => k_is)
    (case echs_NoPlace => k_is)
    (case echd_NoPlace => k_is)
    (case echa_NoPlace => k_is)
    (case echn_NoPlace => k_is)
    (case echt_NoPlace => k_is)
    (case echm_NoPlace => k_is)
    (case echg_NoSite => k_is)
    (case echk_NoSite => k_is)
    (case echs_NoSite => k_is)
    (case echd_NoSite => k_is)
    (case echa_NoSite => k_is)
    (case echn_NoSite => k_is)
    (case echt_NoSite => k_is)
    (case echm_NoSite => k_is)
    (case echg_NoExit => k_is)
    (case echk_NoExit => k_is)
    (case echs_NoExit => k_is)
    (case echd_NoExit => k_is)
    (case echa_NoExit => k_is)
    (case echn_NoExit => k_is)
    (case echt_NoExit => k_is)
    (case echm_NoExit => k_is)
    (case echg_NoMarble => k_is)
    (case echk_NoMarble => k_is)
    (case echs_NoMarble => k_is)
    (case echd_NoMarble => k_is)
    (case echa_NoMarble => k_is)
    (case echn_NoMarble => k_is)
    (case echt_NoMarble => k_is)
    (case echm_NoMarble => k_is)
    (case echg_TooMany => k_is)
    (case echk_TooMany => k_is)
    (case echs_TooMany => k_is)
    (case echd_TooMany => k_is)
    (case echa_TooMany => k_is)
    (case echn_TooMany => k_is)
    (case echt_TooMany => k_is)
    (case echm_TooMany => k_is)
    (case echg_NotOpen => k_is)
    (case echk_NotOpen => k_is)
    (case echs_NotOpen => k_is)
    (case echd_NotOpen => k_is)
    (case echa_NotOpen => k_is)
    (case echn_NotOpen => k_is)
    (case echt_NotOpen => k_is)
    (case echm_NotOpen => k_is)
    (case echg_NotBare => k_is)
    (case echk_NotBare => k_is)
    (case echs_NotBare => k_is)
    (case echd_NotBare => k_is)
    (case echa_NotBare => k_is)
    (case echn_NotBare => k_is)
    (case echt_NotBare => k_is)
    (case echm_NotBare => k_is)
    (case echg_NotTree => k_is)
    (case echk_NotTree => k_is)
    (case echs_NotTree => k_is)
    (case echd_NotTree => k_is)
    (case echa_NotTree => k_is)
    (case echn_NotTree => k_is)
    (case echt_NotTree => k_is)
    (case echm_NotTree => k_is)
    (case echg_TooLong => k_is)
    (case echk_TooLong => k_is)
    (case echs_TooLong => k_is)
    (case echd_TooLong => k_is)
    (case echa_TooLong => k_is)
    (case echn_TooLong => k_is)
    (case echt_TooLong => k_is)
    (case echm_TooLong => k_is)
    (case echg_NoBoard => k_is)
    (case echk_NoBoard => k_is)
    (case echs_NoBoard => k_is)
    (case echd_NoBoard => k_is)
    (case echa_NoBoard => k_is)
    (case echn_NoBoard => k_is)
    (case echt_NoBoard => k_is)
    (case echm_NoBoard => k_is)
    (case e_NoPlace_BoardError => (first | rfl | k_is))
    (case e_NoExit_BoardError => (first | rfl | k_is))
    (case e_NoMarble_BoardError => (first | rfl | k_is))
    (case e_TooMany_BoardError => (first | rfl | k_is))
    (case e_NotOpen_BoardError => (first | rfl | k_is))
    (case e_NotBare_BoardError => (first | rfl | k_is))
    (case e_NotTree_BoardError => (first | rfl | k_is))
    (case e_TooLong_BoardError => (first | rfl | k_is))
    (case e_NoBoard_BoardError => (first | rfl | k_is))
