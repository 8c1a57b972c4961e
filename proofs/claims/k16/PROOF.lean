import PyProof.Rows.All
import Wide.All
import OpenK.AllK
import Wide.FinOn
import HandS.ForMost
import HandS.ForExc
import HandS.More
import HandS.Steps
import HandS.TryMany
import HandS.IsInst
import HandS.ExcIs
import HandS.SetFor
import HandS.Rev
import HandS.Wide
import HandS.Style
import HandS.Text
import HandS.Hot
import HandS.HotCalls
import HandS.SuiteRaise
import PySem.Challenge.RW_marblerun_k16_determinants_made
set_option Elab.async false
set_option linter.all false
set_option maxRecDepth 100000
set_option maxHeartbeats 4000000
namespace Mb
open PySem L2
/-! Base: the ledger, short readings, rules for try bodies, the tactic words -/

/-- the addresses of the program's classes -/
structure Ads where
  Board : Addr
  BoardError : Addr
  NoSite : Addr
  NoExit : Addr
  NoPlace : Addr
  NoMarble : Addr
  TooMany : Addr
  NotOpen : Addr
  NotBare : Addr
  NotTree : Addr
  TooLong : Addr
  NoBoard : Addr

/-! ### names for the operators' readings -/
abbrev mAdd : R2 := rI0 fun i j => .int (i + j)
abbrev mSub : R2 := rI0 fun i j => .int (i - j)
abbrev mMul : R2 := rI CMul fun i j => .int (i * j)
abbrev mMod : R2 := rI (fun _ j => 0 < j) fun i j => .int (i % j)
abbrev mFdiv : R2 := rI CDiv fun i j => .int (i / j)
abbrev mPow : R2 := rI CPow fun i j => .int (i ^ j.toNat)
abbrev mLt : R2 := rI0 fun i j => .bl (decide (i < j))
abbrev mLe : R2 := rI0 fun i j => .bl (decide (i ≤ j))
abbrev mGt : R2 := rI0 fun i j => .bl (decide (j < i))
abbrev mGe : R2 := rI0 fun i j => .bl (decide (j ≤ i))
abbrev mNeg : V → Hp → VK → Prop := rU fun i => .int (-i)
def mLen (K : PySem.W.Frag) : List V → Hp → VK → Prop := fun xs H Q => ∃ p ys, xs = [.ref p] ∧ (SqL K H p ys ∨ SqT K H p ys) ∧ Q (.int ys.length) H
def mList (K : PySem.W.Frag) : List V → Hp → VK → Prop := fun xs H Q => ∃ p ys, xs = [.ref p] ∧ (SqL K H p ys ∨ SqT K H p ys) ∧ ∀ l, H l = none → Q (.ref l) (upd H l (.lst ys))
def mMax2 : List V → Hp → VK → Prop := fun xs H Q => ∃ i j, xs = [.int i, .int j] ∧ Q (.int (if j > i then j else i)) H
def mAbs : List V → Hp → VK → Prop := fun xs H Q => ∃ i, xs = [.int i] ∧ Q (.int (if i < 0 then -i else i)) H
def mStr : List V → Hp → VK → Prop := fun xs H Q => ∃ i, xs = [.int i] ∧ i.natAbs.log2 < 1920 ∧ Q (.str (toString i)) H
def mInt : List V → Hp → VK → Prop := fun xs H Q => (∃ i, xs = [.int i] ∧ Q (.int i) H) ∨ ∃ k, xs = [.bl k] ∧ Q (.int (if k then 1 else 0)) H
def mLenS : List V → Hp → VK → Prop := fun xs H Q => ∃ z, xs = [.str z] ∧ z.length ≤ sizeLine ∧ Q (.int z.length) H
def rInsert : V → List V → Hp → VK → Prop := fun x vs H Q => ∃ (l : Addr) (xs : List V) (i : Int) (y : V), x = .ref l ∧ vs = [.int i, y] ∧ H l = some (.lst xs) ∧ xs.length < sizeLine ∧ 0 ≤ i ∧ i < 2 ^ 63 ∧
  Q .non (upd H l (.lst (xs.take i.toNat ++ [y] ++ xs.drop i.toNat)))
def tRaise (E : XK) (C : Addr) : TS := fun _ _ H => E (.ref C) none H
def tTry1 (K : PySem.W.Frag) (c : Value) (tb : WX → TS) (ts : Addr → Value → Option Addr → TS) (Wout : WX) : TS := fun D σ H => tb (wOnly K c ts Wout D) D σ H
def tTryN (K : PySem.W.Frag) (tb : WX → TS) (l : List (Value × (Addr → Value → Option Addr → TS))) (Wout : WX) : TS := fun D σ H => tb (wMany K Wout D l) D σ H
def tTryAs (K : PySem.W.Frag) (c : Value) (i : Nat) (tb : WX → TS) (ts : Addr → Value → Option Addr → TS) (Wout : WX) : TS := fun D σ H => tb (wAs K c i ts Wout D) D σ H
def tMethT (C : Addr) (m : Str) (sp : Sp) (E : L2.St → XK) (ta : TE) (t : TA) : TE := fun σ H Q => ta σ H fun x H1 => ∃ a dx fs, x = .ref a ∧ H1 a = some (.ins C dx fs) ∧ fs.lookup m = none ∧
  t σ H1 fun vs H2 => sp (x :: vs) H2 Q (E σ)
def tMakeT (C : Addr) (sp : Sp) (E : L2.St → XK) (t : TA) : TE := fun σ H Q => t σ H fun vs H1 => ∀ x dx, H1 x = none → H1 dx = none → dx ≠ x →
  sp (.ref x :: vs) (upd (upd H1 dx (.own x)) x (.ins C dx [])) (fun v H2 => v = .non ∧ Q (.ref x) H2) (E σ)

theorem bt_len : bootBuiltins "len" = some (.builtin "len") := PySem.boot_len
theorem bt_list : bootBuiltins "list" = some (.type "list") := by decide +kernel
theorem bt_sum : bootBuiltins "sum" = some (.builtin "sum") := by decide +kernel
theorem bt_max : bootBuiltins "max" = some (.builtin "max") := by decide +kernel
theorem bt_min : bootBuiltins "min" = some (.builtin "min") := by decide +kernel
theorem bt_all : bootBuiltins "all" = some (.builtin "all") := by decide +kernel
theorem bt_any : bootBuiltins "any" = some (.builtin "any") := by decide +kernel
theorem bt_abs : bootBuiltins "abs" = some (.builtin "abs") := by decide +kernel
theorem bt_str : bootBuiltins "str" = some (.type "str") := by decide +kernel
theorem bt_int : bootBuiltins "int" = some (.type "int") := by decide +kernel
theorem bt_bool : bootBuiltins "bool" = some (.type "bool") := by decide +kernel
theorem bt_tuple : bootBuiltins "tuple" = some (.type "tuple") := by decide +kernel
theorem bt_isinstance : bootBuiltins "isinstance" = some (.builtin "isinstance") := by decide +kernel
theorem bt_ValueError : bootBuiltins "ValueError" = some (.type "ValueError") := by decide +kernel

/-! ### the ledger: what is frozen (B), what may change (L) -/
structure Led (B : Hp) (L : List (Addr × HO)) (H : Hp) : Prop where
  same : Same B H
  at_ : ∀ (i : Nat) (p : Addr) (o : HO), L[i]? = some (p, o) → H p = some o
  nd : (L.map Prod.fst).Nodup
  new : ∀ p, p ∈ L.map Prod.fst → B p = none

theorem Led.nil (H : Hp) : Led H [] H := ⟨Same.refl H, fun i p o h => by simp at h, by simp, fun p h => by simp at h⟩
theorem Led.get {B : Hp} {L : List (Addr × HO)} {H : Hp} (h : Led B L H) (i : Nat) {p : Addr} {o : HO} (e : L[i]? = some (p, o)) : H p = some o := h.at_ i p o e
theorem Led.mem {B : Hp} {L : List (Addr × HO)} {H : Hp} (h : Led B L H) {p : Addr} {o : HO} (e : (p, o) ∈ L) : H p = some o := by
  obtain ⟨i, hi, q⟩ := List.getElem_of_mem e
  exact h.at_ i p o (by rw [List.getElem?_eq_getElem hi, q])
theorem Led.keys {B : Hp} {L : List (Addr × HO)} {H : Hp} (h : Led B L H) {p : Addr} (e : p ∈ L.map Prod.fst) : ∃ o, H p = some o := by
  obtain ⟨⟨q, o⟩, hm, rfl⟩ := List.mem_map.mp e
  exact ⟨o, h.mem hm⟩
theorem Led.out {B : Hp} {L : List (Addr × HO)} {H : Hp} (h : Led B L H) {p : Addr} (e : H p = none) : p ∉ L.map Prod.fst := fun m => by
  obtain ⟨o, q⟩ := h.keys m
  rw [e] at q
  cases q
theorem key_at {L : List (Addr × HO)} {i : Nat} {p : Addr} {o : HO} (e : L[i]? = some (p, o)) : p ∈ L.map Prod.fst := List.mem_map.mpr ⟨(p, o), List.mem_of_getElem? e, rfl⟩
theorem Led.base {B : Hp} {L : List (Addr × HO)} {H : Hp} (h : Led B L H) {K : PySem.W.Frag} {a : Addr} {xs : List V} (s : SqL K B a xs) : SqL K H a xs := h.same.seq s
theorem Led.sq {B : Hp} {L : List (Addr × HO)} {H : Hp} (h : Led B L H) (i : Nat) {K : PySem.W.Frag} {p : Addr} {xs : List V} (e : L[i]? = some (p, .lst xs)) : SqL K H p xs := SqL.of (h.get i e)
theorem Led.ext {B : Hp} {L : List (Addr × HO)} {H H' : Hp} (h : Led B L H) (s : Same H H') : Led B L H' :=
  ⟨h.same.trans s, fun i p o e => s _ _ (h.at_ i p o e), h.nd, h.new⟩
theorem map_set_fst {L : List (Addr × HO)} {i : Nat} {p : Addr} {o o' : HO} (e : L[i]? = some (p, o)) : (L.set i (p, o')).map Prod.fst = L.map Prod.fst := by
  apply List.ext_getElem?
  intro j
  rw [List.getElem?_map, List.getElem?_map]
  by_cases q : i = j
  · subst q
    have hl : i < L.length := (List.getElem?_eq_some_iff.mp e).1
    rw [List.getElem?_set_self hl, e]
    rfl
  · rw [List.getElem?_set_ne q]
theorem Led.set {B : Hp} {L : List (Addr × HO)} {H : Hp} (h : Led B L H) {i : Nat} {p : Addr} {o : HO} (e : L[i]? = some (p, o)) (o' : HO) : Led B (L.set i (p, o')) (upd H p o') := by
  have hm := map_set_fst (o' := o') e
  have hl : i < L.length := (List.getElem?_eq_some_iff.mp e).1
  refine ⟨fun b u q => ?_, fun j q u z => ?_, by rw [hm]; exact h.nd, fun q z => h.new q (by rw [← hm]; exact z)⟩
  · rw [upd_ne (ne_of_none q (h.new p (key_at e)))]
    exact h.same b u q
  · by_cases ij : i = j
    · subst ij
      rw [List.getElem?_set_self hl] at z
      cases z
      exact upd_same
    · rw [List.getElem?_set_ne ij] at z
      have np : q ≠ p := fun hq => by
        subst hq
        have e1 : (L.map Prod.fst)[j]? = some q := by rw [List.getElem?_map, z]; rfl
        have e2 : (L.map Prod.fst)[i]? = some q := by rw [List.getElem?_map, e]; rfl
        exact ij (nd_ix h.nd e2 e1)
      rw [upd_ne np]
      exact h.at_ j q u z
theorem Led.add {B : Hp} {L : List (Addr × HO)} {H H' : Hp} (h : Led B L H) {p : Addr} {o : HO} (s : Same H H') (n : H p = none) (e : H' p = some o) : Led B (L ++ [(p, o)]) H' := by
  have out := h.out n
  refine ⟨h.same.trans s, fun i q u z => ?_, ?_, fun q z => ?_⟩
  · by_cases hi : i < L.length
    · rw [List.getElem?_append_left hi] at z
      exact s _ _ (h.at_ i q u z)
    · rw [List.getElem?_append_right (by omega)] at z
      cases k : i - L.length with
      | zero =>
        rw [k] at z
        cases z
        exact e
      | succ m =>
        rw [k] at z
        simp at z
  · rw [List.map_append, List.nodup_append]
    refine ⟨h.nd, by simp, fun a ha b hb => ?_⟩
    simp at hb
    subst hb
    intro q
    subst q
    exact out ha
  · rw [List.map_append] at z
    rcases List.mem_append.mp z with z | z
    · exact h.new q z
    · simp at z
      subst z
      cases q2 : B q with
      | none => rfl
      | some u =>
        rw [h.same _ _ q2] at n
        cases n
theorem same_upd {H : Hp} {p : Addr} {o : HO} (n : H p = none) : Same H (upd H p o) := fun b u q => by
  rw [upd_ne (ne_of_none q n)]
  exact q
theorem Led.alloc {B : Hp} {L : List (Addr × HO)} {H : Hp} (h : Led B L H) {p : Addr} (n : H p = none) (o : HO) : Led B (L ++ [(p, o)]) (upd H p o) := h.add (same_upd n) n upd_same
/-- all but the ledger becomes the base -/
theorem Led.rebase {B : Hp} {L : List (Addr × HO)} {H : Hp} (h : Led B L H) : ∃ B', Same B B' ∧ Led B' L H ∧ ∀ p o, H p = some o → p ∉ L.map Prod.fst → B' p = some o := by
  classical
  refine ⟨fun a => if a ∈ L.map Prod.fst then none else H a, fun b u q => ?_, ⟨fun b u q => ?_, h.at_, h.nd, fun p z => if_pos z⟩, fun p o q z => ?_⟩
  · have z : b ∉ L.map Prod.fst := fun m => by
      rw [h.new b m] at q
      cases q
    show (if b ∈ L.map Prod.fst then none else H b) = some u
    rw [if_neg z]
    exact h.same b u q
  · by_cases z : b ∈ L.map Prod.fst
    · rw [show (if b ∈ L.map Prod.fst then none else H b) = none from if_pos z] at q
      cases q
    · rw [show (if b ∈ L.map Prod.fst then none else H b) = H b from if_neg z] at q
      exact q
  · show (if p ∈ L.map Prod.fst then none else H p) = some o
    rw [if_neg z]
    exact q
/-- objects forgotten -/
theorem Led.sub {B : Hp} {L L' : List (Addr × HO)} {H : Hp} (h : Led B L H) (s : L'.Sublist L) : Led B L' H :=
  ⟨h.same, fun i p o e => h.mem (s.subset (List.mem_of_getElem? e)), (s.map Prod.fst).nodup h.nd, fun p z => h.new p ((s.map Prod.fst).subset z)⟩

/-! ### lists of ints, of rows -/
abbrev ilst (ns : List Int) : HO := .lst (ns.map V.int)
abbrev blst (bs : List Bool) : HO := .lst (bs.map V.bl)
/-- rows stand at p in the frozen part -/
def RowsAt (B : Hp) (p : Addr) (rows : List (List Int)) : Prop := ∃ as : List Addr, B p = some (.lst (as.map V.ref)) ∧ as.length = rows.length ∧
  ∀ (i : Nat) (r : Addr) (row : List Int), as[i]? = some r → rows[i]? = some row → B r = some (ilst row)
theorem RowsAt.mono {B B' : Hp} {p : Addr} {rows : List (List Int)} (h : RowsAt B p rows) (s : Same B B') : RowsAt B' p rows := by
  obtain ⟨as, h1, h2, h3⟩ := h
  exact ⟨as, s _ _ h1, h2, fun i r row e1 e2 => s _ _ (h3 i r row e1 e2)⟩

theorem len_map_int (ns : List Int) : (ns.map V.int).length = ns.length := List.length_map _
theorem atI_int {ns : List Int} {i : Int} (h0 : 0 ≤ i) (h1 : i < ns.length) : atI (ns.map V.int) i = some (.int (ns.getD i.toNat 0)) := by
  have hl : i.toNat < ns.length := by omega
  refine at_of (j := i.toNat) (by omega) ?_
  rw [List.getElem?_map, List.getElem?_eq_getElem hl, List.getD_eq_getElem?_getD, List.getElem?_eq_getElem hl]
  rfl
theorem atI_bl {bs : List Bool} {i : Int} (h0 : 0 ≤ i) (h1 : i < bs.length) : atI (bs.map V.bl) i = some (.bl (bs.getD i.toNat false)) := by
  have hl : i.toNat < bs.length := by omega
  refine at_of (j := i.toNat) (by omega) ?_
  rw [List.getElem?_map, List.getElem?_eq_getElem hl, List.getD_eq_getElem?_getD, List.getElem?_eq_getElem hl]
  rfl

/-! ### steps of a reading -/
section
variable {K : PySem.W.Frag} {σ : L2.St} {H : Hp} {Q : VK} {D : Ends} {ta tb te : TE} {t u : TS} {tt tu : TT} {r : R2}
theorem g_seq (h : t { D with nx := u D } σ H) : tSeq t u D σ H := h
theorem g_asg {g : TG} (h : te σ H fun x H1 => g x σ H1 D.nx) : tAsg te g D σ H := h
theorem g_name {i : Nat} {v : V} {R : L2.St → Hp → Prop} (h : R (σ.set i (some v)) H) : gName i v σ H R := h
theorem g_var {i : Nat} {v : V} (e : σ[i]? = some (some v)) (h : Q v H) : tVar i σ H Q := ⟨v, e, h⟩
theorem g_c {v : V} (h : Q v H) : tC v σ H Q := h
theorem g_op (h : ta σ H fun x H1 => tb σ H1 fun y H2 => r x y H2 Q) : tOp r ta tb σ H Q := h
theorem g_un {r : V → Hp → VK → Prop} (h : ta σ H fun x H1 => r x H1 Q) : tUn r ta σ H Q := h
theorem g_I0 {g : Int → Int → V} {i j : Int} (h : Q (g i j) H) : rI0 g (.int i) (.int j) H Q := ⟨i, j, rfl, rfl, h⟩
theorem g_I {C : Int → Int → Prop} {g : Int → Int → V} {i j : Int} (c : C i j) (h : Q (g i j) H) : rI C g (.int i) (.int j) H Q := ⟨i, j, rfl, rfl, c, h⟩
theorem g_U {g : Int → V} {i : Int} (h : Q (g i) H) : rU g (.int i) H Q := ⟨i, rfl, h⟩
theorem g_mulL {i j : Int} (c : -(2 ^ 64) < i ∧ i < 2 ^ 64) (h : Q (.int (i * j)) H) : mMul (.int i) (.int j) H Q := ⟨i, j, rfl, rfl, .inl c, h⟩
theorem g_mulR {i j : Int} (c : -(2 ^ 64) < j ∧ j < 2 ^ 64) (h : Q (.int (i * j)) H) : mMul (.int i) (.int j) H Q := ⟨i, j, rfl, rfl, .inr c, h⟩
theorem g_eqI {i j : Int} (h : Q (.bl (decide (i = j))) H) : rEq (.int i) (.int j) H Q :=
  ⟨rfl, by rw [show decide (V.int i = V.int j) = decide (i = j) from decide_eq_decide.mpr ⟨fun e => V.int.inj e, fun e => e ▸ rfl⟩]; exact h⟩
theorem g_neI {i j : Int} (h : Q (.bl (!decide (i = j))) H) : rNe (.int i) (.int j) H Q :=
  ⟨rfl, by rw [show decide (V.int i = V.int j) = decide (i = j) from decide_eq_decide.mpr ⟨fun e => V.int.inj e, fun e => e ▸ rfl⟩]; exact h⟩
theorem g_eqB {i j : Bool} (h : Q (.bl (decide (i = j))) H) : rEq (.bl i) (.bl j) H Q :=
  ⟨rfl, by rw [show decide (V.bl i = V.bl j) = decide (i = j) from decide_eq_decide.mpr ⟨fun e => V.bl.inj e, fun e => e ▸ rfl⟩]; exact h⟩
theorem g_neB {i j : Bool} (h : Q (.bl (!decide (i = j))) H) : rNe (.bl i) (.bl j) H Q :=
  ⟨rfl, by rw [show decide (V.bl i = V.bl j) = decide (i = j) from decide_eq_decide.mpr ⟨fun e => V.bl.inj e, fun e => e ▸ rfl⟩]; exact h⟩
theorem g_eqS {i j : Str} (h : Q (.bl (decide (i = j))) H) : rEq (.str i) (.str j) H Q :=
  ⟨rfl, by rw [show decide (V.str i = V.str j) = decide (i = j) from decide_eq_decide.mpr ⟨fun e => V.str.inj e, fun e => e ▸ rfl⟩]; exact h⟩
theorem g_neS {i j : Str} (h : Q (.bl (!decide (i = j))) H) : rNe (.str i) (.str j) H Q :=
  ⟨rfl, by rw [show decide (V.str i = V.str j) = decide (i = j) from decide_eq_decide.mpr ⟨fun e => V.str.inj e, fun e => e ▸ rfl⟩]; exact h⟩
theorem g_tB {te : TE} {R : Bool → Hp → Prop} (h : te σ H fun x H1 => ∃ c, x = .bl c ∧ R c H1) : tB te σ H R := h
theorem g_tTest {te : TE} {R : Bool → Hp → Prop} (h : te σ H fun x H1 => ∃ c, x = .bl c ∧ R c H1) : tTest te σ H R := h
theorem g_bl {c : Bool} {R : Bool → Hp → Prop} (h : R c H) : ∃ k, V.bl c = .bl k ∧ R k H := ⟨c, rfl, h⟩
theorem g_and {R : Bool → Hp → Prop} (h : tt σ H fun c H1 => if c = true then tu σ H1 R else R false H1) : tAnd tt tu σ H R := h
theorem g_or {R : Bool → Hp → Prop} (h : tt σ H fun c H1 => if c = true then R true H1 else tu σ H1 R) : tOr tt tu σ H R := h
theorem g_not {R : Bool → Hp → Prop} (h : tt σ H fun c H1 => R (!c) H1) : tNot tt σ H R := h
theorem g_andV (h : ta σ H fun x H1 => ∃ c, x = .bl c ∧ if c = true then tb σ H1 Q else Q (.bl false) H1) : tAndV ta tb σ H Q := h
theorem g_orV (h : ta σ H fun x H1 => ∃ c, x = .bl c ∧ if c = true then Q (.bl true) H1 else tb σ H1 Q) : tOrV ta tb σ H Q := h
theorem g_notV (h : ta σ H fun x H1 => ∃ c, x = .bl c ∧ Q (.bl (!c)) H1) : tNotV ta σ H Q := h
theorem g_blV {c : Bool} {R : Bool → Prop} (h : R c) : ∃ k, V.bl c = .bl k ∧ R k := ⟨c, rfl, h⟩
theorem g_ifE (h : tt σ H fun c H1 => if c = true then ta σ H1 Q else tb σ H1 Q) : tIf tt ta tb σ H Q := h
theorem g_ifS (h : tt σ H fun c H1 => if c = true then t D σ H1 else u D σ H1) : tIfS tt t u D σ H := h
theorem g_next (h : D.nx σ H) : tNext D σ H := h
theorem g_ret (h : te σ H D.rt) : tRet te D σ H := h
theorem g_retN (h : D.rt .non H) : tRetN D σ H := h
theorem g_drop (h : te σ H fun _ H1 => D.nx σ H1) : tDrop te D σ H := h
theorem g_raise {E : XK} {C : Addr} (h : E (.ref C) none H) : tRaise E C D σ H := h
theorem g_nil {R : List V → Hp → Prop} (h : R [] H) : tNil σ H R := h
theorem g_cons {tr : TA} {R : List V → Hp → Prop} (h : te σ H fun x H1 => tr σ H1 fun xs H2 => R (x :: xs) H2) : tCons te tr σ H R := h
theorem g_cb {r : List V → Hp → VK → Prop} {ta : TA} (h : ta σ H fun vs H1 => r vs H1 Q) : tCB r ta σ H Q := h
theorem g_call {sp : Sp} {E : XK} {ta : TA} (h : ta σ H fun vs H1 => sp vs H1 Q E) : tCall sp [] E ta σ H Q := by
  show ta σ H fun vs H1 => sp (vs ++ []) H1 Q E
  have e : (fun (vs : List V) H1 => sp (vs ++ []) H1 Q E) = fun vs H1 => sp vs H1 Q E := by
    funext vs H1
    rw [List.append_nil]
  rw [e]
  exact h
theorem g_len {p : Addr} {xs : List V} (s : SqL K H p xs) (h : Q (.int xs.length) H) : mLen K [.ref p] H Q := ⟨p, xs, rfl, .inl s, h⟩
theorem g_lenI {p : Addr} {ns : List Int} (s : SqL K H p (ns.map V.int)) (h : Q (.int ns.length) H) : mLen K [.ref p] H Q := ⟨p, _, rfl, .inl s, by rw [List.length_map]; exact h⟩
theorem g_lenB {p : Addr} {ns : List Bool} (s : SqL K H p (ns.map V.bl)) (h : Q (.int ns.length) H) : mLen K [.ref p] H Q := ⟨p, _, rfl, .inl s, by rw [List.length_map]; exact h⟩
theorem g_ixI {p : Addr} {ns : List Int} {i : Int} (s : SqL K H p (ns.map V.int)) (h0 : 0 ≤ i) (h1 : i < ns.length) (h : Q (.int (ns.getD i.toNat 0)) H) : rIxL K (.ref p) (.int i) H Q :=
  ⟨p, _, i, _, rfl, rfl, s, atI_int h0 h1, h⟩
theorem g_ixB {p : Addr} {bs : List Bool} {i : Int} (s : SqL K H p (bs.map V.bl)) (h0 : 0 ≤ i) (h1 : i < bs.length) (h : Q (.bl (bs.getD i.toNat false)) H) : rIxL K (.ref p) (.int i) H Q :=
  ⟨p, _, i, _, rfl, rfl, s, atI_bl h0 h1, h⟩
theorem g_lst {ta : TA} (h : ta σ H fun xs H1 => xs.length ≤ sizeLine ∧ ∀ p, H1 p = none → Q (.ref p) (upd H1 p (.lst xs))) : tLst ta σ H Q := h
theorem g_sum {p : Addr} {ns : List Int} (s : SqL K H p (ns.map V.int)) (h : Q (.int ns.sum) H) : rSum K [.ref p] H Q := ⟨p, ns, rfl, s, h⟩
theorem g_fld {a C dx : Addr} {fs : List (Str × V)} {v : V} {f : Str} (e : H a = some (.ins C dx fs)) (c : Cls K C) (n : NoAttr K C f) (l : fs.lookup f = some v) (h : Q v H) :
    ∃ a' C' dx' fs' v', V.ref a = .ref a' ∧ H a' = some (.ins C' dx' fs') ∧ Cls K C' ∧ NoAttr K C' f ∧ fs'.lookup f = some v' ∧ Q v' H := ⟨a, C, dx, fs, v, rfl, e, c, n, l, h⟩
theorem g_tFld {f : Str} (h : ta σ H fun x H1 => ∃ a C dx fs v, x = .ref a ∧ H1 a = some (.ins C dx fs) ∧ Cls K C ∧ NoAttr K C f ∧ fs.lookup f = some v ∧ Q v H1) : tFld K ta f σ H Q := h
theorem g_mod {i j : Int} (c : 0 < j) (h : Q (.int (i % j)) H) : mMod (.int i) (.int j) H Q := ⟨i, j, rfl, rfl, c, h⟩
theorem g_fdiv {i j : Int} (c : 0 < j) (c2 : j < 1073741824) (h : Q (.int (i / j)) H) : mFdiv (.int i) (.int j) H Q := ⟨i, j, rfl, rfl, ⟨c, c2⟩, h⟩
theorem ifPt {p : Prop} [Decidable p] {A B : Prop} (hp : p) (h : A) : if decide p = true then A else B := by
  rw [if_pos (decide_eq_true hp)]
  exact h
theorem ifPf {p : Prop} [Decidable p] {A B : Prop} (hp : ¬ p) (h : B) : if decide p = true then A else B := by
  rw [if_neg (by simp [hp])]
  exact h
theorem ifNt {p : Prop} [Decidable p] {A B : Prop} (hp : ¬ p) (h : A) : if (!decide p) = true then A else B := by
  rw [if_pos (by simp [hp])]
  exact h
theorem ifNf {p : Prop} [Decidable p] {A B : Prop} (hp : p) (h : B) : if (!decide p) = true then A else B := by
  rw [if_neg (by simp [hp])]
  exact h
theorem ifP {p : Prop} [Decidable p] {A B : Prop} (h1 : p → A) (h2 : ¬ p → B) : if decide p = true then A else B := by
  by_cases h : p
  · rw [if_pos (decide_eq_true h)]
    exact h1 h
  · rw [if_neg (by simp [h])]
    exact h2 h
theorem ifN {p : Prop} [Decidable p] {A B : Prop} (h1 : ¬ p → A) (h2 : p → B) : if (!decide p) = true then A else B := by
  by_cases h : p
  · rw [if_neg (by simp [h])]
    exact h2 h
  · rw [if_pos (by simp [h])]
    exact h1 h
theorem ifC {c : Bool} {A B : Prop} (h1 : c = true → A) (h2 : c = false → B) : if c = true then A else B := by
  cases c with
  | true => exact iteT (h1 rfl)
  | false => exact iteF (h2 rfl)
end

/-! ### the class Board -/
structure BdOk (K : PySem.W.Frag) (G : Ads) : Prop where
  cl : Cls K G.Board
  n_rows : NoAttr K G.Board "rows"
  n_turns : NoAttr K G.Board "turns"
  n_loads : NoAttr K G.Board "loads"
  n_steps : NoAttr K G.Board "steps"
  n_taken : NoAttr K G.Board "taken"

/-! ### the law's own promise -/
def spLaw (K : PySem.W.Frag) : Sp := fun vs H Q _ => ∃ (a : Addr) (ns : List Int), vs = [.ref a] ∧ SqL K H a (ns.map V.int) ∧ ns.length ≤ 63 ∧ ∀ H', Q (.bl true) H'
theorem lenLaw {K : PySem.W.Frag} {vs H Q E} (h : spLaw K vs H Q E) : vs.length = 1 := by
  obtain ⟨a, ns, rfl, _⟩ := h
  rfl


/-! Rows, boards in the heap and in the ledger -/
/-- rows that came new -/
def NewRows (H H' : Hp) (q : Addr) (rows : List (List Int)) : Prop := ∃ as : List Addr, H' q = some (.lst (as.map V.ref)) ∧ H q = none ∧ as.length = rows.length ∧
  ∀ (i : Nat) (r : Addr) (row : List Int), as[i]? = some r → rows[i]? = some row → H' r = some (ilst row) ∧ H r = none
theorem NewRows.at_ {H H' : Hp} {q : Addr} {rows : List (List Int)} (h : NewRows H H' q rows) : RowsAt H' q rows := by
  obtain ⟨as, h1, _, h2, h3⟩ := h
  exact ⟨as, h1, h2, fun i r row e1 e2 => (h3 i r row e1 e2).1⟩
theorem NewRows.mono {H H1 H2 : Hp} {q : Addr} {rows : List (List Int)} (h : NewRows H H1 q rows) (s : Same H1 H2) : NewRows H H2 q rows := by
  obtain ⟨as, h1, h0, h2, h3⟩ := h
  exact ⟨as, s _ _ h1, h0, h2, fun i r row e1 e2 => ⟨s _ _ (h3 i r row e1 e2).1, (h3 i r row e1 e2).2⟩⟩
theorem NewRows.back {H0 H H1 : Hp} {q : Addr} {rows : List (List Int)} (h : NewRows H H1 q rows) (s : Same H0 H) : NewRows H0 H1 q rows := by
  obtain ⟨as, h1, h0, h2, h3⟩ := h
  exact ⟨as, h1, s.free h0, h2, fun i r row e1 e2 => ⟨(h3 i r row e1 e2).1, s.free (h3 i r row e1 e2).2⟩⟩
theorem Led.rows {B H H' : Hp} {L : List (Addr × HO)} {q : Addr} {rows : List (List Int)} (h : Led B L H) (s : Same H H') (n : NewRows H H' q rows) : ∃ B', Same B B' ∧ NewRows H B' q rows ∧ Led B' L H' := by
  obtain ⟨B', s1, l1, k1⟩ := (h.ext s).rebase
  obtain ⟨as, h1, h0, h2, h3⟩ := n
  exact ⟨B', s1, ⟨as, k1 _ _ h1 (h.out h0), h0, h2, fun i r row e1 e2 => ⟨k1 _ _ (h3 i r row e1 e2).1 (h.out (h3 i r row e1 e2).2), (h3 i r row e1 e2).2⟩⟩, l1⟩
/-- an item of rows read -/
theorem g_row {K : PySem.W.Frag} {H : Hp} {Q : VK} {p : Addr} {rows : List (List Int)} {i : Int} (R : RowsAt H p rows) (h0 : 0 ≤ i) (h1 : i < rows.length) (h : ∀ r, SqL K H r ((rows.getD i.toNat []).map V.int) → Q (.ref r) H) : rIxL K (.ref p) (.int i) H Q := by
  obtain ⟨as, e1, e2, e3⟩ := R
  have hl : i.toNat < rows.length := by omega
  have ha : i.toNat < as.length := by omega
  refine ⟨p, _, i, .ref as[i.toNat], rfl, rfl, SqL.of e1, at_of (j := i.toNat) (by omega) ?_, h _ (SqL.of ?_)⟩
  · rw [List.getElem?_map, List.getElem?_eq_getElem ha]
    rfl
  · have q := e3 i.toNat as[i.toNat] rows[i.toNat] (List.getElem?_eq_getElem ha) (List.getElem?_eq_getElem hl)
    rw [List.getD_eq_getElem?_getD, List.getElem?_eq_getElem hl]
    exact q
theorem g_rowL {K : PySem.W.Frag} {H : Hp} {Q : VK} {p : Addr} {rows : List (List Int)} {i : Int} (R : RowsAt H p rows) (h0 : 0 ≤ i) (h1 : i < rows.length) (h : ∀ r, H r = some (ilst (rows.getD i.toNat [])) → Q (.ref r) H) : rIxL K (.ref p) (.int i) H Q := by
  obtain ⟨as, e1, e2, e3⟩ := R
  have hl : i.toNat < rows.length := by omega
  have ha : i.toNat < as.length := by omega
  refine ⟨p, _, i, .ref as[i.toNat], rfl, rfl, SqL.of e1, at_of (j := i.toNat) (by omega) ?_, h _ ?_⟩
  · rw [List.getElem?_map, List.getElem?_eq_getElem ha]
    rfl
  · have q := e3 i.toNat as[i.toNat] rows[i.toNat] (List.getElem?_eq_getElem ha) (List.getElem?_eq_getElem hl)
    rw [List.getD_eq_getElem?_getD, List.getElem?_eq_getElem hl]
    exact q
theorem g_lenR {K : PySem.W.Frag} {H : Hp} {Q : VK} {p : Addr} {rows : List (List Int)} (R : RowsAt H p rows) (h : Q (.int rows.length) H) : mLen K [.ref p] H Q := by
  obtain ⟨as, e1, e2, _⟩ := R
  exact ⟨p, _, rfl, .inl (SqL.of e1), by rw [List.length_map, e2]; exact h⟩
theorem Led.ra {B H : Hp} {L : List (Addr × HO)} {p : Addr} {rows : List (List Int)} (h : Led B L H) (r : RowsAt B p rows) : RowsAt H p rows := r.mono h.same

/-! ### rows that make a board -/
def OkRow (n : Nat) (row : List Int) : Prop := 1 ≤ row.length ∧ row.length ≤ 8 ∧ ∀ g, g ∈ row → -1 ≤ g ∧ g < n
def OkRows (rows : List (List Int)) : Prop := 1 ≤ rows.length ∧ rows.length ≤ 12 ∧ ∀ row, row ∈ rows → OkRow rows.length row
def TurnsOk (rows : List (List Int)) (turns : List Int) : Prop := turns.length = rows.length ∧ ∀ k : Nat, k < rows.length → 0 ≤ turns.getD k 0 ∧ turns.getD k 0 < (rows.getD k []).length
theorem getD_mem {α : Type} {l : List α} {k : Nat} {d : α} (h : k < l.length) : l.getD k d ∈ l := by
  rw [List.getD_eq_getElem?_getD, List.getElem?_eq_getElem h]
  exact List.getElem_mem h
theorem OkRows.row {rows : List (List Int)} (h : OkRows rows) {k : Nat} (hk : k < rows.length) : OkRow rows.length (rows.getD k []) := h.2.2 _ (getD_mem hk)
theorem OkRows.exit {rows : List (List Int)} (h : OkRows rows) {k j : Nat} (hk : k < rows.length) (hj : j < (rows.getD k []).length) : -1 ≤ (rows.getD k []).getD j 0 ∧ (rows.getD k []).getD j 0 < rows.length := (h.row hk).2.2 _ (getD_mem hj)
theorem getD_set {α : Type} {l : List α} {i j : Nat} {x d : α} (h : i < l.length) : (l.set i x).getD j d = if i = j then x else l.getD j d := by
  rw [List.getD_eq_getElem?_getD, List.getD_eq_getElem?_getD]
  by_cases e : i = j
  · subst e
    rw [if_pos rfl, List.getElem?_set_self h]
    rfl
  · rw [if_neg e, List.getElem?_set_ne e]

/-! ### a board's fields -/
def bf (r t l s : Addr) (n : Int) : List (Str × V) := [("rows", .ref r), ("turns", .ref t), ("loads", .ref l), ("steps", .ref s), ("taken", .int n)]
section
variable {r t l s t' l' s' : Addr} {n n' : Int}
theorem st12 : (("turns" : Str) == ("rows" : Str)) = false := by decide +kernel
theorem st13 : (("loads" : Str) == ("rows" : Str)) = false := by decide +kernel
theorem st14 : (("steps" : Str) == ("rows" : Str)) = false := by decide +kernel
theorem st15 : (("taken" : Str) == ("rows" : Str)) = false := by decide +kernel
theorem st23 : (("loads" : Str) == ("turns" : Str)) = false := by decide +kernel
theorem st24 : (("steps" : Str) == ("turns" : Str)) = false := by decide +kernel
theorem st25 : (("taken" : Str) == ("turns" : Str)) = false := by decide +kernel
theorem st34 : (("steps" : Str) == ("loads" : Str)) = false := by decide +kernel
theorem st35 : (("taken" : Str) == ("loads" : Str)) = false := by decide +kernel
theorem st45 : (("taken" : Str) == ("steps" : Str)) = false := by decide +kernel
theorem bf_rows : (bf r t l s n).lookup ("rows" : Str) = some (.ref r) := by simp only [bf, List.lookup, beq_self_eq_true]
theorem bf_turns : (bf r t l s n).lookup ("turns" : Str) = some (.ref t) := by simp only [bf, List.lookup, st12, beq_self_eq_true]
theorem bf_loads : (bf r t l s n).lookup ("loads" : Str) = some (.ref l) := by simp only [bf, List.lookup, st13, st23, beq_self_eq_true]
theorem bf_steps : (bf r t l s n).lookup ("steps" : Str) = some (.ref s) := by simp only [bf, List.lookup, st14, st24, st34, beq_self_eq_true]
theorem bf_taken : (bf r t l s n).lookup ("taken" : Str) = some (.int n) := by simp only [bf, List.lookup, st15, st25, st35, st45, beq_self_eq_true]
theorem sn12 : ¬ (("rows" : Str) = ("turns" : Str)) := by decide +kernel
theorem sn13 : ¬ (("rows" : Str) = ("loads" : Str)) := by decide +kernel
theorem sn14 : ¬ (("rows" : Str) = ("steps" : Str)) := by decide +kernel
theorem sn15 : ¬ (("rows" : Str) = ("taken" : Str)) := by decide +kernel
theorem sn23 : ¬ (("turns" : Str) = ("loads" : Str)) := by decide +kernel
theorem sn24 : ¬ (("turns" : Str) = ("steps" : Str)) := by decide +kernel
theorem sn25 : ¬ (("turns" : Str) = ("taken" : Str)) := by decide +kernel
theorem sn34 : ¬ (("loads" : Str) = ("steps" : Str)) := by decide +kernel
theorem sn35 : ¬ (("loads" : Str) = ("taken" : Str)) := by decide +kernel
theorem sn45 : ¬ (("steps" : Str) = ("taken" : Str)) := by decide +kernel
theorem bf_pturns : putF ("turns" : Str) (.ref t') (bf r t l s n) = bf r t' l s n := by simp only [bf, putF, sn12, if_false, if_true]
theorem bf_ploads : putF ("loads" : Str) (.ref l') (bf r t l s n) = bf r t l' s n := by simp only [bf, putF, sn13, sn23, if_false, if_true]
theorem bf_psteps : putF ("steps" : Str) (.ref s') (bf r t l s n) = bf r t l s' n := by simp only [bf, putF, sn14, sn24, sn34, if_false, if_true]
theorem bf_ptaken : putF ("taken" : Str) (.int n') (bf r t l s n) = bf r t l s n' := by simp only [bf, putF, sn15, sn25, sn35, sn45, if_false, if_true]
theorem bf_made : putF ("taken" : Str) (.int n) (putF ("steps" : Str) (.ref s) (putF ("loads" : Str) (.ref l) (putF ("turns" : Str) (.ref t) (putF ("rows" : Str) (.ref r) [])))) = bf r t l s n := by
  simp only [bf, putF, sn12, sn13, sn14, sn15, sn23, sn24, sn25, sn34, sn35, sn45, if_false]
theorem bf_len : (bf r t l s n).length < 1000 := by show 5 < 1000; decide
theorem bf_none {m : Str} (h1 : ¬ m = ("rows" : Str)) (h2 : ¬ m = ("turns" : Str)) (h3 : ¬ m = ("loads" : Str)) (h4 : ¬ m = ("steps" : Str)) (h5 : ¬ m = ("taken" : Str)) : (bf r t l s n).lookup m = none := by
  have e1 : (m == ("rows" : Str)) = false := by simpa using h1
  have e2 : (m == ("turns" : Str)) = false := by simpa using h2
  have e3 : (m == ("loads" : Str)) = false := by simpa using h3
  have e4 : (m == ("steps" : Str)) = false := by simpa using h4
  have e5 : (m == ("taken" : Str)) = false := by simpa using h5
  simp only [bf, List.lookup, e1, e2, e3, e4, e5]
theorem bm_has_site : (bf r t l s n).lookup ("has_site" : Str) = none := bf_none (by decide +kernel) (by decide +kernel) (by decide +kernel) (by decide +kernel) (by decide +kernel)
theorem bm_turn_to : (bf r t l s n).lookup ("turn_to" : Str) = none := bf_none (by decide +kernel) (by decide +kernel) (by decide +kernel) (by decide +kernel) (by decide +kernel)
theorem bm_load : (bf r t l s n).lookup ("load" : Str) = none := bf_none (by decide +kernel) (by decide +kernel) (by decide +kernel) (by decide +kernel) (by decide +kernel)
theorem bm_become : (bf r t l s n).lookup ("become" : Str) = none := bf_none (by decide +kernel) (by decide +kernel) (by decide +kernel) (by decide +kernel) (by decide +kernel)
theorem bm_twin : (bf r t l s n).lookup ("twin" : Str) = none := bf_none (by decide +kernel) (by decide +kernel) (by decide +kernel) (by decide +kernel) (by decide +kernel)
end
/-- a board as it stands in a heap -/
structure BdAt (C : Addr) (H : Hp) (b dx r t l s : Addr) (rows : List (List Int)) (turns loads steps : List Int) (taken : Int) : Prop where
  ins : H b = some (.ins C dx (bf r t l s taken))
  rws : RowsAt H r rows
  tns : H t = some (ilst turns)
  lds : H l = some (ilst loads)
  sts : H s = some (ilst steps)
theorem BdAt.mono {C : Addr} {H H' : Hp} {b dx r t l s : Addr} {rows : List (List Int)} {turns loads steps : List Int} {taken : Int} (h : BdAt C H b dx r t l s rows turns loads steps taken) (q : Same H H') : BdAt C H' b dx r t l s rows turns loads steps taken :=
  ⟨q _ _ h.ins, h.rws.mono q, q _ _ h.tns, q _ _ h.lds, q _ _ h.sts⟩
/-- a board in the ledger, from place i on -/
structure LB (C : Addr) (B : Hp) (L : List (Addr × HO)) (i : Nat) (b dx r t l s : Addr) (rows : List (List Int)) (turns loads steps : List Int) (taken : Int) : Prop where
  ins : L[i]? = some (b, .ins C dx (bf r t l s taken))
  tns : L[i + 1]? = some (t, ilst turns)
  lds : L[i + 2]? = some (l, ilst loads)
  sts : L[i + 3]? = some (s, ilst steps)
  rws : RowsAt B r rows
theorem Led.bd {C : Addr} {B H : Hp} {L : List (Addr × HO)} {i : Nat} {b dx r t l s : Addr} {rows : List (List Int)} {turns loads steps : List Int} {taken : Int} (h : Led B L H) (x : LB C B L i b dx r t l s rows turns loads steps taken) : BdAt C H b dx r t l s rows turns loads steps taken :=
  ⟨h.get _ x.ins, h.ra x.rws, h.get _ x.tns, h.get _ x.lds, h.get _ x.sts⟩
abbrev bl (C : Addr) (b dx r t l s : Addr) (turns loads steps : List Int) (taken : Int) : List (Addr × HO) := [(b, .ins C dx (bf r t l s taken)), (t, ilst turns), (l, ilst loads), (s, ilst steps)]
/-- two ledgers become one -/
theorem Led.merge {B H B1 H' : Hp} {L M : List (Addr × HO)} (h : Led B L H) (s1 : Same H B1) (l1 : Led B1 M H') : ∃ B', Same B B' ∧ Led B' (L ++ M) H' ∧ ∀ q o, B1 q = some o → H q = none → B' q = some o := by
  classical
  have hb : ∀ p, p ∈ L.map Prod.fst → ∃ o, B1 p = some o := fun p m => by
    obtain ⟨o, e⟩ := h.keys m
    exact ⟨o, s1 _ _ e⟩
  refine ⟨fun a => if a ∈ L.map Prod.fst then none else B1 a, fun q o e => ?_, ⟨fun q o e => ?_, fun i p o e => ?_, ?_, fun p z => ?_⟩, fun q o e n => ?_⟩
  · have z : q ∉ L.map Prod.fst := fun m => by
      rw [h.new q m] at e
      cases e
    show (if q ∈ L.map Prod.fst then none else B1 q) = some o
    rw [if_neg z]
    exact s1 _ _ (h.same _ _ e)
  · by_cases z : q ∈ L.map Prod.fst
    · rw [show (if q ∈ L.map Prod.fst then none else B1 q) = none from if_pos z] at e
      cases e
    · rw [show (if q ∈ L.map Prod.fst then none else B1 q) = B1 q from if_neg z] at e
      exact l1.same _ _ e
  · rcases List.mem_append.mp (List.mem_of_getElem? e) with hm | hm
    · exact l1.same _ _ (s1 _ _ (h.mem hm))
    · exact l1.mem hm
  · rw [List.map_append, List.nodup_append]
    refine ⟨h.nd, l1.nd, fun a ha b hb2 e => ?_⟩
    subst e
    obtain ⟨o, q⟩ := hb a ha
    rw [l1.new a hb2] at q
    cases q
  · show (if p ∈ L.map Prod.fst then none else B1 p) = none
    by_cases y : p ∈ L.map Prod.fst
    · exact if_pos y
    · rw [if_neg y]
      rw [List.map_append] at z
      rcases List.mem_append.mp z with z | z
      · exact (y z).elim
      · exact l1.new p z
  · show (if q ∈ L.map Prod.fst then none else B1 q) = some o
    rw [if_neg (h.out n)]
    exact e
/-- a new board -/
def NewB (C : Addr) (H H' : Hp) (b dx r t l s : Addr) (rows : List (List Int)) (turns loads steps : List Int) (taken : Int) : Prop := ∃ B1, Same H B1 ∧ NewRows H B1 r rows ∧ Led B1 (bl C b dx r t l s turns loads steps taken) H'
theorem Led.board {C : Addr} {B H H' : Hp} {L : List (Addr × HO)} {b dx r t l s : Addr} {rows : List (List Int)} {turns loads steps : List Int} {taken : Int} (h : Led B L H) (n : NewB C H H' b dx r t l s rows turns loads steps taken) :
    ∃ B', Same B B' ∧ RowsAt B' r rows ∧ Led B' (L ++ bl C b dx r t l s turns loads steps taken) H' := by
  obtain ⟨B1, s1, ⟨as, e1, e0, e2, e3⟩, l1⟩ := n
  obtain ⟨B', sB, lB, k⟩ := h.merge s1 l1
  exact ⟨B', sB, ⟨as, k _ _ e1 e0, e2, fun i a row h1 h2 => k _ _ (e3 i a row h1 h2).1 (e3 i a row h1 h2).2⟩, lB⟩
theorem NewB.same {C : Addr} {H H' : Hp} {b dx r t l s : Addr} {rows : List (List Int)} {turns loads steps : List Int} {taken : Int} (n : NewB C H H' b dx r t l s rows turns loads steps taken) : Same H H' := by
  obtain ⟨B1, s1, _, l1⟩ := n
  exact s1.trans l1.same
theorem NewB.at_ {C : Addr} {H H' : Hp} {b dx r t l s : Addr} {rows : List (List Int)} {turns loads steps : List Int} {taken : Int} (n : NewB C H H' b dx r t l s rows turns loads steps taken) : BdAt C H' b dx r t l s rows turns loads steps taken := by
  obtain ⟨B1, s1, n1, l1⟩ := n
  exact ⟨l1.get 0 rfl, n1.at_.mono l1.same, l1.get 1 rfl, l1.get 2 rfl, l1.get 3 rfl⟩
def setB (L : List (Addr × HO)) (C : Addr) (i : Nat) (b dx r t l s : Addr) (turns loads steps : List Int) (taken : Int) : List (Addr × HO) :=
  (((L.set i (b, .ins C dx (bf r t l s taken))).set (i + 1) (t, ilst turns)).set (i + 2) (l, ilst loads)).set (i + 3) (s, ilst steps)
theorem nodup_of_ix {α : Type} {l : List α} (h : ∀ (i j : Nat) (x : α), l[i]? = some x → l[j]? = some x → i = j) : l.Nodup := by
  refine List.pairwise_iff_getElem.mpr fun i j hi hj ij e => ?_
  have := h i j l[i] (List.getElem?_eq_getElem hi) (by rw [List.getElem?_eq_getElem hj, e])
  omega
theorem setB_get {L : List (Addr × HO)} {C : Addr} {i : Nat} {b dx r t l s : Addr} {turns loads steps : List Int} {taken : Int} {j : Nat} {p : Addr} {o : HO} (h : (setB L C i b dx r t l s turns loads steps taken)[j]? = some (p, o)) :
    (∃ k, k < 4 ∧ j = i + k ∧ (bl C b dx r t l s turns loads steps taken)[k]? = some (p, o)) ∨ (L[j]? = some (p, o) ∧ ∀ k, k < 4 → j ≠ i + k) := by
  unfold setB at h
  by_cases e3 : i + 3 = j
  · subst e3
    refine .inl ⟨3, by omega, rfl, ?_⟩
    by_cases hl : i + 3 < (((L.set i (b, .ins C dx (bf r t l s taken))).set (i + 1) (t, ilst turns)).set (i + 2) (l, ilst loads)).length
    · rw [List.getElem?_set_self hl] at h
      exact h
    · rw [List.getElem?_eq_none (by rw [List.length_set]; omega)] at h
      cases h
  rw [List.getElem?_set_ne e3] at h
  by_cases e2 : i + 2 = j
  · subst e2
    refine .inl ⟨2, by omega, rfl, ?_⟩
    by_cases hl : i + 2 < ((L.set i (b, .ins C dx (bf r t l s taken))).set (i + 1) (t, ilst turns)).length
    · rw [List.getElem?_set_self hl] at h
      exact h
    · rw [List.getElem?_eq_none (by rw [List.length_set]; omega)] at h
      cases h
  rw [List.getElem?_set_ne e2] at h
  by_cases e1 : i + 1 = j
  · subst e1
    refine .inl ⟨1, by omega, rfl, ?_⟩
    by_cases hl : i + 1 < (L.set i (b, .ins C dx (bf r t l s taken))).length
    · rw [List.getElem?_set_self hl] at h
      exact h
    · rw [List.getElem?_eq_none (by rw [List.length_set]; omega)] at h
      cases h
  rw [List.getElem?_set_ne e1] at h
  by_cases e0 : i = j
  · subst e0
    refine .inl ⟨0, by omega, rfl, ?_⟩
    by_cases hl : i < L.length
    · rw [List.getElem?_set_self hl] at h
      exact h
    · rw [List.getElem?_eq_none (by rw [List.length_set]; omega)] at h
      cases h
  rw [List.getElem?_set_ne e0] at h
  exact .inr ⟨h, fun k hk => by omega⟩
/-- one board of a ledger by itself: what is done to it is done in the ledger -/
theorem Led.focus {C : Addr} {B H : Hp} {L : List (Addr × HO)} {i : Nat} {b dx r t l s : Addr} {rows : List (List Int)} {turns loads steps : List Int} {taken : Int} (h : Led B L H) (x : LB C B L i b dx r t l s rows turns loads steps taken) :
    ∃ B', Same B B' ∧ RowsAt B' r rows ∧ Led B' (bl C b dx r t l s turns loads steps taken) H ∧ (∀ p o, H p = some o → p ≠ b → p ≠ t → p ≠ l → p ≠ s → B' p = some o) ∧
      ∀ (t' l' s' : Addr) (turns' loads' steps' : List Int) (taken' : Int) (H' : Hp), Led B' (bl C b dx r t' l' s' turns' loads' steps' taken') H' → Led B (setB L C i b dx r t' l' s' turns' loads' steps' taken') H' := by
  have kx : ∀ (k : Nat) (p : Addr) (o : HO), (bl C b dx r t l s turns loads steps taken)[k]? = some (p, o) → L[i + k]? = some (p, o) := fun k p o e => by
    match k, e with
    | 0, e => cases e; exact x.ins
    | 1, e => cases e; exact x.tns
    | 2, e => cases e; exact x.lds
    | 3, e => cases e; exact x.sts
    | (n + 4), e => simp at e
  have kl : ∀ {j : Nat} {p : Addr} {o : HO}, L[j]? = some (p, o) → (L.map Prod.fst)[j]? = some p := fun e => by rw [List.getElem?_map, e]; rfl
  have l0 : Led B (bl C b dx r t l s turns loads steps taken) H := by
    refine ⟨h.same, fun k p o e => h.get _ (kx k p o e), nodup_of_ix fun j k p e1 e2 => ?_, fun p hp => ?_⟩
    · rw [List.getElem?_map] at e1 e2
      cases q1 : (bl C b dx r t l s turns loads steps taken)[j]? with
      | none => rw [q1] at e1; cases e1
      | some y1 =>
        cases q2 : (bl C b dx r t l s turns loads steps taken)[k]? with
        | none => rw [q2] at e2; cases e2
        | some y2 =>
          obtain ⟨p1, o1⟩ := y1
          obtain ⟨p2, o2⟩ := y2
          rw [q1] at e1
          rw [q2] at e2
          cases e1
          cases e2
          have := nd_ix h.nd (kl (kx _ _ _ q1)) (kl (kx _ _ _ q2))
          omega
    · obtain ⟨⟨q, o⟩, hm, rfl⟩ := List.mem_map.mp hp
      obtain ⟨k, hk, e⟩ := List.getElem_of_mem hm
      exact h.new q (key_at (kx k q o (by rw [List.getElem?_eq_getElem hk, e])))
  obtain ⟨B', sB, lB, keep⟩ := l0.rebase
  refine ⟨B', sB, x.rws.mono sB, lB, fun p o e n1 n2 n3 n4 => keep p o e (by simp [n1, n2, n3, n4]), fun t' l' s' turns' loads' steps' taken' H' led => ?_⟩
  -- what stands off the board stands in B'
  have off : ∀ (j : Nat) (p : Addr) (o : HO), L[j]? = some (p, o) → (∀ k, k < 4 → j ≠ i + k) → B' p = some o := fun j p o e n => by
    refine keep p o (h.get _ e) fun hm => ?_
    obtain ⟨⟨q, u⟩, hm', rfl⟩ := List.mem_map.mp hm
    obtain ⟨k, hk, e2⟩ := List.getElem_of_mem hm'
    exact n k hk (nd_ix h.nd (kl e) (kl (kx k q u (by rw [List.getElem?_eq_getElem hk, e2]))))
  refine ⟨sB.trans led.same, fun j p o e => ?_, nodup_of_ix fun j k p e1 e2 => ?_, fun p hp => ?_⟩
  · rcases setB_get e with ⟨k, hk, rfl, e'⟩ | ⟨e', n⟩
    · exact led.get k e'
    · exact led.same _ _ (off j p o e' n)
  · rw [List.getElem?_map] at e1 e2
    cases q1 : (setB L C i b dx r t' l' s' turns' loads' steps' taken')[j]? with
    | none => rw [q1] at e1; cases e1
    | some y1 =>
      cases q2 : (setB L C i b dx r t' l' s' turns' loads' steps' taken')[k]? with
      | none => rw [q2] at e2; cases e2
      | some y2 =>
        obtain ⟨p1, o1⟩ := y1
        obtain ⟨p2, o2⟩ := y2
        rw [q1] at e1
        rw [q2] at e2
        cases e1
        cases e2
        rcases setB_get q1 with ⟨a, ha, rfl, z1⟩ | ⟨z1, n1⟩
        · rcases setB_get q2 with ⟨c, hc, rfl, z2⟩ | ⟨z2, n2⟩
          · have := nd_ix led.nd (i := a) (j := c) (x := p1) (by rw [List.getElem?_map, z1]; rfl) (by rw [List.getElem?_map, z2]; rfl)
            omega
          · have y := off _ _ _ z2 n2
            rw [led.new p1 (key_at z1)] at y
            cases y
        · rcases setB_get q2 with ⟨c, hc, rfl, z2⟩ | ⟨z2, n2⟩
          · have y := off _ _ _ z1 n1
            rw [led.new p1 (key_at z2)] at y
            cases y
          · exact nd_ix h.nd (kl z1) (kl z2)
  · obtain ⟨⟨q, o⟩, hm, rfl⟩ := List.mem_map.mp hp
    obtain ⟨j, hj, e⟩ := List.getElem_of_mem hm
    rcases setB_get (by rw [List.getElem?_eq_getElem hj, e]) with ⟨k, hk, rfl, e'⟩ | ⟨e', n⟩
    · cases z : B q with
      | none => rfl
      | some u =>
        have y := sB _ _ z
        rw [led.new q (key_at e')] at y
        cases y
    · exact h.new q (key_at e')
/-- an object of the ledger replaced by a new one -/
theorem Led.swap {B H H' : Hp} {L : List (Addr × HO)} (h : Led B L H) {i : Nat} {p q : Addr} {o o' : HO} (e : L[i]? = some (p, o)) (n : H q = none) (s : Same H H') (hq : H' q = some o') : Led B (L.set i (q, o')) H' := by
  have hl : i < L.length := (List.getElem?_eq_some_iff.mp e).1
  have hk : ∀ x, x ∈ (L.set i (q, o')).map Prod.fst → x = q ∨ x ∈ L.map Prod.fst := fun x hx => by
    obtain ⟨⟨y, u⟩, hm, rfl⟩ := List.mem_map.mp hx
    rcases List.mem_or_eq_of_mem_set hm with hm | hm
    · exact .inr (List.mem_map.mpr ⟨_, hm, rfl⟩)
    · cases hm
      exact .inl rfl
  refine ⟨h.same.trans s, fun j p2 o2 z => ?_, ?_, fun x hx => ?_⟩
  · by_cases ij : i = j
    · subst ij
      rw [List.getElem?_set_self hl] at z
      cases z
      exact hq
    · rw [List.getElem?_set_ne ij] at z
      exact s _ _ (h.at_ j p2 o2 z)
  · rw [List.map_set]
    have hqn : ∀ (m : Nat) (hm : m < (L.map Prod.fst).length), (L.map Prod.fst)[m] ≠ q := fun m hm z => h.out n (by rw [← z]; exact List.getElem_mem hm)
    refine List.pairwise_iff_getElem.mpr fun j k hj hk2 hjk => ?_
    have hj' : j < (L.map Prod.fst).length := by simpa using hj
    have hk' : k < (L.map Prod.fst).length := by simpa using hk2
    have base := (List.pairwise_iff_getElem.mp h.nd) j k hj' hk' hjk
    rw [List.getElem_set, List.getElem_set]
    split
    · split
      · omega
      · exact (hqn k hk').symm
    · split
      · exact hqn j hj'
      · exact base
  · rcases hk x hx with rfl | hx
    · exact h.same.free n
    · exact h.new x hx

/-! Loops and comprehensions over the ledger -/
section
variable {K : PySem.W.Frag} {σ : L2.St} {H : Hp} {D : Ends} {tb : TS} {i : Nat}
/-- what a for over a range leaves to be shown -/
def LoopR (lo : Int) (n i : Nat) (tb : TS) (D : Ends) (σ : L2.St) (H : Hp) : Prop := ∃ W : Nat → Nat → L2.St → Hp → Prop, (∃ m, W 0 m σ H) ∧ ∀ k m σ H, W k m σ H →
  ((Itr lo n).stop k H ∧ D.nx σ H) ∨ ((Itr lo n).go k H ∧ ∃ N : L2.St → Hp → Prop, (∀ σ' H', N σ' H' → ∃ m', m' < m ∧ W (k + 1) m' σ' H') ∧ ∀ x H', (Itr lo n).yld k H x H' → gName i x σ H' fun σ2 H2 => tb { D with nx := N, ct := N, bk := D.nx } σ2 H2)
def LoopL (K : PySem.W.Frag) (a : Addr) (i : Nat) (tb : TS) (D : Ends) (σ : L2.St) (H : Hp) : Prop := ∃ W : Nat → Nat → L2.St → Hp → Prop, (∃ m, W 0 m σ H) ∧ ∀ k m σ H, W k m σ H →
  ((Itl K a).stop k H ∧ D.nx σ H) ∨ ((Itl K a).go k H ∧ ∃ N : L2.St → Hp → Prop, (∀ σ' H', N σ' H' → ∃ m', m' < m ∧ W (k + 1) m' σ' H') ∧ ∀ x H', (Itl K a).yld k H x H' → gName i x σ H' fun σ2 H2 => tb { D with nx := N, ct := N, bk := D.nx } σ2 H2)
theorem g_for1 {ta : TA} (h : ta σ H fun vs H1 => ∃ j : Int, vs = [.int j] ∧ -(2 ^ 62) ≤ j ∧ j < 2 ^ 62 ∧ LoopR 0 j.toNat i tb D σ H1) : tFor (iRng1 ta) (gName i) tb D σ H := h
theorem g_for2 {ta : TA} (h : ta σ H fun vs H1 => ∃ j k : Int, vs = [.int j, .int k] ∧ (-(2 ^ 62) ≤ j ∧ j < 2 ^ 62 ∧ -(2 ^ 62) ≤ k ∧ k < 2 ^ 62) ∧ LoopR j (k - j).toNat i tb D σ H1) : tFor (iRng2 ta) (gName i) tb D σ H := h
theorem g_forL {te : TE} (h : te σ H fun x H1 => ∃ a, x = .ref a ∧ (∃ xs, SqL K H1 a xs) ∧ LoopL K a i tb D σ H1) : tFor (iList K te) (gName i) tb D σ H := h
theorem g_rng1 {j : Int} {R : Int → Prop} (h1 : -(2 ^ 62) ≤ j) (h2 : j < 2 ^ 62) (h : R j) : ∃ k : Int, [V.int j] = [V.int k] ∧ -(2 ^ 62) ≤ k ∧ k < 2 ^ 62 ∧ R k := ⟨j, rfl, h1, h2, h⟩
theorem g_rng2 {a b : Int} {R : Int → Int → Prop} (h1 : -(2 ^ 62) ≤ a) (h2 : a < 2 ^ 62) (h3 : -(2 ^ 62) ≤ b) (h4 : b < 2 ^ 62) (h : R a b) : ∃ j k : Int, [V.int a, V.int b] = [V.int j, V.int k] ∧ (-(2 ^ 62) ≤ j ∧ j < 2 ^ 62 ∧ -(2 ^ 62) ≤ k ∧ k < 2 ^ 62) ∧ R j k := ⟨a, b, rfl, ⟨h1, h2, h3, h4⟩, h⟩
theorem g_lstw {a : Addr} {xs : List V} {R : Addr → Prop} (s : SqL K H a xs) (h : R a) : ∃ b, V.ref a = .ref b ∧ (∃ xs, SqL K H b xs) ∧ R b := ⟨a, rfl, ⟨xs, s⟩, h⟩
theorem loopR {lo : Int} {n : Nat} (Pv : Nat → L2.St → Hp → Prop) (h0 : Pv 0 σ H)
    (hs : ∀ k σ H, k < n → Pv k σ H → tb { D with nx := Pv (k + 1), ct := Pv (k + 1), bk := D.nx } (σ.set i (some (.int (lo + k)))) H) (hd : ∀ σ H, Pv n σ H → D.nx σ H) : LoopR lo n i tb D σ H :=
  for_range (g := gName i) Pv h0 hs hd
theorem loopL {a : Addr} {xs : List V} (Pv : Nat → L2.St → Hp → Prop) (h0 : Pv 0 σ H) (hl : ∀ k σ H, k ≤ xs.length → Pv k σ H → SqL K H a xs)
    (hs : ∀ k x σ H, xs[k]? = some x → Pv k σ H → tb { D with nx := Pv (k + 1), ct := Pv (k + 1), bk := D.nx } (σ.set i (some x)) H) (hd : ∀ σ H, Pv xs.length σ H → D.nx σ H) : LoopL K a i tb D σ H :=
  for_list (g := gName i) Pv h0 hl hs hd
/-- over a list of ints -/
theorem loopI {a : Addr} {ns : List Int} (Pv : Nat → L2.St → Hp → Prop) (h0 : Pv 0 σ H) (hl : ∀ k σ H, k ≤ ns.length → Pv k σ H → SqL K H a (ns.map V.int))
    (hs : ∀ k σ H, k < ns.length → Pv k σ H → tb { D with nx := Pv (k + 1), ct := Pv (k + 1), bk := D.nx } (σ.set i (some (.int (ns.getD k 0)))) H) (hd : ∀ σ H, Pv ns.length σ H → D.nx σ H) : LoopL K a i tb D σ H :=
  loopL (xs := ns.map V.int) Pv h0 (fun k σ H hk => hl k σ H (by simpa using hk)) (fun k x σ H hx p => by
    have hk : k < ns.length := by
      have := (List.getElem?_eq_some_iff.mp hx).1
      simpa using this
    have e : x = .int (ns.getD k 0) := by
      rw [List.getElem?_map, List.getElem?_eq_getElem hk] at hx
      rw [List.getD_eq_getElem?_getD, List.getElem?_eq_getElem hk]
      exact (Option.some.inj hx).symm
    rw [e]
    exact hs k σ H hk p) (fun σ H p => hd σ H (by rw [List.length_map] at p; exact p))
/-- over rows -/
theorem loopRows {a : Addr} {rows : List (List Int)} (Pv : Nat → L2.St → Hp → Prop) (h0 : Pv 0 σ H) (R : RowsAt H a rows) (hl : ∀ k σ H', Pv k σ H' → Same H H')
    (hs : ∀ k r σ H', k < rows.length → Pv k σ H' → SqL K H' r ((rows.getD k []).map V.int) → tb { D with nx := Pv (k + 1), ct := Pv (k + 1), bk := D.nx } (σ.set i (some (.ref r))) H') (hd : ∀ σ H, Pv rows.length σ H → D.nx σ H) : LoopL K a i tb D σ H := by
  obtain ⟨as, e1, e2, e3⟩ := R
  refine loopL (xs := as.map V.ref) Pv h0 (fun k σ H' _ p => SqL.of (hl k σ H' p _ _ e1)) (fun k x σ H' hx p => ?_) (fun σ H p => hd σ H (by rw [List.length_map, e2] at p; exact p))
  have hk : k < as.length := by
    have := (List.getElem?_eq_some_iff.mp hx).1
    simpa using this
  have hk2 : k < rows.length := by omega
  rw [List.getElem?_map, List.getElem?_eq_getElem hk] at hx
  cases hx
  refine hs k _ σ H' hk2 p (SqL.of (hl k σ H' p _ _ ?_))
  rw [List.getD_eq_getElem?_getD, List.getElem?_eq_getElem hk2]
  exact e3 k _ _ (List.getElem?_eq_getElem hk) (List.getElem?_eq_getElem hk2)
theorem while_led {c : TT} (Pv : L2.St → Hp → Prop) (m : L2.St → Hp → Nat) (h0 : Pv σ H)
    (hs : ∀ σ H, Pv σ H → c σ H fun b H1 => if b = true then tb { D with nx := fun σ' H' => Pv σ' H' ∧ m σ' H' < m σ H, ct := fun σ' H' => Pv σ' H' ∧ m σ' H' < m σ H, bk := D.nx } σ H1 else D.nx σ H1)
    (mono : ∀ σ H Q Q', (∀ b H1, Q b H1 → Q' b H1) → c σ H Q → c σ H Q') : tWhile c tb D σ H := while_by Pv m h0 hs mono
end
/-! ### comprehensions -/
section
variable {K : PySem.W.Frag} {σ : L2.St} {H : Hp} {Q : VK} {te : TE} {tt : TT} {i : Nat} {vs : List Nat}
def LcR (lo : Int) (n i : Nat) (tt : TT) (te : TE) (vs : List Nat) (σ : L2.St) (H1 : Hp) (Q : VK) : Prop := ∀ D, H1 D = none → ∃ W : Nat → Nat → Hp → Prop, (∃ m, W 0 m (upd H1 D (.lst []))) ∧ ∀ k m H, W k m H →
  ((Itr lo n).stop k H ∧ Q (.ref D) H) ∨ ((Itr lo n).go k H ∧ ∃ Nx : Hp → Prop, (∀ H', Nx H' → ∃ m', m' < m ∧ W (k + 1) m' H') ∧ ∀ x H', (Itr lo n).yld k H x H' → gName i x (wipe σ vs) H' fun σ2 H2 => wipe σ2 vs = wipe σ vs ∧ tt σ2 H2 fun b H3 =>
    if b = true then te σ2 H3 fun y H4 => ∃ acc, H4 D = some (.lst acc) ∧ acc.length < sizeLine ∧ Nx (upd H4 D (.lst (acc ++ [y]))) else Nx H3)
def LcL (K : PySem.W.Frag) (a : Addr) (i : Nat) (tt : TT) (te : TE) (vs : List Nat) (σ : L2.St) (H1 : Hp) (Q : VK) : Prop := ∀ D, H1 D = none → ∃ W : Nat → Nat → Hp → Prop, (∃ m, W 0 m (upd H1 D (.lst []))) ∧ ∀ k m H, W k m H →
  ((Itl K a).stop k H ∧ Q (.ref D) H) ∨ ((Itl K a).go k H ∧ ∃ Nx : Hp → Prop, (∀ H', Nx H' → ∃ m', m' < m ∧ W (k + 1) m' H') ∧ ∀ x H', (Itl K a).yld k H x H' → gName i x (wipe σ vs) H' fun σ2 H2 => wipe σ2 vs = wipe σ vs ∧ tt σ2 H2 fun b H3 =>
    if b = true then te σ2 H3 fun y H4 => ∃ acc, H4 D = some (.lst acc) ∧ acc.length < sizeLine ∧ Nx (upd H4 D (.lst (acc ++ [y]))) else Nx H3)
theorem g_lc1 {ta : TA} (h : ta σ H fun vs' H1 => ∃ j : Int, vs' = [.int j] ∧ -(2 ^ 62) ≤ j ∧ j < 2 ^ 62 ∧ LcR 0 j.toNat i tt te vs σ H1 Q) : tLc (iRng1 ta) (gName i) tt te vs σ H Q := h
theorem g_lcL {tl : TE} (h : tl σ H fun x H1 => ∃ a, x = .ref a ∧ (∃ xs, SqL K H1 a xs) ∧ LcL K a i tt te vs σ H1 Q) : tLc (iList K tl) (gName i) tt te vs σ H Q := h
theorem g_yes {R : Bool → Hp → Prop} (h : R true H) : tYes σ H R := h
/-- a comprehension over a range, no test; Pv of the turn and the heap, the list at D within -/
theorem lcR {lo : Int} {n : Nat} (Pv : Addr → Nat → Hp → Prop) (h0 : ∀ D, H D = none → Pv D 0 (upd H D (.lst [])))
    (hw : ∀ x : Int, wipe ((wipe σ vs).set i (some (.int x))) vs = wipe σ vs)
    (hs : ∀ D k H1, H D = none → k < n → Pv D k H1 → te ((wipe σ vs).set i (some (.int (lo + k)))) H1 fun y H4 => ∃ acc, H4 D = some (.lst acc) ∧ acc.length < sizeLine ∧ Pv D (k + 1) (upd H4 D (.lst (acc ++ [y]))))
    (hd : ∀ D H1, H D = none → Pv D n H1 → Q (.ref D) H1) : LcR lo n i tYes te vs σ H Q := fun D nD =>
  lc_range (g := gName i) (Pv D) (h0 D nD) (fun k H1 hk p => ⟨hw _, iteT (B := Pv D (k + 1) H1) (hs D k H1 nD hk p)⟩) (fun H1 p => hd D H1 nD p)
theorem lcL {a : Addr} {xs : List V} (Pv : Addr → Nat → Hp → Prop) (h0 : ∀ D, H D = none → Pv D 0 (upd H D (.lst []))) (hl : ∀ D k H1, k ≤ xs.length → Pv D k H1 → SqL K H1 a xs)
    (hw : ∀ x : V, wipe ((wipe σ vs).set i (some x)) vs = wipe σ vs)
    (hs : ∀ D k x H1, H D = none → xs[k]? = some x → Pv D k H1 → te ((wipe σ vs).set i (some x)) H1 fun y H4 => ∃ acc, H4 D = some (.lst acc) ∧ acc.length < sizeLine ∧ Pv D (k + 1) (upd H4 D (.lst (acc ++ [y]))))
    (hd : ∀ D H1, H D = none → Pv D xs.length H1 → Q (.ref D) H1) : LcL K a i tYes te vs σ H Q := fun D nD =>
  lc_list (g := gName i) (Pv D) (h0 D nD) (fun k H1 hk p => hl D k H1 hk p) (fun k x H1 hx p => ⟨hw _, iteT (B := Pv D (k + 1) H1) (hs D k x H1 nD hx p)⟩) (fun H1 p => hd D H1 nD p)
/-- .. with a test that is kept to the range's numbers -/
theorem lcRT {lo : Int} {n : Nat} (Pv : Addr → Nat → Hp → Prop) (h0 : ∀ D, H D = none → Pv D 0 (upd H D (.lst [])))
    (hw : ∀ x : Int, wipe ((wipe σ vs).set i (some (.int x))) vs = wipe σ vs)
    (hs : ∀ D k H1, H D = none → k < n → Pv D k H1 → tt ((wipe σ vs).set i (some (.int (lo + k)))) H1 fun b H3 => if b = true then te ((wipe σ vs).set i (some (.int (lo + k)))) H3 fun y H4 => ∃ acc, H4 D = some (.lst acc) ∧ acc.length < sizeLine ∧ Pv D (k + 1) (upd H4 D (.lst (acc ++ [y]))) else Pv D (k + 1) H3)
    (hd : ∀ D H1, H D = none → Pv D n H1 → Q (.ref D) H1) : LcR lo n i tt te vs σ H Q := fun D nD =>
  lc_range (g := gName i) (Pv D) (h0 D nD) (fun k H1 hk p => ⟨hw _, hs D k H1 nD hk p⟩) (fun H1 p => hd D H1 nD p)
/-- over a list from its end -/
def LcV (K : PySem.W.Frag) (a : Addr) (n i : Nat) (tt : TT) (te : TE) (vs : List Nat) (σ : L2.St) (H1 : Hp) (Q : VK) : Prop := ∀ D, H1 D = none → ∃ W : Nat → Nat → Hp → Prop, (∃ m, W 0 m (upd H1 D (.lst []))) ∧ ∀ k m H, W k m H →
  ((Itv K a n).stop k H ∧ Q (.ref D) H) ∨ ((Itv K a n).go k H ∧ ∃ Nx : Hp → Prop, (∀ H', Nx H' → ∃ m', m' < m ∧ W (k + 1) m' H') ∧ ∀ x H', (Itv K a n).yld k H x H' → gName i x (wipe σ vs) H' fun σ2 H2 => wipe σ2 vs = wipe σ vs ∧ tt σ2 H2 fun b H3 =>
    if b = true then te σ2 H3 fun y H4 => ∃ acc, H4 D = some (.lst acc) ∧ acc.length < sizeLine ∧ Nx (upd H4 D (.lst (acc ++ [y]))) else Nx H3)
theorem g_lcV {ta : TA} (h : ta σ H fun vs' H1 => ∃ (a : Addr) (xs : List V), vs' = [.ref a] ∧ SqL K H1 a xs ∧ LcV K a xs.length i tt te vs σ H1 Q) : tLc (iRev K ta) (gName i) tt te vs σ H Q := h
theorem g_lstv {a : Addr} {xs : List V} {R : Addr → List V → Prop} (s : SqL K H a xs) (h : R a xs) : ∃ (b : Addr) (ys : List V), [V.ref a] = [.ref b] ∧ SqL K H b ys ∧ R b ys := ⟨a, xs, rfl, s, h⟩
theorem lcV {a : Addr} {xs : List V} (Pv : Addr → Nat → Hp → Prop) (h0 : ∀ D, H D = none → Pv D 0 (upd H D (.lst []))) (hl : ∀ D k H1, Pv D k H1 → SqL K H1 a xs)
    (hw : ∀ x : V, wipe ((wipe σ vs).set i (some x)) vs = wipe σ vs)
    (hs : ∀ D k x H1, H D = none → k < xs.length → xs[xs.length - 1 - k]? = some x → Pv D k H1 → te ((wipe σ vs).set i (some x)) H1 fun y H4 => ∃ acc, H4 D = some (.lst acc) ∧ acc.length < sizeLine ∧ Pv D (k + 1) (upd H4 D (.lst (acc ++ [y]))))
    (hd : ∀ D H1, H D = none → Pv D xs.length H1 → Q (.ref D) H1) : LcV K a xs.length i tYes te vs σ H Q := fun D nD => by
  refine ⟨fun k m H1 => m = xs.length - k ∧ k ≤ xs.length ∧ Pv D k H1, ⟨xs.length, rfl, Nat.zero_le _, h0 D nD⟩, ?_⟩
  rintro k m H1 ⟨rfl, hk, p⟩
  by_cases hlt : k < xs.length
  · have hx : xs[xs.length - 1 - k]? = some xs[xs.length - 1 - k] := List.getElem?_eq_getElem (by omega)
    refine .inr ⟨⟨hlt, xs, _, hl D k H1 p, hx⟩, Pv D (k + 1), fun H' p' => ⟨xs.length - (k + 1), by omega, rfl, hlt, p'⟩, fun v H' y => ?_⟩
    obtain ⟨e, hy⟩ := y
    subst e
    exact ⟨hw v, iteT (B := Pv D (k + 1) H') (hs D k v H' nD hlt (hy xs (hl D k _ p)) p)⟩
  · have e : k = xs.length := by omega
    subst e
    exact .inl ⟨Nat.le_refl _, hd D H1 nD p⟩

/-! ### lists of ints -/
/-- the list at D as it grows, over what stood (H) -/
def IntsUp (H : Hp) (P : List Int → Prop) (D : Addr) (k : Nat) (H1 : Hp) : Prop := ∃ ns : List Int, ns.length = k ∧ P ns ∧ Led H [(D, ilst ns)] H1
theorem IntsUp.start {P : List Int → Prop} (h0 : P []) (D : Addr) (nD : H D = none) : IntsUp H P D 0 (upd H D (.lst [])) := ⟨[], rfl, h0, (Led.nil H).alloc nD _⟩
theorem ints_push {H H2 : Hp} {D : Addr} {ns : List Int} {x : Int} (h : Led H [(D, ilst ns)] H2) : Led H [(D, ilst (ns ++ [x]))] (upd H2 D (.lst (ns.map V.int ++ [V.int x]))) := by
  have z := h.set (i := 0) rfl (.lst (ns.map V.int ++ [V.int x]))
  have e2 : ilst (ns ++ [x]) = .lst (ns.map V.int ++ [V.int x]) := by rw [ilst, List.map_append]; rfl
  rw [e2]
  exact z
theorem IntsUp.step {P : List Int → Prop} {D : Addr} {k : Nat} {ns : List Int} {x : Int} {H2 : Hp} (e : ns.length = k) (hk : k < 100000) (p : P (ns ++ [x])) (l : Led H [(D, ilst ns)] H2) :
    ∃ acc, H2 D = some (.lst acc) ∧ acc.length < sizeLine ∧ IntsUp H P D (k + 1) (upd H2 D (.lst (acc ++ [V.int x]))) :=
  ⟨ns.map V.int, l.get 0 rfl, by rw [List.length_map]; exact Nat.lt_of_lt_of_le (show ns.length < 100000 by omega) (by decide), ns ++ [x], by rw [List.length_append, e]; rfl, p, ints_push l⟩
theorem lcRI {lo : Int} {n : Nat} (P : List Int → Prop) (h0 : P []) (hn : n ≤ 100000) (hw : ∀ x : Int, wipe ((wipe σ vs).set i (some (.int x))) vs = wipe σ vs)
    (hs : ∀ D k ns H1 (R : VK), k < n → ns.length = k → P ns → Led H [(D, ilst ns)] H1 → (∀ x H2, P (ns ++ [x]) → Led H [(D, ilst ns)] H2 → R (.int x) H2) → te ((wipe σ vs).set i (some (.int (lo + k)))) H1 R)
    (hd : ∀ D ns H1, H D = none → ns.length = n → P ns → Same H H1 → H1 D = some (ilst ns) → Q (.ref D) H1) : LcR lo n i tYes te vs σ H Q :=
  lcR (IntsUp H P) (fun D nD => IntsUp.start h0 D nD) hw (fun D k H1 nD hk ⟨ns, e, p1, l1⟩ => hs D k ns H1 _ hk e p1 l1 fun x H2 p2 l2 => IntsUp.step e (by omega) p2 l2)
    (fun D H1 nD ⟨ns, e, p1, l1⟩ => hd D ns H1 nD e p1 l1.same (l1.get 0 rfl))
theorem lcLI {a : Addr} {xs : List V} (P : List Int → Prop) (h0 : P []) (hn : xs.length ≤ 100000) (s : SqL K H a xs) (hw : ∀ x : V, wipe ((wipe σ vs).set i (some x)) vs = wipe σ vs)
    (hs : ∀ D k v ns H1 (R : VK), xs[k]? = some v → ns.length = k → P ns → Led H [(D, ilst ns)] H1 → (∀ x H2, P (ns ++ [x]) → Led H [(D, ilst ns)] H2 → R (.int x) H2) → te ((wipe σ vs).set i (some v)) H1 R)
    (hd : ∀ D ns H1, H D = none → ns.length = xs.length → P ns → Same H H1 → H1 D = some (ilst ns) → Q (.ref D) H1) : LcL K a i tYes te vs σ H Q :=
  lcL (xs := xs) (IntsUp H P) (fun D nD => IntsUp.start h0 D nD) (fun D k H1 _ ⟨ns, e, p1, l1⟩ => l1.base s) hw
    (fun D k v H1 nD hx ⟨ns, e, p1, l1⟩ => hs D k v ns H1 _ hx e p1 l1 fun x H2 p2 l2 => IntsUp.step e (by have := (List.getElem?_eq_some_iff.mp hx).1; omega) p2 l2)
    (fun D H1 nD ⟨ns, e, p1, l1⟩ => hd D ns H1 nD e p1 l1.same (l1.get 0 rfl))
/-- noughts, one for each item -/
theorem lcL0 {a : Addr} {xs : List V} (z : Int) (hn : xs.length ≤ 100000) (s : SqL K H a xs) (hw : ∀ x : V, wipe ((wipe σ vs).set i (some x)) vs = wipe σ vs)
    (hd : ∀ D H1, H D = none → Same H H1 → H1 D = some (ilst (List.replicate xs.length z)) → Q (.ref D) H1) : LcL K a i tYes (tC (.int z)) vs σ H Q :=
  lcLI (fun ns => ns = List.replicate ns.length z) rfl hn s hw (fun D k v ns H1 R hx e p l q => q z H1 (by rw [List.length_append, p, ← List.replicate_append_replicate, List.length_replicate]; rfl) l)
    (fun D ns H1 nD e p sm hh => hd D H1 nD sm (by rw [← e, ← p]; exact hh))

/-! ### lists of rows -/
def rowLed (D : Addr) (as : List Addr) (rows : List (List Int)) : List (Addr × HO) := (D, .lst (as.map V.ref)) :: List.zipWith (fun a row => (a, ilst row)) as rows
theorem zip_at {as : List Addr} {rows : List (List Int)} {j : Nat} {a : Addr} {row : List Int} (e1 : as[j]? = some a) (e2 : rows[j]? = some row) : (List.zipWith (fun a row => (a, ilst row)) as rows)[j]? = some (a, ilst row) := by
  rw [List.getElem?_zipWith, e1, e2]
theorem Led.rowAt {B H1 : Hp} {D : Addr} {as : List Addr} {rows : List (List Int)} (l : Led B (rowLed D as rows) H1) (e : as.length = rows.length) : RowsAt H1 D rows :=
  ⟨as, l.get 0 rfl, e, fun j a row e1 e2 => l.get (j + 1) (show (rowLed D as rows)[j + 1]? = some (a, ilst row) from zip_at e1 e2)⟩
theorem Led.rowNew {H1 : Hp} {D : Addr} {as : List Addr} {rows : List (List Int)} (l : Led H (rowLed D as rows) H1) (e : as.length = rows.length) : NewRows H H1 D rows :=
  ⟨as, l.get 0 rfl, l.new D (key_at (i := 0) (o := .lst (as.map V.ref)) rfl), e, fun j a row e1 e2 => ⟨l.get (j + 1) (show (rowLed D as rows)[j + 1]? = some (a, ilst row) from zip_at e1 e2), l.new a (key_at (i := j + 1) (o := ilst row) (show (rowLed D as rows)[j + 1]? = some (a, ilst row) from zip_at e1 e2))⟩⟩
theorem rowLed_push {D r : Addr} {as : List Addr} {rows : List (List Int)} {row : List Int} (h : as.length = rows.length) :
    (rowLed D as rows ++ [(r, ilst row)]).set 0 (D, .lst (as.map V.ref ++ [V.ref r])) = rowLed D (as ++ [r]) (rows ++ [row]) := by
  show (D, HO.lst (as.map V.ref ++ [V.ref r])) :: (List.zipWith (fun a row => (a, ilst row)) as rows ++ [(r, ilst row)]) = _
  rw [rowLed, List.zipWith_append h, List.map_append]
  rfl
def RowsUp (H : Hp) (P : List (List Int) → Prop) (D : Addr) (k : Nat) (H1 : Hp) : Prop := ∃ (as : List Addr) (rows : List (List Int)), as.length = rows.length ∧ rows.length = k ∧ P rows ∧ Led H (rowLed D as rows) H1
theorem RowsUp.start {P : List (List Int) → Prop} (h0 : P []) (D : Addr) (nD : H D = none) : RowsUp H P D 0 (upd H D (.lst [])) := ⟨[], [], rfl, rfl, h0, (Led.nil H).alloc nD _⟩
theorem RowsUp.step {P : List (List Int) → Prop} {D r : Addr} {k : Nat} {as : List Addr} {rows : List (List Int)} {row : List Int} {H2 : Hp} (e0 : as.length = rows.length) (e : rows.length = k) (hk : k < 100000) (p : P (rows ++ [row])) (l : Led H (rowLed D as rows ++ [(r, ilst row)]) H2) :
    ∃ acc, H2 D = some (.lst acc) ∧ acc.length < sizeLine ∧ RowsUp H P D (k + 1) (upd H2 D (.lst (acc ++ [V.ref r]))) := by
  refine ⟨as.map V.ref, l.get 0 rfl, by rw [List.length_map]; exact Nat.lt_of_lt_of_le (show as.length < 100000 by omega) (by decide), as ++ [r], rows ++ [row], by simp [e0], by simp [e], p, ?_⟩
  rw [← rowLed_push e0]
  exact l.set (i := 0) rfl _
theorem lcRRows {lo : Int} {n : Nat} (P : List (List Int) → Prop) (h0 : P []) (hn : n ≤ 100000) (hw : ∀ x : Int, wipe ((wipe σ vs).set i (some (.int x))) vs = wipe σ vs)
    (hs : ∀ D k as rows H1 (R : VK), k < n → rows.length = k → P rows → Led H (rowLed D as rows) H1 → (∀ r row H2, P (rows ++ [row]) → Led H (rowLed D as rows ++ [(r, ilst row)]) H2 → R (.ref r) H2) → te ((wipe σ vs).set i (some (.int (lo + k)))) H1 R)
    (hd : ∀ D rows H1, rows.length = n → P rows → Same H H1 → NewRows H H1 D rows → Q (.ref D) H1) : LcR lo n i tYes te vs σ H Q :=
  lcR (RowsUp H P) (fun D nD => RowsUp.start h0 D nD) hw (fun D k H1 nD hk ⟨as, rows, e0, e, p1, l1⟩ => hs D k as rows H1 _ hk e p1 l1 fun r row H2 p2 l2 => RowsUp.step e0 e (by omega) p2 l2)
    (fun D H1 nD ⟨as, rows, e0, e, p1, l1⟩ => hd D rows H1 e p1 l1.same (l1.rowNew e0))
theorem lcLRows {a : Addr} {xs : List V} (P : List (List Int) → Prop) (h0 : P []) (hn : xs.length ≤ 100000) (s : SqL K H a xs) (hw : ∀ x : V, wipe ((wipe σ vs).set i (some x)) vs = wipe σ vs)
    (hs : ∀ D k v as rows H1 (R : VK), xs[k]? = some v → rows.length = k → P rows → Led H (rowLed D as rows) H1 → (∀ r row H2, P (rows ++ [row]) → Led H (rowLed D as rows ++ [(r, ilst row)]) H2 → R (.ref r) H2) → te ((wipe σ vs).set i (some v)) H1 R)
    (hd : ∀ D rows H1, rows.length = xs.length → P rows → Same H H1 → NewRows H H1 D rows → Q (.ref D) H1) : LcL K a i tYes te vs σ H Q :=
  lcL (xs := xs) (RowsUp H P) (fun D nD => RowsUp.start h0 D nD) (fun D k H1 _ ⟨as, rows, e0, e, p1, l1⟩ => l1.base s) hw
    (fun D k v H1 nD hx ⟨as, rows, e0, e, p1, l1⟩ => hs D k v as rows H1 _ hx e p1 l1 fun r row H2 p2 l2 => RowsUp.step e0 e (by have := (List.getElem?_eq_some_iff.mp hx).1; omega) p2 l2)
    (fun D H1 nD ⟨as, rows, e0, e, p1, l1⟩ => hd D rows H1 e p1 l1.same (l1.rowNew e0))
theorem lcVRows {a : Addr} {xs : List V} (P : List (List Int) → Prop) (h0 : P []) (hn : xs.length ≤ 100000) (s : SqL K H a xs) (hw : ∀ x : V, wipe ((wipe σ vs).set i (some x)) vs = wipe σ vs)
    (hs : ∀ D k v as rows H1 (R : VK), k < xs.length → xs[xs.length - 1 - k]? = some v → rows.length = k → P rows → Led H (rowLed D as rows) H1 → (∀ r row H2, P (rows ++ [row]) → Led H (rowLed D as rows ++ [(r, ilst row)]) H2 → R (.ref r) H2) → te ((wipe σ vs).set i (some v)) H1 R)
    (hd : ∀ D rows H1, rows.length = xs.length → P rows → Same H H1 → NewRows H H1 D rows → Q (.ref D) H1) : LcV K a xs.length i tYes te vs σ H Q :=
  lcV (xs := xs) (RowsUp H P) (fun D nD => RowsUp.start h0 D nD) (fun D k H1 ⟨as, rows, e0, e, p1, l1⟩ => l1.base s) hw
    (fun D k v H1 nD hk hx ⟨as, rows, e0, e, p1, l1⟩ => hs D k v as rows H1 _ hk hx e p1 l1 fun r row H2 p2 l2 => RowsUp.step e0 e (by omega) p2 l2)
    (fun D H1 nD ⟨as, rows, e0, e, p1, l1⟩ => hd D rows H1 e p1 l1.same (l1.rowNew e0))
/-- an item of rows, by its address -/
theorem RowsAt.sq {p : Addr} {rows : List (List Int)} (R : RowsAt H p rows) : ∃ as : List Addr, SqL K H p (as.map V.ref) ∧ as.length = rows.length ∧ ∀ (k : Nat) (v : V), (as.map V.ref)[k]? = some v → ∃ r, v = .ref r ∧ k < rows.length ∧ SqL K H r ((rows.getD k []).map V.int) := by
  obtain ⟨as, e1, e2, e3⟩ := R
  refine ⟨as, SqL.of e1, e2, fun k v hv => ?_⟩
  have hk : k < as.length := by
    have := (List.getElem?_eq_some_iff.mp hv).1
    simpa using this
  have hk2 : k < rows.length := by omega
  rw [List.getElem?_map, List.getElem?_eq_getElem hk] at hv
  cases hv
  refine ⟨_, rfl, hk2, SqL.of ?_⟩
  rw [List.getD_eq_getElem?_getD, List.getElem?_eq_getElem hk2]
  exact e3 k _ _ (List.getElem?_eq_getElem hk) (List.getElem?_eq_getElem hk2)
theorem RowsAt.sql {p : Addr} {rows : List (List Int)} (R : RowsAt H p rows) : ∃ xs, SqL K H p xs := by
  obtain ⟨as, e1, _⟩ := R
  exact ⟨_, SqL.of e1⟩
theorem g_lstwR {a : Addr} {rows : List (List Int)} {R : Addr → Prop} (s : RowsAt H a rows) (h : R a) : ∃ b, V.ref a = .ref b ∧ (∃ xs, SqL K H b xs) ∧ R b := ⟨a, rfl, s.sql, h⟩
theorem g_list {p : Addr} {xs : List V} (s : SqL K H p xs) (h : ∀ l, H l = none → Q (.ref l) (upd H l (.lst xs))) : mList K [.ref p] H Q := ⟨p, xs, rfl, .inl s, h⟩
theorem lcRows0 {a : Addr} {rows : List (List Int)} {z : Int} (R : RowsAt H a rows) (hn : rows.length ≤ 100000) (hw : ∀ x : V, wipe ((wipe σ vs).set i (some x)) vs = wipe σ vs)
    (hd : ∀ D H1, H D = none → Same H H1 → H1 D = some (ilst (List.replicate rows.length z)) → Q (.ref D) H1) : LcL K a i tYes (tC (.int z)) vs σ H Q := by
  obtain ⟨as, e1, e2, _⟩ := R.sq (K := K)
  refine lcL0 z (by rw [List.length_map, e2]; exact hn) e1 hw fun D H1 nD s e => hd D H1 nD s ?_
  rw [List.length_map, e2] at e
  exact e
/-- each row copied -/
theorem lcCopy {a : Addr} {rows : List (List Int)} (R : RowsAt H a rows) (hn : rows.length ≤ 100000) (hw : ∀ x : V, wipe ((wipe σ vs).set i (some x)) vs = wipe σ vs) (hi : ∀ x : V, ((wipe σ vs).set i (some x))[i]? = some (some x))
    (hd : ∀ D H1, Same H H1 → NewRows H H1 D rows → Q (.ref D) H1) : LcL K a i tYes (tCB (mList K) (tCons (tVar i) tNil)) vs σ H Q := by
  obtain ⟨as, e1, e2, e3⟩ := R.sq (K := K)
  refine lcLRows (fun rs => rs = rows.take rs.length) rfl (by rw [List.length_map, e2]; exact hn) e1 hw (fun D k v bs rs H1 S hx e p l q => ?_) (fun D rs H1 e p s n => hd D H1 s ?_)
  · obtain ⟨r, rfl, hk, hr⟩ := e3 k v hx
    refine g_cb (g_cons (g_var (hi _) (g_nil (g_list (l.base hr) fun m nm => q m (rows.getD k []) _ ?_ (l.alloc nm _)))))
    rw [List.length_append, e]
    show rs ++ [rows.getD k []] = rows.take (k + 1)
    rw [p, e, List.take_add_one, List.getD_eq_getElem?_getD, List.getElem?_eq_getElem hk]
    rfl
  · rw [List.length_map, e2] at e
    rw [e, List.take_length] at p
    rw [← p]
    exact n
end

/-! ### stores, methods of lists -/
section
variable {K : PySem.W.Frag} {σ : L2.St} {H : Hp} {Q : VK} {B : Hp} {L : List (Addr × HO)}
theorem g_sub {to ti : TE} {t : TSet} {v : V} {R : L2.St → Hp → Prop} (h : to σ H fun o H1 => ti σ H1 fun i H2 => t o i v H2 fun H3 => R σ H3) : gSub to ti t v σ H R := h
theorem g_bm {T : String} {r : V → List V → Hp → VK → Prop} {to : TE} {t : TA} (h : to σ H fun x H1 => tyV K T x H1 ∧ t σ H1 fun xs H2 => r x xs H2 Q) : tBM K T r to t σ H Q := h
theorem g_ty {p : Addr} {xs : List V} {R : Prop} (s : SqL K H p xs) (h : R) : tyV K "list" (.ref p) H ∧ R := ⟨.inl ⟨rfl, xs, s⟩, h⟩
theorem ixN_of {n : Nat} {i : Int} (h0 : 0 ≤ i) (h1 : i < n) : ixN n i = some i.toNat := by
  unfold ixN
  rw [if_pos h0, if_pos h1]
theorem set_map {ns : List Int} {j : Nat} {x : Int} : (ns.map V.int).set j (V.int x) = (ns.set j x).map V.int := List.map_set.symm
/-- xs[i] = x, a list of ints of the ledger -/
theorem g_setL (led : Led B L H) (j : Nat) {p : Addr} {ns : List Int} {i x : Int} {R : Hp → Prop} (e : L[j]? = some (p, ilst ns)) (h0 : 0 ≤ i) (h1 : i < ns.length) (q : ∀ H', Led B (L.set j (p, ilst (ns.set i.toNat x))) H' → R H') :
    rSetL (.ref p) (.int i) (.int x) H R := by
  refine ⟨p, ns.map V.int, i, i.toNat, rfl, rfl, led.get j e, ?_, ?_⟩
  · rw [List.length_map]
    exact ixN_of h0 h1
  · rw [set_map]
    exact q _ (led.set e _)
theorem g_setM (led : Led B L H) (j : Nat) {p : Addr} {ns : List Int} {i x : Int} {R : Hp → Prop} (e : L[j]? = some (p, ilst ns)) (h0 : i < 0) (h1 : 0 ≤ ns.length + i) (q : ∀ H', Led B (L.set j (p, ilst (ns.set ((ns.length : Int) + i).toNat x))) H' → R H') :
    rSetL (.ref p) (.int i) (.int x) H R := by
  refine ⟨p, ns.map V.int, i, ((ns.length : Int) + i).toNat, rfl, rfl, led.get j e, ?_, ?_⟩
  · unfold ixN
    rw [List.length_map, if_neg (by omega), if_pos (by omega), Int.add_comm]
  · rw [set_map]
    exact q _ (led.set e _)
/-- the same of any items -/
theorem g_setV (led : Led B L H) (j : Nat) {p : Addr} {xs : List V} {i : Int} {x : V} {R : Hp → Prop} (e : L[j]? = some (p, .lst xs)) (h0 : 0 ≤ i) (h1 : i < xs.length) (q : ∀ H', Led B (L.set j (p, .lst (xs.set i.toNat x))) H' → R H') :
    rSetL (.ref p) (.int i) x H R := ⟨p, xs, i, i.toNat, rfl, rfl, led.get j e, ixN_of h0 h1, q _ (led.set e _)⟩
theorem g_app (led : Led B L H) (j : Nat) {p : Addr} {xs : List V} {x : V} (e : L[j]? = some (p, .lst xs)) (hl : xs.length < 100000) (q : ∀ H', Led B (L.set j (p, .lst (xs ++ [x]))) H' → Q .non H') :
    rAppend (.ref p) [x] H Q := ⟨p, xs, x, rfl, rfl, led.get j e, Nat.lt_of_lt_of_le hl (by decide), q _ (led.set e _)⟩
theorem g_appI (led : Led B L H) (j : Nat) {p : Addr} {ns : List Int} {x : Int} (e : L[j]? = some (p, ilst ns)) (hl : ns.length < 100000) (q : ∀ H', Led B (L.set j (p, ilst (ns ++ [x]))) H' → Q .non H') :
    rAppend (.ref p) [.int x] H Q := by
  refine g_app led j e (by rw [List.length_map]; exact hl) ?_
  have e2 : ilst (ns ++ [x]) = .lst (ns.map V.int ++ [V.int x]) := by rw [ilst, List.map_append]; rfl
  rw [← e2]
  exact q
theorem g_ins (led : Led B L H) (j : Nat) {p : Addr} {ns : List Int} {i x : Int} (e : L[j]? = some (p, ilst ns)) (hl : ns.length < 100000) (h0 : 0 ≤ i) (h1 : i < 2 ^ 63) (q : ∀ H', Led B (L.set j (p, ilst (ns.take i.toNat ++ [x] ++ ns.drop i.toNat))) H' → Q .non H') :
    rInsert (.ref p) [.int i, .int x] H Q := by
  refine ⟨p, ns.map V.int, i, .int x, rfl, rfl, led.get j e, by rw [List.length_map]; exact Nat.lt_of_lt_of_le hl (by decide), h0, h1, ?_⟩
  have e2 : (.lst ((ns.map V.int).take i.toNat ++ [V.int x] ++ (ns.map V.int).drop i.toNat) : HO) = ilst (ns.take i.toNat ++ [x] ++ ns.drop i.toNat) := by
    rw [ilst, List.map_append, List.map_append, List.map_take, List.map_drop]
    rfl
  rw [e2]
  exact q _ (led.set e _)
end

/-! ### instances: calls of methods, makings, fields -/
section
variable {K : PySem.W.Frag} {G : Ads} {σ : L2.St} {H : Hp} {Q : VK} {B : Hp} {L : List (Addr × HO)} {D : Ends}
theorem app_nil_fun {R : List V → Hp → Prop} : (fun (vs : List V) H1 => R (vs ++ []) H1) = R := by
  funext vs H1
  rw [List.append_nil]
theorem g_make {C : Addr} {sp : Sp} {E : XK} {ta : TA} (h : ta σ H fun vs H1 => ∀ x dx, H1 x = none → H1 dx = none → dx ≠ x → sp (.ref x :: vs) (upd (upd H1 dx (.own x)) x (.ins C dx [])) (fun v H2 => v = .non ∧ Q (.ref x) H2) E) : tMake C sp [] E ta σ H Q := by
  have e := app_nil_fun (R := fun vs H1 => ∀ x dx, H1 x = none → H1 dx = none → dx ≠ x → sp (.ref x :: vs) (upd (upd H1 dx (.own x)) x (.ins C dx [])) (fun v H2 => v = .non ∧ Q (.ref x) H2) E)
  show ta σ H _
  rw [← e] at h
  exact h
theorem g_meth {C : Addr} {m : Str} {sp : Sp} {E : XK} {to : TE} {ta : TA} (h : to σ H fun x H1 => ∃ a dx fs, x = .ref a ∧ H1 a = some (.ins C dx fs) ∧ fs.lookup m = none ∧ ta σ H1 fun vs H2 => sp (x :: vs) H2 Q E) : tMeth C m sp [] E to ta σ H Q := by
  have e : ∀ x : V, (fun (vs : List V) H2 => sp (x :: (vs ++ [])) H2 Q E) = fun vs H2 => sp (x :: vs) H2 Q E := fun x => by
    funext vs H2
    rw [List.append_nil]
  show to σ H fun x H1 => ∃ a dx fs, x = .ref a ∧ H1 a = some (.ins C dx fs) ∧ fs.lookup m = none ∧ ta σ H1 fun vs H2 => sp (x :: (vs ++ [])) H2 Q E
  simp only [e]
  exact h
theorem g_self {C a dx : Addr} {fs : List (Str × V)} {m : Str} {R : Prop} (e : H a = some (.ins C dx fs)) (l : fs.lookup m = none) (h : R) : ∃ a' dx' fs', V.ref a = .ref a' ∧ H a' = some (.ins C dx' fs') ∧ fs'.lookup m = none ∧ R := ⟨a, dx, fs, rfl, e, l, h⟩
theorem g_methT {C : Addr} {m : Str} {sp : Sp} {E : L2.St → XK} {to : TE} {ta : TA} (h : to σ H fun x H1 => ∃ a dx fs, x = .ref a ∧ H1 a = some (.ins C dx fs) ∧ fs.lookup m = none ∧ ta σ H1 fun vs H2 => sp (x :: vs) H2 Q (E σ)) : tMethT C m sp E to ta σ H Q := h
theorem g_makeT {C : Addr} {sp : Sp} {E : L2.St → XK} {ta : TA} (h : ta σ H fun vs H1 => ∀ x dx, H1 x = none → H1 dx = none → dx ≠ x → sp (.ref x :: vs) (upd (upd H1 dx (.own x)) x (.ins C dx [])) (fun v H2 => v = .non ∧ Q (.ref x) H2) (E σ)) : tMakeT C sp E ta σ H Q := h
theorem g_callS {sp : Sp} {E : L2.St → XK} {ta : TA} (h : ta σ H fun vs H1 => sp vs H1 Q (E σ)) : tCallS sp E ta σ H Q := h
theorem g_sfld {ta tv : TE} {f : Str} (h : tv σ H fun y H1 => ta σ H1 fun x H2 => ∃ a C dx fs, x = .ref a ∧ H2 a = some (.ins C dx fs) ∧ Cls K C ∧ NoAttr K C f ∧ fs.length < 1000 ∧ D.nx σ (upd H2 a (.ins C dx (putF f y fs)))) : sFld K ta tv f D σ H := h
/-- self.f = v, the instance in the ledger -/
theorem g_put (led : Led B L H) (j : Nat) {C a dx : Addr} {fs fs' : List (Str × V)} {f : Str} {v : V} {R : Hp → Prop} (e : L[j]? = some (a, .ins C dx fs)) (c : Cls K C) (n : NoAttr K C f) (hl : fs.length < 1000) (ep : putF f v fs = fs') (q : ∀ H', Led B (L.set j (a, .ins C dx fs')) H' → R H') :
    ∃ a' C' dx' gs, V.ref a = .ref a' ∧ H a' = some (.ins C' dx' gs) ∧ Cls K C' ∧ NoAttr K C' f ∧ gs.length < 1000 ∧ R (upd H a' (.ins C' dx' (putF f v gs))) := by
  subst ep
  exact ⟨a, C, dx, fs, rfl, led.get j e, c, n, hl, q _ (led.set e _)⟩
/-- one object taken out of what stands -/
theorem Led.one {b : Addr} {o : HO} (h : H b = some o) : ∃ B, Led B [(b, o)] H ∧ ∀ q u, H q = some u → q ≠ b → B q = some u := by
  classical
  refine ⟨fun a => if a = b then none else H a, ⟨fun a u e => ?_, fun i p u e => ?_, by simp, fun p hp => ?_⟩, fun q u e n => ?_⟩
  · by_cases z : a = b
    · rw [show (if a = b then none else H a) = none from if_pos z] at e
      cases e
    · rw [show (if a = b then none else H a) = H a from if_neg z] at e
      exact e
  · cases i with
    | zero =>
      cases e
      exact h
    | succ i => simp at e
  · simp at hp
    subst hp
    exact if_pos rfl
  · show (if q = b then none else H q) = some u
    rw [if_neg n]
    exact e
/-- reading a board's fields -/
theorem g_bfld {b dx : Addr} {fs : List (Str × V)} {f : Str} {v : V} {R : V → Prop} (e : H b = some (.ins G.Board dx fs)) (c : Cls K G.Board) (n : NoAttr K G.Board f) (l : fs.lookup f = some v) (h : R v) :
    ∃ a' C' dx' fs' v', V.ref b = .ref a' ∧ H a' = some (.ins C' dx' fs') ∧ Cls K C' ∧ NoAttr K C' f ∧ fs'.lookup f = some v' ∧ R v' := ⟨b, G.Board, dx, fs, v, rfl, e, c, n, l, h⟩
end
/-! ### isinstance, indices from the end -/
section
variable {K : PySem.W.Frag} {H : Hp} {Q : VK}
theorem isi_int {i : Int} {c : String} {b : Bool} (e : kitB "int" c = some b) (h : Q (.bl b) H) : rIsi K [.int i, .ty c] H Q := ⟨.int i, .ty c, .type "int", .type c, b, rfl, .ty c, .base (.int i), kit_ty e, h⟩
theorem isi_bl {i : Bool} {c : String} {b : Bool} (e : kitB "bool" c = some b) (h : Q (.bl b) H) : rIsi K [.bl i, .ty c] H Q := ⟨.bl i, .ty c, .type "bool", .type c, b, rfl, .ty c, .base (.bl i), kit_ty e, h⟩
theorem isi_lst {p : Addr} {xs : List V} {c : String} {b : Bool} (s : H p = some (.lst xs)) (e : kitB "list" c = some b) (h : Q (.bl b) H) : rIsi K [.ref p, .ty c] H Q := ⟨.ref p, .ty c, .type "list", .type c, b, rfl, .ty c, .base (.lst s), kit_ty e, h⟩
theorem atI_neg {ns : List Int} {i : Int} (h0 : i < 0) (h1 : 0 ≤ ns.length + i) : atI (ns.map V.int) i = some (.int (ns.getD (ns.length + i).toNat 0)) := by
  have hl : ((ns.length : Int) + i).toNat < ns.length := by omega
  have e : ixN (ns.map V.int).length i = some ((ns.length : Int) + i).toNat := by
    unfold ixN
    rw [List.length_map, if_neg (by omega), if_pos (by omega), Int.add_comm]
  unfold atI
  rw [e]
  show (ns.map V.int)[((ns.length : Int) + i).toNat]? = _
  rw [List.getElem?_map, List.getElem?_eq_getElem hl, List.getD_eq_getElem?_getD, List.getElem?_eq_getElem hl]
  rfl
theorem g_ixM {p : Addr} {ns : List Int} {i : Int} (s : SqL K H p (ns.map V.int)) (h0 : i < 0) (h1 : 0 ≤ ns.length + i) (h : Q (.int (ns.getD (ns.length + i).toNat 0)) H) : rIxL K (.ref p) (.int i) H Q :=
  ⟨p, _, i, _, rfl, rfl, s, atI_neg h0 h1, h⟩
end
section
variable {K : PySem.W.Frag} {σ : L2.St} {H : Hp} {Q : VK}
theorem g_sl {r : V → Option Int → Option Int → Hp → VK → Prop} {te : TE} {tl th : TO} (h : te σ H fun x H1 => tl σ H1 fun l H2 => th σ H2 fun u H3 => r x l u H3 Q) : tSl r te tl th σ H Q := h
theorem g_noPart {R : Option Int → Hp → Prop} (h : R none H) : tNoPart σ H R := h
theorem g_part {t : TE} {R : Option Int → Hp → Prop} (h : t σ H fun x H1 => ∃ i, x = .int i ∧ R (some i) H1) : tPart t σ H R := h
theorem g_partI {i : Int} {R : Int → Prop} (h : R i) : ∃ j, V.int i = .int j ∧ R j := ⟨i, rfl, h⟩
/-- xs[:-1] of ints -/
theorem cut_init {ns : List Int} {x : Int} : cutV ((ns ++ [x]).map V.int) none (some (-1)) = ns.map V.int := by
  have e0 : ((ns ++ [x]).map V.int).length = ns.length + 1 := by simp
  have e1 : HT.sIx (ns.length + 1) (ns.length + 1) (some (-1)) = ns.length := by
    show (if (-1 : Int) < 0 then ((-1 : Int) + ((ns.length + 1 : Nat) : Int)).toNat else min (-1 : Int).toNat (ns.length + 1)) = _
    rw [if_pos (by decide)]
    omega
  unfold cutV
  rw [e0, e1]
  show List.take (ns.length - 0) ((ns ++ [x]).map V.int) = ns.map V.int
  rw [Nat.sub_zero, List.map_append, List.take_append_of_le_length (by simp), List.take_of_length_le (by simp)]
theorem g_slInit {p : Addr} {ns : List Int} {x : Int} (s : SqL K H p ((ns ++ [x]).map V.int)) (h : ∀ q, H q = none → Q (.ref q) (upd H q (ilst ns))) : rSlL K (.ref p) none (some (-1)) H Q :=
  ⟨p, _, rfl, s, fun q nq => by rw [cut_init]; exact h q nq⟩
/-- xs + ys of ints -/
theorem g_catI {p q : Addr} {ns ms : List Int} (e1 : H p = some (ilst ns)) (e2 : H q = some (ilst ms)) (hl : ns.length + ms.length ≤ 100000) (h : ∀ c, H c = none → Q (.ref c) (upd H c (ilst (ns ++ ms)))) : rCat (.ref p) (.ref q) H Q :=
  ⟨p, q, _, _, rfl, rfl, e1, e2, by rw [List.length_map, List.length_map]; exact Nat.le_trans hl (by decide), fun c nc => by
    have z := h c nc
    rw [ilst, List.map_append] at z
    exact z⟩
end
section
variable {K : PySem.W.Frag} {H : Hp} {Q : VK}
theorem isi_ii {i : Int} (h : Q (.bl true) H) : rIsi K [.int i, .ty "int"] H Q := isi_int (b := true) (by decide +kernel) h
theorem isi_ib {i : Int} (h : Q (.bl false) H) : rIsi K [.int i, .ty "bool"] H Q := isi_int (b := false) (by decide +kernel) h
theorem isi_ll {p : Addr} {xs : List V} (s : H p = some (.lst xs)) (h : Q (.bl true) H) : rIsi K [.ref p, .ty "list"] H Q := isi_lst (b := true) s (by decide +kernel) h
end
theorem ifNT {A B : Prop} (h : B) : if (!true) = true then A else B := h
theorem ifNF {A B : Prop} (h : A) : if (!false) = true then A else B := h
/-- the item ahead of place t, around -/
theorem g_ixLast {K : PySem.W.Frag} {H : Hp} {Q : VK} {p : Addr} {ns : List Int} {t : Int} (s : SqL K H p (ns.map V.int)) (h0 : 0 ≤ t) (h1 : t < ns.length) (h : Q (.int (ns.getD ((t - 1) % (ns.length : Int)).toNat 0)) H) : rIxL K (.ref p) (.int (t - 1)) H Q := by
  by_cases z : t = 0
  · subst z
    refine g_ixM s (by omega) (by omega) ?_
    have e : ((0 : Int) - 1) % (ns.length : Int) = ns.length + (0 - 1) := by
      rw [← Int.add_emod_right, Int.emod_eq_of_lt (by omega) (by omega)]
      omega
    rw [e] at h
    exact h
  · refine g_ixI s (by omega) (by omega) ?_
    rw [Int.emod_eq_of_lt (by omega) (by omega)] at h
    exact h

theorem g_try1 {K : PySem.W.Frag} {c : Value} {tb : WX → TS} {ts : Addr → Value → Option Addr → TS} {Wout : WX} {D : Ends} {σ : L2.St} {H : Hp} (h : tb (wOnly K c ts Wout D) D σ H) : tTry1 K c tb ts Wout D σ H := h
theorem g_tryAs {K : PySem.W.Frag} {c : Value} {i : Nat} {tb : WX → TS} {ts : Addr → Value → Option Addr → TS} {Wout : WX} {D : Ends} {σ : L2.St} {H : Hp} (h : tb (wAs K c i ts Wout D) D σ H) : tTryAs K c i tb ts Wout D σ H := h
theorem g_tryN {K : PySem.W.Frag} {tb : WX → TS} {l : List (Value × (Addr → Value → Option Addr → TS))} {Wout : WX} {D : Ends} {σ : L2.St} {H : Hp} (h : tb (wMany K Wout D l) D σ H) : tTryN K tb l Wout D σ H := h
/-- an item of rows that stood before -/
theorem g_rowB {K : PySem.W.Frag} {B H : Hp} {Q : VK} {p : Addr} {rows : List (List Int)} {i : Int} (s : Same B H) (R : RowsAt B p rows) (h0 : 0 ≤ i) (h1 : i < rows.length) (h : ∀ r, SqL K B r ((rows.getD i.toNat []).map V.int) → Q (.ref r) H) : rIxL K (.ref p) (.int i) H Q := by
  obtain ⟨as, e1, e2, e3⟩ := R
  have hl : i.toNat < rows.length := by omega
  have ha : i.toNat < as.length := by omega
  refine ⟨p, _, i, .ref as[i.toNat], rfl, rfl, SqL.of (s _ _ e1), at_of (j := i.toNat) (by omega) ?_, h _ (SqL.of ?_)⟩
  · rw [List.getElem?_map, List.getElem?_eq_getElem ha]
    rfl
  · have q := e3 i.toNat as[i.toNat] rows[i.toNat] (List.getElem?_eq_getElem ha) (List.getElem?_eq_getElem hl)
    rw [List.getD_eq_getElem?_getD, List.getElem?_eq_getElem hl]
    exact q
theorem take_getD {α : Type} {l : List α} {j : Nat} {d : α} (h : j < l.length) : l.take (j + 1) = l.take j ++ [l.getD j d] := by
  rw [List.getD_eq_getElem?_getD, List.take_add_one, List.getElem?_eq_getElem h]
  rfl
/-- an item of a new list of rows, with its place in the ledger -/
theorem g_rowLed {K : PySem.W.Frag} {B H : Hp} {Q : VK} {D : Addr} {as : List Addr} {rows : List (List Int)} {i : Int} (led : Led B (rowLed D as rows) H) (e : as.length = rows.length) (h0 : 0 ≤ i) (h1 : i < rows.length)
    (q : ∀ r, (rowLed D as rows)[i.toNat + 1]? = some (r, ilst (rows.getD i.toNat [])) → Q (.ref r) H) : rIxL K (.ref D) (.int i) H Q := by
  have hl : i.toNat < rows.length := by omega
  have ha : i.toNat < as.length := by omega
  refine ⟨D, _, i, .ref as[i.toNat], rfl, rfl, SqL.of (led.get 0 rfl), at_of (j := i.toNat) (by omega) ?_, q _ ?_⟩
  · rw [List.getElem?_map, List.getElem?_eq_getElem ha]
    rfl
  · rw [List.getD_eq_getElem?_getD, List.getElem?_eq_getElem hl]
    exact zip_at (List.getElem?_eq_getElem ha) (List.getElem?_eq_getElem hl)
theorem Led.rebaseN {B H H' : Hp} {L : List (Addr × HO)} (h : Led B L H) (s : Same H H') : ∃ B', Same B B' ∧ Led B' L H' ∧ ∀ p o, H' p = some o → H p = none → B' p = some o := by
  obtain ⟨B', s1, l1, k⟩ := (h.ext s).rebase
  exact ⟨B', s1, l1, fun p o e n => k p o e (h.out n)⟩
theorem NewRows.into {H H' B : Hp} {q : Addr} {rows : List (List Int)} (n : NewRows H H' q rows) (k : ∀ p o, H' p = some o → H p = none → B p = some o) : RowsAt B q rows := by
  obtain ⟨as, e1, e0, e2, e3⟩ := n
  exact ⟨as, k _ _ e1 e0, e2, fun i r row h1 h2 => k _ _ (e3 i r row h1 h2).1 (e3 i r row h1 h2).2⟩
theorem NewB.into {C : Addr} {H H' B : Hp} {b dx r t l s : Addr} {rows : List (List Int)} {turns loads steps : List Int} {taken : Int} (n : NewB C H H' b dx r t l s rows turns loads steps taken) (k : ∀ p o, H' p = some o → H p = none → B p = some o) : BdAt C B b dx r t l s rows turns loads steps taken := by
  obtain ⟨B1, s1, nr, l1⟩ := n
  have f : ∀ x, x ∈ (bl C b dx r t l s turns loads steps taken).map Prod.fst → H x = none := fun x hx => s1.free (l1.new x hx)
  exact ⟨k _ _ (l1.get 0 rfl) (f _ (by simp)), (nr.mono l1.same).into k, k _ _ (l1.get 1 rfl) (f _ (by simp)), k _ _ (l1.get 2 rfl) (f _ (by simp)), k _ _ (l1.get 3 rfl) (f _ (by simp))⟩
theorem isi_bb {K : PySem.W.Frag} {H : Hp} {Q : VK} {i : Bool} (h : Q (.bl true) H) : rIsi K [.bl i, .ty "bool"] H Q := isi_bl (b := true) (by decide +kernel) h
theorem g_eqB1 {H : Hp} {Q : VK} {i j : Bool} (e : i = j) (h : Q (.bl true) H) : rEq (.bl i) (.bl j) H Q := g_eqB (by rw [decide_eq_true e]; exact h)
/-- [[x]], just laid -/
theorem rowsOne {H : Hp} {p q : Addr} {x : Int} (np : H p = none) (nq : upd H p (.lst [V.int x]) q = none) : NewRows H (upd (upd H p (.lst [V.int x])) q (.lst [V.ref p])) q [[x]] := by
  have ne : q ≠ p := fun z => by
    subst z
    rw [upd_same] at nq
    cases nq
  refine ⟨[p], upd_same, (same_upd (o := .lst [V.int x]) np).free nq, rfl, fun i r row h1 h2 => ?_⟩
  cases i with
  | zero =>
    cases h1
    cases h2
    exact ⟨by rw [upd_ne ne.symm]; exact upd_same, np⟩
  | succ i => simp at h1
theorem Led.back {B B' H : Hp} {L : List (Addr × HO)} (h : Led B' L H) (s : Same B B') : Led B L H := ⟨s.trans h.same, h.at_, h.nd, fun p hp => s.free (h.new p hp)⟩
theorem g_notNn {H : Hp} {Q : VK} (h : Q (.bl false) H) : rNotN .non .non H Q := ⟨rfl, h⟩
theorem g_notNi {H : Hp} {Q : VK} {i : Int} (h : Q (.bl true) H) : rNotN (.int i) .non H Q := ⟨rfl, h⟩
theorem g_isNn {H : Hp} {Q : VK} (h : Q (.bl true) H) : rIsN .non .non H Q := ⟨rfl, h⟩
theorem g_isNi {H : Hp} {Q : VK} {i : Int} (h : Q (.bl false) H) : rIsN (.int i) .non H Q := ⟨rfl, h⟩
/-- isinstance(board, Board) -/
structure BdIs (K : PySem.W.Frag) (G : Ads) : Prop where
  ha : PySem.W.findIn K (.ref G.Board) "__class__" = some (some (.builtin "object.__class__"))
  hn : PySem.W.specialIn K (.builtin "object.__class__") "__get__" = some (some (.builtin "getset_descriptor.__get__"))
  ht : PySem.W.takesIn K (.builtin "object.__class__") = some true
  hm : PySem.W.mroIn K G.Board (.type "object") = some true
  ki : PySem.W.kitOne K (.ref G.Board) (.ref G.Board) = some true
theorem isi_board {K : PySem.W.Frag} {G : Ads} {H : Hp} {Q : VK} {b dx : Addr} {fs : List (Str × V)} (bi : BdIs K G) (bd : BdOk K G) (e : H b = some (.ins G.Board dx fs)) (h : Q (.bl true) H) : rIsi K [.ref b, .ref G.Board] H Q :=
  ⟨.ref b, .ref G.Board, .ref G.Board, .ref G.Board, true, rfl, .own _, .base (.ins e bd.cl bi.ha bi.hn bi.ht bi.hm), bi.ki, h⟩
/-- an item of any list -/
theorem g_ixV {K : PySem.W.Frag} {H : Hp} {Q : VK} {p : Addr} {xs : List V} {i : Int} {v : V} (s : SqL K H p xs) (h0 : 0 ≤ i) (e : xs[i.toNat]? = some v) (h : Q v H) : rIxL K (.ref p) (.int i) H Q :=
  ⟨p, _, i, _, rfl, rfl, s, at_of (j := i.toNat) (by omega) e, h⟩

/-! methods and makings inside a try body; isinstance of a caught error -/
section
variable {X : Cx} {CX : CXT} {k : Nat} {f C : Addr} {fd : FuncData} {ps : List Str} {sp : Sp} {E : L2.St → XK} {x m : Str} {p pos apos : Pos} {e o : Expr} {es : List Expr} {ta : TE} {t : TA}
theorem pe_methT {pl : Sem Bool} (he : PE X o ta) (c : Cls X.K C) (hm : Meth X.K C m f) (F : FnOk X.prog X.w X.K X.mg X.base CX k f fd ps sp) (hr : Room k X.A) (hb : Binds X.K fd ps []) (hx : ∀ σ, PassesAt CX X σ (E σ)) (ha : PA X (e :: es) t)
    (hst : starEach (e :: es) X.env = (false, eval e X.env) :: starEach es X.env := by rfl) (hpl : (backTo pos (starEach es X.env)).any (·.1) = false := by rfl)
    (ht : eval (.Call (.Attribute o m apos) (e :: es) [] pos) X.env = (do
      let ov ← eval o X.env
      standAt apos.atName
      let (f, first) ← holding [ov] (getMethod ov m pl)
      callWith pos f first (backTo pos (starEach (e :: es) X.env)) (backToKw pos (keywordEach [] X.env))) := by rfl) :
    PE X (.Call (.Attribute o m apos) (e :: es) [] pos) (tMethT C m sp E ta t) := by
  refine ⟨fun pins s σ H Q I h => ?_⟩
  refine PySem.W.methodCall_KW (pl := pl) (thn (he.run pins s σ H _ I h) fun u s1 ⟨x, H1, I1, rx, a, dx, fs, ex, ea, l, q⟩ => ?_) ht
  subst ex
  obtain rfl : u = Value.ref a := rx
  refine getmeth_ok I1 ea c hm l ?_
  refine PySem.W.callWith_K (first := [.ref a]) (h₀ := X.base) I.ok.mod.kin hm.kp (thn (ha.run pos pins s1 σ H1 _ I1 q) fun us s2 ⟨vs, H2, I2, r, q2⟩ => ⟨I2.kIn, ?_⟩) hst hpl
  exact run_fnS (us := .ref a :: us) (vs := .ref a :: vs) F hr hb (hx σ) I2 (.cons rfl r) q2
theorem run_makeS {pins : List (Addr × Obj)} {σ : L2.St} {H : Hp} {s : Shared} {Q : VK} {us : List Value} {vs : List V} (M : Mk X.K C f) (F : FnOk X.prog X.w X.K X.mg X.base CX k f fd ps sp) (hr : Room (k + 1) X.A) (hb : Binds X.K fd ps [])
    (hx : PassesAt CX X σ (E σ)) (I : Inv X pins σ H s) (r : Vals vs us)
    (h : ∀ x dx, H x = none → H dx = none → dx ≠ x → sp (.ref x :: vs) (upd (upd H dx (.own x)) x (.ins C dx [])) (fun v H2 => v = .non ∧ Q (.ref x) H2) (E σ)) :
    wpAny (model X.prog X.w) X.A (call (.ref C) us) (EP X pins σ Q) X.xe s := by
  have hq := h (s.heap.objs.size + 1) s.heap.objs.size (I.hok.fresh (Nat.le_succ _)) (I.hok.fresh (Nat.le_refl _)) (Nat.ne_of_lt (Nat.lt_succ_self _))
  have I2 := Inv.made (C := C) I
  have r2 : Vals (V.ref (s.heap.objs.size + 1) :: vs) (Value.ref (s.heap.objs.size + 1) :: us) := .cons rfl r
  have hl : (Value.ref (s.heap.objs.size + 1) :: us).length = ps.length := by
    have e := r2.length
    rw [F.len _ _ _ _ hq] at e
    exact e.symm
  have b := hb { s with heap := _ } (Value.ref (s.heap.objs.size + 1) :: us) I2.kIn (by rw [List.append_nil]; exact hl)
  rw [List.append_nil] at b
  refine wpAny_call (make_map (f := f) I.kIn M.makes M.init (beq_iff_eq.mp M.fn) (codeAny_mono (F.run _ X.stack _ _ ⟨Value.ref (s.heap.objs.size + 1) :: us, []⟩ (Value.ref (s.heap.objs.size + 1) :: us) _ _ (E σ) (hr.make C us [])
    (I2.env0.make C us []) b r2 hq) fun r s' hq' => ?_))
  cases r with
  | error e => exact hx pins _ _ e s' I2 hq'
  | ok fl =>
    cases fl with
    | ret u =>
      obtain ⟨v, H', I3, rv, ev, q3⟩ := I2.after hq'
      subst ev
      exact ⟨rv, ⟨V.ref (s.heap.objs.size + 1), H', I3, rfl, q3⟩⟩
    | next => exact False.elim hq'
    | brk => exact False.elim hq'
    | cont => exact False.elim hq'
theorem pe_makeT (M : Mk X.K C f) (F : FnOk X.prog X.w X.K X.mg X.base CX k f fd ps sp) (hr : Room (k + 1) X.A) (hg : Gl X x) (hm : X.mg x = some (.ref C)) (hb : Binds X.K fd ps []) (hx : ∀ σ, PassesAt CX X σ (E σ))
    (ha : PA X (e :: es) t) (hdb : (x == ("__debug__" : Str)) = false := by decide) (he : starEach (e :: es) X.env = (false, eval e X.env) :: starEach es X.env := by rfl) (hpl : (backTo pos (starEach es X.env)).any (·.1) = false := by rfl) :
    PE X (.Call (.Name x p) (e :: es) [] pos) (tMakeT C sp E t) := by
  refine ⟨fun pins s σ H Q I h => ?_⟩
  refine wpAny_Call_Name_kw (ld_glob I hg hm ?_ hdb)
  refine PySem.W.callWith_K (h₀ := X.base) I.ok.mod.kin M.kp (thn (ha.run pos pins s σ H _ I h) fun us s1 ⟨vs, H1, I1, r, q⟩ => ⟨I1.kIn, ?_⟩) he hpl
  exact run_makeS M F hr hb (hx σ) I1 r q
end
def rIsX (K : PySem.W.Frag) (a : Addr) (cls : Value) (d : Option Addr) : List V → Hp → VK → Prop := fun xs H Q => ∃ D, cls = .ref D ∧ d = none ∧ ExcC K D ∧ rIsE K D a xs H Q
theorem call_isX {X : Cx} {a : Addr} {cls : Value} {d : Option Addr} {oe : Obj} {pn : List (Addr × Obj)} (hz : Zc cls d oe) (hf : ∃ vs, oe.data = .fields vs) : CallR (X.suite a ((a, oe) :: pn)) (.builtin "isinstance") (rIsX X.K a cls d) := by
  intro pins s σ H xs us Q I r h
  obtain ⟨D, rfl, rfl, C, h⟩ := h
  exact call_isE C hz hf pins s σ H xs us Q I r h
/-- isinstance of the caught error of class D -/
theorem g_isX {K : PySem.W.Frag} {a D c : Addr} {b : Bool} {H : Hp} {Q : VK} (C : ExcC K D) (e : PySem.W.kitOne K (.ref D) (.ref c) = some b) (q : Q (.bl b) H) : rIsX K a (.ref D) none [.ref a, .ref c] H Q :=
  ⟨D, rfl, rfl, C, .ref c, .ref c, b, rfl, fun _ h => h, e, q⟩
theorem g_isXt {K : PySem.W.Frag} {a D : Addr} {c : String} {b : Bool} {H : Hp} {Q : VK} (C : ExcC K D) (e : PySem.W.kitOne K (.ref D) (.type c) = some b) (q : Q (.bl b) H) : rIsX K a (.ref D) none [.ref a, .ty c] H Q :=
  ⟨D, rfl, rfl, C, .ty c, .type c, b, rfl, fun _ h => h, e, q⟩

local macro_rules | `(tactic| walk_at "sq") => `(tactic| first | assumption | exact SqL.of (by assumption) | exact Led.base (by assumption) (by assumption) | exact Led.sq (by assumption) 0 rfl | exact Led.sq (by assumption) 1 rfl | exact Led.sq (by assumption) 2 rfl | exact Led.sq (by assumption) 3 rfl | exact Led.sq (by assumption) 4 rfl | exact Led.sq (by assumption) 5 rfl | exact Led.sq (by assumption) 6 rfl | exact Led.sq (by assumption) 7 rfl | exact Led.sq (by assumption) 8 rfl | exact Led.sq (by assumption) 9 rfl)
local macro_rules | `(tactic| walk_at "ar") => `(tactic| first | omega | assumption | ((with_reducible show (0 : Int) ≤ (_ : Int) % (_ : Int)); exact Int.emod_nonneg _ (by omega)) | ((with_reducible show (_ : Int) % (_ : Int) < (_ : Int)); exact Int.emod_lt_of_pos _ (by omega)) | decide)
local macro_rules | `(tactic| walk_at "g1") => `(tactic| with_reducible first | refine g_seq ?_ | refine g_asg ?_ | refine g_name ?_ | refine g_c ?_ | refine g_op ?_ | refine g_un ?_ | refine g_call ?_ | refine g_cons ?_ | refine g_nil ?_ | refine g_I0 ?_ | refine g_tTest ?_ | refine g_tB ?_ | refine g_bl ?_ | refine g_blV ?_ | refine g_and ?_ | refine g_or ?_ | refine g_not ?_ | refine g_andV ?_ | refine g_orV ?_ | refine g_notV ?_ | refine g_ifE ?_ | refine g_ifS ?_ | refine g_next ?_ | refine g_ret ?_ | refine g_retN ?_ | refine g_drop ?_ | refine g_raise ?_ | refine g_cb ?_ | refine g_lst ?_ | refine g_tFld ?_ | refine g_for1 ?_ | refine g_for2 ?_ | refine g_forL ?_ | refine g_lc1 ?_ | refine g_lcL ?_ | refine g_lcV ?_ | refine g_yes ?_ | refine g_make ?_ | refine g_meth ?_ | refine g_methT ?_ | refine g_makeT ?_ | refine g_callS ?_ | refine g_sfld ?_ | refine g_sub ?_ | refine g_bm ?_ | refine g_try1 ?_ | refine g_tryAs ?_ | refine g_tryN ?_ | refine g_sl ?_ | refine g_noPart ?_ | refine g_part ?_ | refine g_partI ?_ | refine g_eqI ?_ | refine g_neI ?_ | refine g_eqB ?_ | refine g_neB ?_ | refine g_eqS ?_ | refine g_neS ?_ | refine g_U ?_ | refine g_notNn ?_ | refine g_notNi ?_ | refine g_isNn ?_ | refine g_isNi ?_)
local macro_rules | `(tactic| walk_at "ra") => `(tactic| first | assumption | exact Led.ra (by assumption) (by assumption) | exact NewRows.at_ (by assumption))
local macro_rules | `(tactic| walk_at "gif") => `(tactic| ((with_reducible show @ite _ _ _ _ _); first | refine iteT ?_ | refine iteF ?_ | refine ifNT ?_ | refine ifNF ?_ | ((with_reducible show @ite _ (@decide _ _ = true) _ _ _); first | refine ifPt (by walk_at "ar") ?_ | refine ifPf (by walk_at "ar") ?_) | refine ifNt (by walk_at "ar") ?_ | refine ifNf (by walk_at "ar") ?_))
local macro_rules | `(tactic| walk_at "g2") => `(tactic| with_reducible first | ((show Exists _); first | refine g_rng1 (by walk_at "ar") (by walk_at "ar") ?_ | refine g_rng2 (by walk_at "ar") (by walk_at "ar") (by walk_at "ar") (by walk_at "ar") ?_ | refine g_lstwR (by walk_at "ra") ?_ | refine g_lstw (by walk_at "sq") ?_) | ((show mLen _ _ _ _); first | refine g_lenR (by walk_at "ra") ?_ | refine g_lenI (by walk_at "sq") ?_ | refine g_len (by walk_at "sq") ?_) | ((show rIxL _ _ _ _ _); refine g_ixI (by walk_at "sq") (by walk_at "ar") (by walk_at "ar") ?_) | ((show mMod _ _ _ _); refine g_mod (by walk_at "ar") ?_) | ((show mFdiv _ _ _ _); refine g_fdiv (by walk_at "ar") (by walk_at "ar") ?_) | ((show mMul _ _ _ _); first | refine g_mulL (by walk_at "ar") ?_ | refine g_mulR (by walk_at "ar") ?_) | ((show And _ _); refine g_ty (by walk_at "sq") ?_) | ((show rSum _ _ _ _); refine g_sum (by walk_at "sq") ?_) | refine isi_ii ?_ | refine isi_ib ?_ | refine isi_bb ?_ | walk_at "gif")
local macro_rules | `(tactic| walk_at "g") => `(tactic| repeat (first | walk_at "g1" | ((with_reducible show tVar _ _ _ _); refine g_var rfl ?_) | walk_at "g2"))
local macro_rules | `(tactic| walk_at "row") => `(tactic| with_reducible refine g_row (by walk_at "ra") (by walk_at "ar") (by walk_at "ar") ?_)
/-! determinants -/
def sumN : Nat → (Nat → Int) → Int
  | 0, _ => 0
  | n + 1, f => sumN n f + f n
theorem sumN_congr {f g : Nat → Int} : ∀ n, (∀ i, i < n → f i = g i) → sumN n f = sumN n g
  | 0, _ => rfl
  | n + 1, h => by
    show sumN n f + f n = sumN n g + g n
    rw [sumN_congr n fun i hi => h i (by omega), h n (by omega)]
theorem sumN_zero {f : Nat → Int} : ∀ n, (∀ i, i < n → f i = 0) → sumN n f = 0
  | 0, _ => rfl
  | n + 1, h => by
    show sumN n f + f n = 0
    rw [sumN_zero n fun i hi => h i (by omega), h n (by omega)]
    rfl
theorem sumN_lin {f g : Nat → Int} (x : Int) : ∀ n, sumN n (fun i => x * f i + g i) = x * sumN n f + sumN n g
  | 0 => by simp [sumN]
  | n + 1 => by
    show sumN n (fun i => x * f i + g i) + (x * f n + g n) = x * (sumN n f + f n) + (sumN n g + g n)
    rw [sumN_lin x n]
    grind
theorem sumN_mul {f : Nat → Int} (x : Int) : ∀ n, sumN n (fun i => x * f i) = x * sumN n f
  | 0 => by simp [sumN]
  | n + 1 => by
    show sumN n (fun i => x * f i) + x * f n = x * (sumN n f + f n)
    rw [sumN_mul x n]
    grind
theorem sumN_one {f : Nat → Int} {r : Nat} : ∀ n, r < n → (∀ i, i < n → i ≠ r → f i = 0) → sumN n f = f r
  | 0, h, _ => by omega
  | n + 1, h, z => by
    show sumN n f + f n = f r
    by_cases e : r = n
    · subst e
      rw [sumN_zero r fun i hi => z i (by omega) (by omega)]
      omega
    · rw [sumN_one n (by omega) fun i hi => z i (by omega), z n (by omega) (by omega)]
      omega
theorem sumN_two {f : Nat → Int} {r : Nat} (hz : f r + f (r + 1) = 0) : ∀ n, r + 1 < n → (∀ i, i < n → i ≠ r → i ≠ r + 1 → f i = 0) → sumN n f = 0
  | 0, h, _ => by omega
  | n + 1, h, z => by
    show sumN n f + f n = 0
    by_cases e : r + 1 = n
    · subst e
      rw [sumN_one (r + 1) (by omega) fun i hi hne => z i (by omega) hne (by omega)]
      exact hz
    · rw [sumN_two hz n (by omega) fun i hi => z i (by omega), z n (by omega) (by omega) (by omega)]
      rfl
abbrev Mat := Nat → Nat → Int
def skip (i a : Nat) : Nat := if a < i then a else a + 1
def sgn (i : Nat) : Int := if i % 2 = 0 then 1 else -1
theorem sgn_succ (i : Nat) : sgn (i + 1) = - sgn i := by
  unfold sgn
  rcases Nat.mod_two_eq_zero_or_one i with h | h
  · rw [if_neg (by omega), if_pos h]
  · rw [if_pos (by omega), if_neg (by omega)]
    rfl
theorem sgn_sq (i : Nat) : sgn i * sgn i = 1 := by
  unfold sgn
  split <;> rfl
def minor (M : Mat) (i : Nat) : Mat := fun a b => M (skip i a) (b + 1)
def det : Nat → Mat → Int
  | 0, _ => 1
  | n + 1, M => sumN (n + 1) fun i => sgn i * M i 0 * det n (minor M i)
theorem det_succ (n : Nat) (M : Mat) : det (n + 1) M = sumN (n + 1) fun i => sgn i * M i 0 * det n (minor M i) := rfl
theorem skip_lt {i a n : Nat} (hi : i < n + 1) (ha : a < n) : skip i a < n + 1 := by
  unfold skip
  split <;> omega
theorem det_congr : ∀ (n : Nat) {M N : Mat}, (∀ a b, a < n → b < n → M a b = N a b) → det n M = det n N
  | 0, _, _, _ => rfl
  | n + 1, M, N, h => by
    rw [det_succ, det_succ]
    refine sumN_congr _ fun i hi => ?_
    rw [h i 0 hi (by omega), det_congr (M := minor M i) (N := minor N i) n fun a b ha hb => h _ _ (skip_lt hi ha) (by omega)]
def setR (M : Mat) (r : Nat) (v : Nat → Int) : Mat := fun a b => if a = r then v b else M a b
theorem setR_same (M : Mat) (r : Nat) (v : Nat → Int) (b : Nat) : setR M r v r b = v b := if_pos rfl
theorem setR_ne (M : Mat) {r a : Nat} (v : Nat → Int) (b : Nat) (h : a ≠ r) : setR M r v a b = M a b := if_neg h
theorem minor_set_eq (M : Mat) (r : Nat) (v : Nat → Int) : minor (setR M r v) r = minor M r := by
  funext a b
  refine setR_ne M v _ ?_
  unfold skip
  split <;> omega
def unskip (i r : Nat) : Nat := if r < i then r else r - 1
theorem minor_set_ne (M : Mat) {r i : Nat} (v : Nat → Int) (h : i ≠ r) : minor (setR M r v) i = setR (minor M i) (unskip i r) (fun b => v (b + 1)) := by
  funext a b
  show (if skip i a = r then v (b + 1) else M (skip i a) (b + 1)) = if a = unskip i r then v (b + 1) else M (skip i a) (b + 1)
  have e : skip i a = r ↔ a = unskip i r := by
    unfold skip unskip
    split <;> split <;> omega
  by_cases q : skip i a = r
  · rw [if_pos q, if_pos (e.mp q)]
  · rw [if_neg q, if_neg (fun z => q (e.mpr z))]
theorem unskip_lt {i r n : Nat} (hi : i < n + 1) (hr : r < n + 1) (h : i ≠ r) : unskip i r < n := by
  unfold unskip
  split <;> omega
/-- a row is a sum -/
theorem det_lin : ∀ (n : Nat) (M : Mat) (r : Nat) (x : Int) (u v : Nat → Int), r < n → det n (setR M r fun b => x * u b + v b) = x * det n (setR M r u) + det n (setR M r v)
  | 0, _, _, _, _, _, h => by omega
  | n + 1, M, r, x, u, v, h => by
    rw [det_succ, det_succ, det_succ, ← sumN_lin]
    refine sumN_congr _ fun i hi => ?_
    by_cases e : i = r
    · subst e
      rw [minor_set_eq, minor_set_eq, minor_set_eq, setR_same, setR_same, setR_same]
      grind
    · rw [minor_set_ne M _ e, minor_set_ne M _ e, minor_set_ne M _ e, setR_ne M _ _ e, setR_ne M _ _ e, setR_ne M _ _ e,
        det_lin n (minor M i) (unskip i r) x (fun b => u (b + 1)) (fun b => v (b + 1)) (unskip_lt hi h e)]
      grind
theorem setR_get (M : Mat) (r : Nat) : setR M r (M r) = M := by
  funext a b
  unfold setR
  split
  · rename_i h; rw [h]
  · rfl
theorem det_zero_row (n : Nat) (M : Mat) (r : Nat) (h : r < n) (z : ∀ b, b < n → M r b = 0) : det n M = 0 := by
  have e := det_lin n M r 1 (fun _ => 0) (fun _ => 0) h
  have e2 : det n M = det n (setR M r fun _ => 0) := det_congr n fun a b ha hb => by
    by_cases q : a = r
    · subst q
      rw [setR_same]
      exact z b hb
    · rw [setR_ne M _ _ q]
  have e3 : (fun b : Nat => (1 : Int) * (fun _ : Nat => (0 : Int)) b + (fun _ : Nat => (0 : Int)) b) = fun _ => 0 := by
    funext b
    rfl
  rw [e3] at e
  rw [e2]
  omega
/-- neighbours alike -/
theorem det_adj : ∀ (n : Nat) (M : Mat) (r : Nat), r + 1 < n → (∀ b, b < n → M r b = M (r + 1) b) → det n M = 0
  | 0, _, _, h, _ => by omega
  | n + 1, M, r, h, e => by
    rw [det_succ]
    refine sumN_two (r := r) ?_ _ h fun i hi h1 h2 => ?_
    · have em : det n (minor M r) = det n (minor M (r + 1)) := det_congr n fun a b ha hb => by
        show M (skip r a) (b + 1) = M (skip (r + 1) a) (b + 1)
        by_cases q : a = r
        · subst q
          have e1 : skip a a = a + 1 := if_neg (by omega)
          have e2 : skip (a + 1) a = a := if_pos (by omega)
          rw [e1, e2]
          exact (e _ (by omega)).symm
        · have : skip r a = skip (r + 1) a := by
            unfold skip
            split <;> split <;> omega
          rw [this]
      show sgn r * M r 0 * det n (minor M r) + sgn (r + 1) * M (r + 1) 0 * det n (minor M (r + 1)) = 0
      rw [em, e 0 (by omega), sgn_succ]
      grind
    · have : det n (minor M i) = 0 := by
        by_cases q : i < r
        · refine det_adj n (minor M i) (r - 1) (by omega) fun b hb => ?_
          have e1 : skip i (r - 1) = r := by unfold skip; split <;> omega
          have e2 : skip i (r - 1 + 1) = r + 1 := by unfold skip; split <;> omega
          show M (skip i (r - 1)) (b + 1) = M (skip i (r - 1 + 1)) (b + 1)
          rw [e1, e2]
          exact e _ (by omega)
        · refine det_adj n (minor M i) r (by omega) fun b hb => ?_
          have e1 : skip i r = r := by unfold skip; split <;> omega
          have e2 : skip i (r + 1) = r + 1 := by unfold skip; split <;> omega
          show M (skip i r) (b + 1) = M (skip i (r + 1)) (b + 1)
          rw [e1, e2]
          exact e _ (by omega)
      rw [this]
      omega
def swapR (M : Mat) (r s : Nat) : Mat := fun a b => if a = r then M s b else if a = s then M r b else M a b
/-- what holds of equal rows brings the sign of an exchange -/
theorem swap_of_eq {n r s : Nat} (M : Mat) (hr : r < n) (hs : s < n) (ne : r ≠ s) (eq0 : ∀ N : Mat, (∀ b, b < n → N r b = N s b) → det n N = 0) : det n (swapR M r s) = - det n M := by
  let S : (Nat → Int) → (Nat → Int) → Mat := fun u v => setR (setR M r u) s v
  have comm : ∀ u v, S u v = setR (setR M s v) r u := fun u v => by
    funext a b
    show (if a = s then v b else if a = r then u b else M a b) = if a = r then u b else if a = s then v b else M a b
    by_cases h1 : a = r
    · subst h1
      rw [if_neg ne, if_pos rfl, if_pos rfl]
    · rw [if_neg h1, if_neg h1]
  have l2 : ∀ u v v', det n (S u fun b => 1 * v b + v' b) = 1 * det n (S u v) + det n (S u v') := fun u v v' => det_lin n (setR M r u) s 1 v v' hs
  have l1 : ∀ u u' v, det n (S (fun b => 1 * u b + u' b) v) = 1 * det n (S u v) + det n (S u' v) := fun u u' v => by
    rw [comm, comm, comm]
    exact det_lin n (setR M s v) r 1 u u' hr
  have z : ∀ u, det n (S u u) = 0 := fun u => eq0 _ fun b _ => by
    show (if r = s then u b else if r = r then u b else M r b) = if s = s then u b else _
    rw [if_neg ne, if_pos rfl, if_pos rfl]
  have a1 := z fun b => 1 * M r b + M s b
  rw [l1, l2, l2, z (M r), z (M s)] at a1
  have e1 : S (M r) (M s) = M := by
    show setR (setR M r (M r)) s (M s) = M
    rw [setR_get]
    exact setR_get M s
  have e2 : S (M s) (M r) = swapR M r s := by
    funext a b
    show (if a = s then M r b else if a = r then M s b else M a b) = if a = r then M s b else if a = s then M r b else M a b
    by_cases h1 : a = r
    · subst h1
      rw [if_neg ne, if_pos rfl, if_pos rfl]
    · rw [if_neg h1, if_neg h1]
  rw [e1, e2] at a1
  omega
theorem det_eq_rows {n : Nat} : ∀ (d : Nat) (M : Mat) (r : Nat), r + 1 + d < n → (∀ b, b < n → M r b = M (r + 1 + d) b) → det n M = 0
  | 0, M, r, h, e => det_adj n M r h e
  | d + 1, M, r, h, e => by
    have w := swap_of_eq (n := n) (r := r + 1 + d) (s := r + 1 + (d + 1)) M (by omega) h (by omega) fun N hN => det_adj n N (r + 1 + d) (by omega) hN
    have z := det_eq_rows (n := n) d (swapR M (r + 1 + d) (r + 1 + (d + 1))) r (by omega) fun b hb => by
      show (if r = r + 1 + d then _ else if r = r + 1 + (d + 1) then _ else M r b) = if r + 1 + d = r + 1 + d then M (r + 1 + (d + 1)) b else _
      rw [if_neg (by omega), if_neg (by omega), if_pos rfl]
      exact e b hb
    omega
theorem det_same {n : Nat} (M : Mat) {r s : Nat} (hr : r < n) (hs : s < n) (ne : r ≠ s) (e : ∀ b, b < n → M r b = M s b) : det n M = 0 := by
  by_cases h : r < s
  · refine det_eq_rows (s - r - 1) M r (by omega) ?_
    rw [show r + 1 + (s - r - 1) = s by omega]
    exact e
  · refine det_eq_rows (r - s - 1) M s (by omega) ?_
    rw [show s + 1 + (r - s - 1) = r by omega]
    exact fun b hb => (e b hb).symm
theorem det_swap {n : Nat} (M : Mat) {r s : Nat} (hr : r < n) (hs : s < n) (ne : r ≠ s) : det n (swapR M r s) = - det n M :=
  swap_of_eq M hr hs ne fun N hN => det_same N hr hs ne hN
/-- a row times a number and another row's share -/
theorem det_rowop {n : Nat} (M : Mat) {r s : Nat} (hr : r < n) (hs : s < n) (ne : r ≠ s) (x y : Int) : det n (setR M r fun b => x * M r b + y * M s b) = x * det n M := by
  rw [det_lin n M r x (M r) (fun b => y * M s b) hr, setR_get]
  have e : (fun b => y * M s b) = fun b => y * M s b + (fun _ => 0) b := by
    funext b
    show _ = _ + (0 : Int)
    omega
  rw [e, det_lin n M r y (M s) (fun _ => 0) hr, det_same (setR M r (M s)) hr hs ne (fun b _ => by rw [setR_same, setR_ne M _ _ ne.symm]), det_zero_row n (setR M r fun _ => 0) r hr fun b _ => setR_same M r _ b]
  omega
/-! ### the first column cleared -/
def chio (M : Mat) : Mat := fun a b => M (a + 1) (b + 1) * M 0 0 - M (a + 1) 0 * M 0 (b + 1)
theorem det_head {n : Nat} (M : Mat) (z : ∀ a, 0 < a → a < n + 1 → M a 0 = 0) : det (n + 1) M = M 0 0 * det n (fun a b => M (a + 1) (b + 1)) := by
  rw [det_succ, sumN_one (r := 0) (n + 1) (by omega) fun i hi hne => by rw [z i (by omega) hi]; omega]
  have e : minor M 0 = fun a b => M (a + 1) (b + 1) := by
    funext a b
    show M (skip 0 a) (b + 1) = _
    have : skip 0 a = a + 1 := if_neg (by omega)
    rw [this]
  rw [e]
  show 1 * M 0 0 * _ = _
  rw [Int.one_mul]
theorem det_chio (n : Nat) (M : Mat) : M 0 0 * det n (chio M) = M 0 0 ^ n * det (n + 1) M := by
  -- rows 1 to r cleared
  let C : Nat → Mat := fun r a b => if 0 < a ∧ a ≤ r then M 0 0 * M a b + (- M a 0) * M 0 b else M a b
  have step : ∀ r, r ≤ n → det (n + 1) (C r) = M 0 0 ^ r * det (n + 1) M := by
    intro r
    induction r with
    | zero =>
      intro _
      have : C 0 = M := by
        funext a b
        exact if_neg (by omega)
      rw [this]
      simp
    | succ r ih =>
      intro hr
      have e : C (r + 1) = setR (C r) (r + 1) fun b => M 0 0 * C r (r + 1) b + (- M (r + 1) 0) * C r 0 b := by
        funext a b
        show (if 0 < a ∧ a ≤ r + 1 then M 0 0 * M a b + (- M a 0) * M 0 b else M a b) = if a = r + 1 then M 0 0 * (if 0 < r + 1 ∧ r + 1 ≤ r then _ else M (r + 1) b) + (- M (r + 1) 0) * (if 0 < 0 ∧ 0 ≤ r then _ else M 0 b) else if 0 < a ∧ a ≤ r then M 0 0 * M a b + (- M a 0) * M 0 b else M a b
        by_cases h : a = r + 1
        · subst h
          rw [if_pos ⟨by omega, by omega⟩, if_pos rfl, if_neg (by omega), if_neg (by omega)]
        · rw [if_neg h]
          by_cases h2 : 0 < a ∧ a ≤ r
          · rw [if_pos h2, if_pos ⟨h2.1, by omega⟩]
          · rw [if_neg h2, if_neg (by omega)]
      rw [e, det_rowop (C r) (by omega) (by omega) (by omega), ih (by omega), Int.pow_succ]
      grind
  have last := step n (Nat.le_refl n)
  rw [← last, det_head (C n) fun a h0 h1 => by
    show (if 0 < a ∧ a ≤ n then M 0 0 * M a 0 + (- M a 0) * M 0 0 else M a 0) = 0
    rw [if_pos ⟨h0, by omega⟩]
    grind]
  have e0 : C n 0 0 = M 0 0 := if_neg (by omega)
  rw [e0]
  congr 1
  refine det_congr n fun a b ha hb => ?_
  show _ = if 0 < a + 1 ∧ a + 1 ≤ n then _ else _
  rw [if_pos ⟨by omega, by omega⟩]
  show M (a + 1) (b + 1) * M 0 0 - M (a + 1) 0 * M 0 (b + 1) = _
  grind
/-! ### minors with one more row and column -/
def bord (A : Mat) (k i j : Nat) : Mat := fun a b => A (if a < k then a else k + i) (if b < k then b else k + j)
theorem bord_chio (A : Mat) (k i j : Nat) : bord (chio A) k i j = chio (bord A (k + 1) i j) := by
  funext a b
  show A ((if a < k then a else k + i) + 1) ((if b < k then b else k + j) + 1) * A 0 0 - A ((if a < k then a else k + i) + 1) 0 * A 0 ((if b < k then b else k + j) + 1) =
    A (if a + 1 < k + 1 then a + 1 else k + 1 + i) (if b + 1 < k + 1 then b + 1 else k + 1 + j) * A (if 0 < k + 1 then 0 else k + 1 + i) (if 0 < k + 1 then 0 else k + 1 + j) -
      A (if a + 1 < k + 1 then a + 1 else k + 1 + i) (if 0 < k + 1 then 0 else k + 1 + j) * A (if 0 < k + 1 then 0 else k + 1 + i) (if b + 1 < k + 1 then b + 1 else k + 1 + j)
  have e1 : ∀ a i : Nat, (if a + 1 < k + 1 then a + 1 else k + 1 + i) = (if a < k then a else k + i) + 1 := fun a i => by
    split <;> split <;> omega
  have e2 : ∀ i : Nat, (if 0 < k + 1 then 0 else k + 1 + i) = 0 := fun i => if_pos (by omega)
  rw [e1, e1, e2, e2]
def sub (A : Mat) (k i j : Nat) : Int := det (k + 1) (bord A k i j)
theorem sub_chio (A : Mat) (k i j : Nat) (h0 : A 0 0 ≠ 0) : sub (chio A) k i j = A 0 0 ^ k * sub A (k + 1) i j := by
  have e : bord A (k + 1) i j 0 0 = A 0 0 := by
    show A (if 0 < k + 1 then 0 else _) (if 0 < k + 1 then 0 else _) = _
    rw [if_pos (by omega), if_pos (by omega)]
  have z := det_chio (k + 1) (bord A (k + 1) i j)
  rw [e, ← bord_chio, Int.pow_succ] at z
  have z2 : A 0 0 * sub (chio A) k i j = A 0 0 * (A 0 0 ^ k * sub A (k + 1) i j) := by
    rw [show A 0 0 * (A 0 0 ^ k * sub A (k + 1) i j) = A 0 0 ^ k * A 0 0 * sub A (k + 1) i j by grind]
    exact z
  exact Int.eq_of_mul_eq_mul_left h0 z2
theorem lead_chio (A : Mat) (k : Nat) (h0 : A 0 0 ≠ 0) : A 0 0 * det k (chio A) = A 0 0 ^ k * det (k + 1) A := det_chio k A
theorem bord_same (A : Mat) (k : Nat) : det (k + 1) (bord A k 0 0) = det (k + 1) A := det_congr _ fun a b ha hb => by
  show A (if a < k then a else k + 0) (if b < k then b else k + 0) = A a b
  have e : ∀ a, a < k + 1 → (if a < k then a else k + 0) = a := fun a ha => by split <;> omega
  rw [e a ha, e b hb]
/-- one step: the minors' law -/
theorem sub_step : ∀ (k : Nat) (A : Mat) (i j : Nat), (∀ m, m < k → det (m + 1) A ≠ 0) →
    det k A * sub A (k + 1) i j = sub A k (i + 1) (j + 1) * sub A k 0 0 - sub A k (i + 1) 0 * sub A k 0 (j + 1)
  | 0, A, i, j, _ => by
    have d1 : ∀ M : Mat, det 1 M = M 0 0 := fun M => by
      rw [det_succ]
      show 0 + 1 * M 0 0 * 1 = _
      omega
    have d2 : ∀ M : Mat, det 2 M = M 0 0 * M 1 1 - M 1 0 * M 0 1 := fun M => by
      rw [det_succ]
      show 0 + 1 * M 0 0 * det 1 (minor M 0) + (-1) * M 1 0 * det 1 (minor M 1) = _
      rw [d1, d1]
      show 0 + 1 * M 0 0 * M 1 1 + (-1) * M 1 0 * M 0 1 = _
      grind
    unfold sub
    rw [d2, d1, d1, d1, d1]
    show 1 * (A 0 0 * A (1 + i) (1 + j) - A (1 + i) 0 * A 0 (1 + j)) = A (0 + (i + 1)) (0 + (j + 1)) * A (0 + 0) (0 + 0) - A (0 + (i + 1)) (0 + 0) * A (0 + 0) (0 + (j + 1))
    rw [show 0 + (i + 1) = 1 + i by omega, show 0 + (j + 1) = 1 + j by omega]
    grind
  | k + 1, A, i, j, h => by
    have d1 : det 1 A = A 0 0 := by
      rw [det_succ]
      show 0 + 1 * A 0 0 * 1 = _
      omega
    have h0 : A 0 0 ≠ 0 := by
      have := h 0 (by omega)
      rw [d1] at this
      exact this
    have ih := sub_step k (chio A) i j fun m hm z => by
      have e := lead_chio A (m + 1) h0
      rw [z, Int.mul_zero] at e
      rcases Int.mul_eq_zero.mp e.symm with e | e
      · exact Int.pow_ne_zero h0 e
      · exact h (m + 1) (by omega) e
    rw [sub_chio A _ _ _ h0, sub_chio A _ _ _ h0, sub_chio A _ _ _ h0, sub_chio A _ _ _ h0, sub_chio A _ _ _ h0] at ih
    have e := lead_chio A k h0
    have hp : A 0 0 ^ k * A 0 0 ^ k * A 0 0 ≠ 0 := Int.mul_ne_zero (Int.mul_ne_zero (Int.pow_ne_zero h0) (Int.pow_ne_zero h0)) h0
    refine Int.eq_of_mul_eq_mul_left hp ?_
    rw [Int.pow_succ] at ih
    generalize A 0 0 ^ k = q at *
    generalize A 0 0 = p at *
    grind
/-- no head for the next step: nought -/
theorem sub_none : ∀ (k n : Nat) (A : Mat), (∀ m, m < k → det (m + 1) A ≠ 0) → (∀ i, i < n + 1 → sub A k i 0 = 0) → det (k + n + 1) A = 0
  | 0, n, A, _, z => by
    rw [Nat.zero_add, det_succ]
    refine sumN_zero _ fun i hi => ?_
    have := z i hi
    unfold sub at this
    rw [det_succ] at this
    have t : (0 : Int) + 1 * A (0 + i) 0 * 1 = 0 := this
    rw [Nat.zero_add] at t
    have t2 : A i 0 = 0 := by omega
    rw [t2, Int.mul_zero, Int.zero_mul]
  | k + 1, n, A, h, z => by
    have d1 : det 1 A = A 0 0 := by
      rw [det_succ]
      show 0 + 1 * A 0 0 * 1 = _
      omega
    have h0 : A 0 0 ≠ 0 := by
      have := h 0 (by omega)
      rw [d1] at this
      exact this
    have ih := sub_none k n (chio A) (fun m hm z => by
      have e := lead_chio A (m + 1) h0
      rw [z, Int.mul_zero] at e
      rcases Int.mul_eq_zero.mp e.symm with e | e
      · exact Int.pow_ne_zero h0 e
      · exact h (m + 1) (by omega) e) fun i hi => by
        rw [sub_chio A _ _ _ h0, z i hi, Int.mul_zero]
    have e := lead_chio A (k + n + 1) h0
    rw [ih, Int.mul_zero] at e
    rcases Int.mul_eq_zero.mp e.symm with e | e
    · exact absurd e (Int.pow_ne_zero h0)
    · rw [show k + 1 + n + 1 = k + n + 1 + 1 by omega]
      exact e
/-! ### bounds -/
theorem sumN_abs {f : Nat → Int} {B : Nat} : ∀ n, (∀ i, i < n → (f i).natAbs ≤ B) → (sumN n f).natAbs ≤ n * B
  | 0, _ => by simp [sumN]
  | n + 1, h => by
    have a := sumN_abs n fun i hi => h i (by omega)
    have b := h n (by omega)
    show (sumN n f + f n).natAbs ≤ (n + 1) * B
    rw [Nat.add_mul, Nat.one_mul]
    omega
def fac : Nat → Nat
  | 0 => 1
  | n + 1 => (n + 1) * fac n
theorem det_abs : ∀ (n : Nat) (M : Mat) (B : Nat), (∀ a b, a < n → b < n → (M a b).natAbs ≤ B) → (det n M).natAbs ≤ fac n * B ^ n
  | 0, _, _, _ => by simp [det, fac]
  | n + 1, M, B, h => by
    rw [det_succ]
    have e : fac (n + 1) * B ^ (n + 1) = (n + 1) * (B * (fac n * B ^ n)) := by
      show (n + 1) * fac n * B ^ (n + 1) = _
      rw [Nat.pow_succ]
      grind
    rw [e]
    refine sumN_abs (n + 1) fun i hi => ?_
    have a := h i 0 hi (by omega)
    have b := det_abs n (minor M i) B fun a b ha hb => h _ _ (skip_lt hi ha) (by omega)
    have s : (sgn i).natAbs = 1 := by
      unfold sgn
      split <;> rfl
    rw [Int.natAbs_mul, Int.natAbs_mul, s, Nat.one_mul]
    exact Nat.mul_le_mul a b
/-! ### long lines -/
theorem det_upper : ∀ (n : Nat) (M : Mat), (∀ a b, b < a → a < n → M a b = 0) → ∀ p : Nat → Int, (∀ k, p (k + 1) = p k * M k k) → p 0 * det n M = p n
  | 0, M, _, p, _ => by
    show p 0 * 1 = p 0
    omega
  | n + 1, M, h, p, hp => by
    rw [det_head M fun a h0 ha => h a 0 h0 ha]
    have ih := det_upper n (fun a b => M (a + 1) (b + 1)) (fun a b hb ha => h _ _ (by omega) (by omega)) (fun k => p (k + 1)) fun k => hp (k + 1)
    rw [← ih]
    show _ = p (0 + 1) * _
    rw [hp 0]
    grind
/-- rows exchanged: in the kernel still; a kernel makes nought -/
theorem det_kernel : ∀ (n : Nat) (M : Mat) (y : Nat → Int) (c : Nat), c < n → y c ≠ 0 → (∀ a, a < n → sumN n (fun b => M a b * y b) = 0) → det n M = 0
  | 0, _, _, _, h, _, _ => by omega
  | n + 1, M, y, c, hc, hy, hk => by
    by_cases h0 : ∃ r, r < n + 1 ∧ M r 0 ≠ 0
    · obtain ⟨r, hr, h0⟩ := h0
      -- with a head at once
      have main : ∀ M : Mat, M 0 0 ≠ 0 → (∀ a, a < n + 1 → sumN (n + 1) (fun b => M a b * y b) = 0) → det (n + 1) M = 0 := by
        intro M h0 hk
        have fr : ∀ (f : Nat → Int) (n : Nat), sumN (n + 1) f = f 0 + sumN n (fun b => f (b + 1)) := by
          intro f n
          induction n with
          | zero =>
            show 0 + f 0 = f 0 + 0
            omega
          | succ n ih =>
            show sumN (n + 1) f + f (n + 1) = f 0 + (sumN n (fun b => f (b + 1)) + f (n + 1))
            rw [ih]
            omega
        have z : det n (chio M) = 0 := by
          have hy' : ∃ c', c' < n ∧ y (c' + 1) ≠ 0 := by
            refine Classical.byContradiction fun no => ?_
            have all : ∀ b, b < n → y (b + 1) = 0 := fun b hb => Classical.byContradiction fun z => no ⟨b, hb, z⟩
            have k0 := hk 0 (by omega)
            rw [fr, sumN_zero n fun b hb => by rw [all b hb, Int.mul_zero], Int.add_zero] at k0
            have y0 : y 0 = 0 := (Int.mul_eq_zero.mp k0).resolve_left h0
            cases c with
            | zero => exact hy y0
            | succ c => exact hy (all c (by omega))
          obtain ⟨c', hc', hy'⟩ := hy'
          refine det_kernel n (chio M) (fun b => y (b + 1)) c' hc' hy' fun a ha => ?_
          have k0 := hk 0 (by omega)
          have k1 := hk (a + 1) (by omega)
          rw [fr] at k0 k1
          have e : sumN n (fun b => chio M a b * y (b + 1)) = M 0 0 * sumN n (fun b => M (a + 1) (b + 1) * y (b + 1)) + (- M (a + 1) 0) * sumN n (fun b => M 0 (b + 1) * y (b + 1)) := by
            rw [← sumN_mul (- M (a + 1) 0), ← sumN_lin]
            refine sumN_congr n fun b _ => ?_
            show (M (a + 1) (b + 1) * M 0 0 - M (a + 1) 0 * M 0 (b + 1)) * y (b + 1) = _
            grind
          rw [e]
          generalize sumN n (fun b => M (a + 1) (b + 1) * y (b + 1)) = p at *
          generalize sumN n (fun b => M 0 (b + 1) * y (b + 1)) = q at *
          grind
        have e := det_chio n M
        rw [z, Int.mul_zero] at e
        exact (Int.mul_eq_zero.mp e.symm).resolve_left (Int.pow_ne_zero h0)
      by_cases r0 : r = 0
      · subst r0
        exact main M h0 hk
      · have s := det_swap M (r := 0) (s := r) (n := n + 1) (by omega) hr (fun z => r0 z.symm)
        have z := main (swapR M 0 r) (by show (if 0 = 0 then M r 0 else _) ≠ 0; rw [if_pos rfl]; exact h0) fun a ha => by
          by_cases e1 : a = 0
          · subst e1
            exact hk r hr
          · by_cases e2 : a = r
            · subst e2
              refine Eq.trans (sumN_congr _ fun b _ => ?_) (hk 0 (by omega))
              show (if a = 0 then M a b else if a = a then M 0 b else _) * y b = _
              rw [if_neg e1, if_pos rfl]
            · refine Eq.trans (sumN_congr _ fun b _ => ?_) (hk a ha)
              show (if a = 0 then _ else if a = r then _ else M a b) * y b = _
              rw [if_neg e1, if_neg e2]
        omega
    · rw [det_succ]
      refine sumN_zero _ fun i hi => ?_
      have : M i 0 = 0 := Classical.byContradiction fun z => h0 ⟨i, hi, z⟩
      rw [this, Int.mul_zero, Int.zero_mul]
/-! ### one exit for each site -/
def uv (g : Int) : Nat → Int := fun b => if (b : Int) = g then 1 else 0
def ev (a : Nat) (g : Int) : Nat → Int := fun b => uv a b - uv g b
theorem uv_self (a : Nat) : uv a a = 1 := if_pos rfl
theorem uv_ne {a b : Nat} (h : b ≠ a) : uv a b = 0 := if_neg (by omega)
theorem uv_neg {g : Int} (h : g < 0) (b : Nat) : uv g b = 0 := if_neg (by omega)
theorem det_unit (n : Nat) (M : Mat) (h : ∀ a b, a < n → b < n → M a b = uv a b) : det n M = 1 := by
  have e : det n M = det n (fun a b => uv a b) := det_congr n h
  have z := det_upper n (fun a b => uv a b) (fun a b hb _ => uv_ne (by omega)) (fun _ => 1) fun k => by rw [uv_self]; rfl
  rw [e]
  omega
/-- sites from which going on by t comes to the pit in m goings -/
def Dn (t : Nat → Int) : Nat → Nat → Prop
  | 0, _ => False
  | m + 1, a => t a < 0 ∨ Dn t m (t a).toNat ∧ 0 ≤ t a
theorem Dn.up {t : Nat → Int} : ∀ {m a : Nat}, Dn t m a → Dn t (m + 1) a
  | 0, _, h => h.elim
  | m + 1, a, h => h.elim .inl fun ⟨x, y⟩ => .inr ⟨Dn.up x, y⟩
theorem Dn.le {t : Nat → Int} {m n a : Nat} (h : Dn t m a) (l : m ≤ n) : Dn t n a := by
  induction l with
  | refl => exact h
  | step _ ih => exact ih.up
open Classical in
noncomputable def pk (p : Prop) (x y : Int) : Int := if p then x else y
theorem pk_pos {p : Prop} {x y : Int} (h : p) : pk p x y = x := if_pos h
theorem pk_neg {p : Prop} {x y : Int} (h : ¬ p) : pk p x y = y := if_neg h
theorem det_tree {n : Nat} {t : Nat → Int} (hn : ∀ a, a < n → t a < n) (m : Nat) (all : ∀ a, a < n → Dn t m a) : det n (fun a b => ev a (t a) b) = 1 := by
  -- rows of depth up to j made units
  have gen : ∀ j, det n (fun a b => pk (Dn t j a) (uv a b) (ev a (t a) b)) = det n (fun a b => ev a (t a) b) := by
    intro j
    induction j with
    | zero =>
      congr 1
      funext a b
      exact pk_neg id
    | succ j ih =>
      rw [← ih]
      have row : ∀ r, r ≤ n → det n (fun a b => pk (Dn t j a ∨ (a < r ∧ Dn t (j + 1) a)) (uv a b) (ev a (t a) b)) = det n (fun a b => pk (Dn t j a) (uv a b) (ev a (t a) b)) := by
        intro r
        induction r with
        | zero =>
          intro _
          congr 1
          funext a b
          have : (Dn t j a ∨ (a < 0 ∧ Dn t (j + 1) a)) = Dn t j a := propext ⟨fun h => h.elim id fun h => absurd h.1 (by omega), .inl⟩
          rw [this]
        | succ r ihr =>
          intro hr
          rw [← ihr (by omega)]
          by_cases h1 : Dn t (j + 1) r ∧ ¬ Dn t j r
          · obtain ⟨h1, h2⟩ := h1
            by_cases h3 : t r < 0
            · congr 1
              funext a b
              by_cases e : a = r
              · subst e
                rw [pk_pos (.inr ⟨by omega, h1⟩), pk_neg (fun z => z.elim h2 fun z => by omega)]
                show _ = uv a b - uv (t a) b
                rw [uv_neg h3]
                omega
              · have : (Dn t j a ∨ (a < r + 1 ∧ Dn t (j + 1) a)) = (Dn t j a ∨ (a < r ∧ Dn t (j + 1) a)) := propext ⟨fun z => z.imp id fun z => ⟨by omega, z.2⟩, fun z => z.imp id fun z => ⟨by omega, z.2⟩⟩
                rw [this]
            · have h4 : Dn t j (t r).toNat := (h1.resolve_left h3).1
              have ne : r ≠ (t r).toNat := fun z => h2 (by rw [z]; exact h4)
              have lt := hn r (by omega)
              have op := det_rowop (n := n) (fun a b => pk (Dn t j a ∨ (a < r ∧ Dn t (j + 1) a)) (uv a b) (ev a (t a) b)) (r := r) (s := (t r).toNat) (by omega) (by omega) ne 1 1
              rw [Int.one_mul] at op
              rw [← op]
              congr 1
              funext a b
              show _ = if a = r then 1 * pk (Dn t j r ∨ (r < r ∧ Dn t (j + 1) r)) (uv r b) (ev r (t r) b) + 1 * pk (Dn t j (t r).toNat ∨ _) (uv (t r).toNat b) _ else _
              by_cases e : a = r
              · subst e
                rw [pk_pos (.inr ⟨by omega, h1⟩), if_pos rfl, pk_neg (fun z => z.elim h2 fun z => by omega), pk_pos (.inl h4)]
                show _ = 1 * (uv a b - uv (t a) b) + 1 * uv ((t a).toNat : Int) b
                rw [show (((t a).toNat : Nat) : Int) = t a by omega]
                omega
              · rw [if_neg e]
                have : (Dn t j a ∨ (a < r + 1 ∧ Dn t (j + 1) a)) = (Dn t j a ∨ (a < r ∧ Dn t (j + 1) a)) := propext ⟨fun z => z.imp id fun z => ⟨by omega, z.2⟩, fun z => z.imp id fun z => ⟨by omega, z.2⟩⟩
                rw [this]
          · congr 1
            funext a b
            have : (Dn t j a ∨ (a < r + 1 ∧ Dn t (j + 1) a)) = (Dn t j a ∨ (a < r ∧ Dn t (j + 1) a)) := propext ⟨fun z => by
              by_cases e : a = r
              · subst e
                by_cases q : Dn t j a
                · exact .inl q
                · exact absurd ⟨z.elim (fun z => absurd z q) (·.2), q⟩ h1
              · exact z.imp id fun z => ⟨by omega, z.2⟩, fun z => z.imp id fun z => ⟨by omega, z.2⟩⟩
            rw [this]
      rw [← row n (Nat.le_refl n)]
      refine det_congr n fun a b ha hb => ?_
      have : (Dn t j a ∨ (a < n ∧ Dn t (j + 1) a)) = Dn t (j + 1) a := propext ⟨fun z => z.elim (·.up) (·.2), fun z => .inr ⟨ha, z⟩⟩
      rw [this]
  rw [← gen m]
  exact det_unit n _ fun a b ha hb => pk_pos (all a ha)
open Classical in
theorem det_noTree {n : Nat} {t : Nat → Int} (hn : ∀ a, a < n → t a < n) (c : Nat) (hc : c < n) (no : ∀ m, ¬ Dn t m c) : det n (fun a b => ev a (t a) b) = 0 := by
  refine det_kernel n _ (fun b => if ∃ m, Dn t m b then 0 else 1) c hc (by rw [if_neg (fun ⟨m, h⟩ => no m h)]; decide) fun a ha => ?_
  have cut : ∀ (g : Int) (y : Nat → Int), g < n → sumN n (fun b => uv g b * y b) = if g < 0 then 0 else y g.toNat := by
    intro g y hg
    by_cases h : g < 0
    · rw [if_pos h]
      exact sumN_zero n fun b _ => by rw [uv_neg h, Int.zero_mul]
    · rw [if_neg h, sumN_one (r := g.toNat) n (by omega) fun b _ hb => by
        rw [show g = ((g.toNat : Nat) : Int) by omega, uv_ne (by omega), Int.zero_mul]]
      show (if ((g.toNat : Nat) : Int) = g then (1 : Int) else 0) * _ = _
      rw [if_pos (by omega), Int.one_mul]
  have e : sumN n (fun b => ev a (t a) b * (if ∃ m, Dn t m b then (0 : Int) else 1)) = (-1) * sumN n (fun b => uv (t a) b * (if ∃ m, Dn t m b then (0 : Int) else 1)) + sumN n (fun b => uv a b * (if ∃ m, Dn t m b then (0 : Int) else 1)) := by
    rw [← sumN_lin]
    refine sumN_congr n fun b _ => ?_
    show (uv a b - uv (t a) b) * _ = _
    generalize (if ∃ m, Dn t m b then (0 : Int) else 1) = z
    grind
  rw [e, cut _ _ (hn a ha), cut _ _ (by omega), if_neg (show ¬ (a : Int) < 0 by omega), show ((a : Int)).toNat = a by omega]
  by_cases h : t a < 0
  · rw [if_pos h, if_pos ⟨1, .inl h⟩]
    rfl
  · rw [if_neg h]
    by_cases q : ∃ m, Dn t m a
    · have q2 : ∃ m, Dn t m (t a).toNat := by
        obtain ⟨m, q⟩ := q
        cases m with
        | zero => exact q.elim
        | succ m => exact ⟨m, (q.resolve_left h).1⟩
      rw [if_pos q, if_pos q2]
      rfl
    · have q2 : ¬ ∃ m, Dn t m (t a).toNat := fun ⟨m, z⟩ => q ⟨m + 1, .inr ⟨z, by omega⟩⟩
      rw [if_neg q, if_neg q2]
      rfl
/-! ### sums over all choices -/
def isum (l : List Int) : Int := l.sum
def choices : List (List Int) → List (List Int)
  | [] => [[]]
  | row :: rest => (choices rest).flatMap fun l => row.map fun g => g :: l
theorem det_listSum (n : Nat) (M : Mat) (r : Nat) (hr : r < n) (f : Int → Nat → Int) : ∀ row : List Int, det n (setR M r fun b => (row.map fun g => f g b).sum) = (row.map fun g => det n (setR M r (f g))).sum
  | [] => det_zero_row n _ r hr fun b _ => by
    rw [setR_same]
    rfl
  | g :: row => by
    have e : (fun b => ((g :: row).map fun g => f g b).sum) = fun b => 1 * f g b + (fun b => (row.map fun g => f g b).sum) b := by
      funext b
      rw [List.map_cons, List.sum_cons, Int.one_mul]
    rw [e, det_lin n M r 1 _ _ hr, det_listSum n M r hr f row, List.map_cons, List.sum_cons, Int.one_mul]
def setRows (M : Mat) (k : Nat) (l : List Int) : Mat := fun a b => if k ≤ a ∧ a < k + l.length then ev a (l.getD (a - k) 0) b else M a b
def sumRows (M : Mat) (k : Nat) (rows : List (List Int)) : Mat := fun a b => if k ≤ a ∧ a < k + rows.length then ((rows.getD (a - k) []).map fun g => ev a g b).sum else M a b
theorem det_choices (n : Nat) : ∀ (rows : List (List Int)) (k : Nat) (M : Mat), k + rows.length ≤ n → ((choices rows).map fun l => det n (setRows M k l)).sum = det n (sumRows M k rows)
  | [], k, M, _ => by
    show (det n (setRows M k []) + 0) = _
    rw [Int.add_zero]
    congr 1
    funext a b
    show (if k ≤ a ∧ a < k + 0 then _ else _) = if k ≤ a ∧ a < k + 0 then _ else _
    rw [if_neg (by omega), if_neg (by omega)]
  | row :: rest, k, M, h => by
    rw [List.length_cons] at h
    have ih := det_choices n rest (k + 1) (setR M k fun b => (row.map fun g => ev k g b).sum) (by omega)
    have e1 : setRows (setR M k fun b => (row.map fun g => ev k g b).sum) (k + 1) = fun l => setR (setRows M (k + 1) l) k fun b => (row.map fun g => ev k g b).sum := by
      funext l a b
      show (if k + 1 ≤ a ∧ a < k + 1 + l.length then ev a (l.getD (a - (k + 1)) 0) b else if a = k then _ else M a b) = if a = k then _ else if k + 1 ≤ a ∧ a < k + 1 + l.length then ev a (l.getD (a - (k + 1)) 0) b else M a b
      by_cases e : a = k
      · subst e
        rw [if_neg (by omega), if_pos rfl, if_pos rfl]
      · rw [if_neg e, if_neg e]
    have e2 : sumRows (setR M k fun b => (row.map fun g => ev k g b).sum) (k + 1) rest = sumRows M k (row :: rest) := by
      funext a b
      show (if k + 1 ≤ a ∧ a < k + 1 + rest.length then ((rest.getD (a - (k + 1)) []).map fun g => ev a g b).sum else if a = k then _ else M a b) = if k ≤ a ∧ a < k + (rest.length + 1) then (((row :: rest).getD (a - k) []).map fun g => ev a g b).sum else M a b
      by_cases e : a = k
      · subst e
        rw [if_neg (by omega), if_pos rfl, if_pos (by omega), Nat.sub_self]
        rfl
      · rw [if_neg e]
        by_cases c : k + 1 ≤ a ∧ a < k + 1 + rest.length
        · rw [if_pos c, if_pos (by omega), show a - k = (a - (k + 1)) + 1 by omega]
          rfl
        · rw [if_neg c, if_neg (by omega)]
    rw [e2, e1] at ih
    rw [← ih]
    have fl : ∀ (cs : List (List Int)), ((cs.flatMap fun l => row.map fun g => g :: l).map fun l => det n (setRows M k l)).sum = (cs.map fun l => (row.map fun g => det n (setRows M k (g :: l))).sum).sum := by
      intro cs
      induction cs with
      | nil => rfl
      | cons c cs ih =>
        rw [List.flatMap_cons, List.map_append, List.sum_append, ih, List.map_cons, List.sum_cons, List.map_map]
        rfl
    show ((((choices rest).flatMap fun l => row.map fun g => g :: l)).map fun l => det n (setRows M k l)).sum = _
    rw [fl]
    congr 1
    refine List.map_congr_left fun l hl => ?_
    show _ = det n (setR (setRows M (k + 1) l) k fun b => (row.map fun g => ev k g b).sum)
    rw [det_listSum n _ k (by omega) (fun g b => ev k g b) row]
    congr 1
    refine List.map_congr_left fun g hg => ?_
    congr 1
    funext a b
    show (if k ≤ a ∧ a < k + (l.length + 1) then ev a ((g :: l).getD (a - k) 0) b else M a b) = if a = k then ev k g b else if k + 1 ≤ a ∧ a < k + 1 + l.length then ev a (l.getD (a - (k + 1)) 0) b else M a b
    by_cases e : a = k
    · subst e
      rw [if_pos (by omega), if_pos rfl, Nat.sub_self]
      rfl
    · rw [if_neg e]
      by_cases c : k + 1 ≤ a ∧ a < k + 1 + l.length
      · rw [if_pos c, if_pos (by omega), show a - k = (a - (k + 1)) + 1 by omega]
        rfl
      · rw [if_neg c, if_neg (by omega)]

/-! Great numbers; fraction-free elimination on paper -/
def CDivX (_ j : Int) : Prop := j ≠ 0 ∧ j.natAbs.log2 < 9000
theorem op_fdivX {X : Cx} : OpR X (binaryOp .FloorDiv) (rI CDivX fun i j => .int (i.fdiv j)) := opI fun _ _ _ _ _ _ _ hc q => PyProof.Rows.floordiv_int hc.1 q (.inl (PyProof.noPylong_of_log2 hc.2))
abbrev mFdivX : R2 := rI CDivX fun i j => .int (i.fdiv j)
abbrev mMulW : R2 := rI CMulW fun i j => .int (i * j)
theorem g_mulW {i j : Int} {H : Hp} {Q : VK} {a b : Nat} (ha : i.natAbs < 2 ^ a) (hb : j.natAbs < 2 ^ b) (h0 : 0 < a) (h1 : 0 < b) (h : a + b ≤ 1000000) (q : Q (.int (i * j)) H) : mMulW (.int i) (.int j) H Q := ⟨i, j, rfl, rfl, wide_mul ha hb h0 h1 h, q⟩
theorem g_fdivX {i j : Int} {H : Hp} {Q : VK} {b : Nat} (h : j ≠ 0) (hb : j.natAbs < 2 ^ b) (h0 : 0 < b) (h9 : b ≤ 9000) (q : Q (.int (i.fdiv j)) H) : mFdivX (.int i) (.int j) H Q :=
  ⟨i, j, rfl, rfl, ⟨h, Nat.lt_of_lt_of_le (PySem.Flt.log2_lt_of h0 hb) h9⟩, q⟩
def matOf (rows : List (List Int)) : Mat := fun a b => (rows.getD a []).getD b 0
theorem fac_le : ∀ n, n ≤ 12 → fac n ≤ 2 ^ 29 := by decide
theorem det_lt {n : Nat} {M : Mat} (hn : n ≤ 12) (h : ∀ a b, a < n → b < n → (M a b).natAbs ≤ 2 ^ 100) : (det n M).natAbs < 2 ^ 1230 := by
  have a := det_abs n M (2 ^ 100) h
  have b := fac_le n hn
  have c : (2 ^ 100) ^ n ≤ 2 ^ 1200 := by
    rw [← Nat.pow_mul]
    exact Nat.pow_le_pow_right (by decide) (by omega)
  have d := Nat.mul_le_mul b c
  rw [← Nat.pow_add] at d
  exact Nat.lt_of_le_of_lt (Nat.le_trans a d) (Nat.pow_lt_pow_right (by decide) (by decide))
theorem sub_lt {n k i j : Nat} {A : Mat} (hn : n ≤ 12) (h : ∀ a b, a < n → b < n → (A a b).natAbs ≤ 2 ^ 100) (hi : k + i < n) (hj : k + j < n) : (sub A k i j).natAbs < 2 ^ 1230 := by
  refine det_lt (by omega) fun a b ha hb => h _ _ ?_ ?_
  · split <;> omega
  · split <;> omega
theorem lead_lt {n k : Nat} {A : Mat} (hn : n ≤ 12) (h : ∀ a b, a < n → b < n → (A a b).natAbs ≤ 2 ^ 100) (hk : k ≤ n) : (det k A).natAbs < 2 ^ 1230 := det_lt (by omega) fun a b ha hb => h a b (by omega) (by omega)
structure Bst (n k : Nat) (rows : List (List Int)) (A M0 : Mat) (sign ahead : Int) : Prop where
  len : rows.length = n
  lens : ∀ a, a < n → (rows.getD a []).length = n
  bnd : ∀ a b, a < n → b < n → (A a b).natAbs ≤ 2 ^ 100
  dt : det n M0 = sign * det n A
  sg : sign = 1 ∨ sign = -1
  ah : ahead = det k A
  nz : ∀ m, m < k → det (m + 1) A ≠ 0
  ent : ∀ i j, k ≤ i → i < n → k ≤ j → j < n → matOf rows i j = sub A k (i - k) (j - k)
theorem sub_zero (A : Mat) (i j : Nat) : sub A 0 i j = A i j := by
  unfold sub
  rw [det_succ]
  show (0 : Int) + 1 * A (0 + i) (0 + j) * 1 = A i j
  rw [Nat.zero_add, Nat.zero_add]
  omega
theorem Bst.start {n : Nat} {rows : List (List Int)} (h1 : rows.length = n) (h2 : ∀ a, a < n → (rows.getD a []).length = n) (h3 : ∀ a b, a < n → b < n → (matOf rows a b).natAbs ≤ 2 ^ 100) : Bst n 0 rows (matOf rows) (matOf rows) 1 1 :=
  ⟨h1, h2, h3, by omega, .inl rfl, rfl, fun m hm => by omega, fun i j _ _ _ _ => by rw [sub_zero, Nat.sub_zero, Nat.sub_zero]⟩
theorem Bst.none {n k : Nat} {rows : List (List Int)} {A M0 : Mat} {sign ahead : Int} (h : Bst n k rows A M0 sign ahead) (hk : k < n) (z : ∀ j, k ≤ j → j < n → matOf rows j k = 0) : det n M0 = 0 := by
  have e := sub_none k (n - k - 1) A h.nz fun i hi => by
    have q := h.ent (k + i) k (by omega) (by omega) (Nat.le_refl k) hk
    rw [z (k + i) (by omega) (by omega), Nat.add_sub_cancel_left, Nat.sub_self] at q
    exact q.symm
  rw [show k + (n - k - 1) + 1 = n by omega] at e
  rw [h.dt, e, Int.mul_zero]
theorem Bst.fin {n : Nat} {rows : List (List Int)} {A M0 : Mat} {sign ahead : Int} (h : Bst n n rows A M0 sign ahead) : det n M0 = sign * ahead := by rw [h.dt, h.ah]
def swapL {α : Type} (xs : List α) (k j : Nat) (d : α) : List α := (xs.set k (xs.getD j d)).set j (xs.getD k d)
theorem swapL_len {α : Type} (xs : List α) (k j : Nat) (d : α) : (swapL xs k j d).length = xs.length := by simp [swapL]
theorem swapL_get {α : Type} {xs : List α} {k j : Nat} {d : α} (hk : k < xs.length) (hj : j < xs.length) (a : Nat) : (swapL xs k j d).getD a d = if a = j then xs.getD k d else if a = k then xs.getD j d else xs.getD a d := by
  unfold swapL
  rw [getD_set (by rw [List.length_set]; exact hj), getD_set hk]
  by_cases h1 : a = j
  · subst h1
    rw [if_pos rfl, if_pos rfl]
  · rw [if_neg (fun z => h1 z.symm), if_neg h1]
    by_cases h2 : a = k
    · subst h2
      rw [if_pos rfl]
    · rw [if_neg (fun z => h2 z.symm), if_neg h2]
theorem Bst.swap {n k j : Nat} {rows : List (List Int)} {A M0 : Mat} {sign ahead : Int} (h : Bst n k rows A M0 sign ahead) (hk : k < n) (kj : k ≤ j) (hj : j < n) (ne : j ≠ k) : Bst n k (swapL rows k j []) (swapR A k j) M0 (-sign) ahead := by
  have hl := h.len
  have get : ∀ a, (swapL rows k j []).getD a [] = rows.getD (if a = k then j else if a = j then k else a) [] := fun a => by
    rw [swapL_get (by omega) (by omega)]
    by_cases h1 : a = j
    · subst h1
      rw [if_pos rfl, if_neg ne, if_pos rfl]
    · rw [if_neg h1]
      by_cases h2 : a = k
      · rw [if_pos h2, if_pos h2]
      · rw [if_neg h2, if_neg h2, if_neg h1]
  have sw : ∀ a b, swapR A k j a b = A (if a = k then j else if a = j then k else a) b := fun a b => by
    show (if a = k then A j b else if a = j then A k b else A a b) = _
    by_cases h1 : a = k
    · rw [if_pos h1, if_pos h1]
    · rw [if_neg h1, if_neg h1]
      by_cases h2 : a = j
      · rw [if_pos h2, if_pos h2]
      · rw [if_neg h2, if_neg h2]
  have lt : ∀ a, a < n → (if a = k then j else if a = j then k else a) < n := fun a ha => by split <;> (try split) <;> omega
  have low : ∀ m, m ≤ k → det m (swapR A k j) = det m A := fun m hm => det_congr m fun a b ha _ => by
    rw [sw, if_neg (by omega), if_neg (by omega)]
  refine ⟨by rw [swapL_len]; exact hl, fun a ha => by rw [get]; exact h.lens _ (lt a ha), fun a b ha hb => by rw [sw]; exact h.bnd _ _ (lt a ha) hb, ?_, ?_, by rw [low k (Nat.le_refl k)]; exact h.ah, fun m hm => by rw [low (m + 1) (by omega)]; exact h.nz m hm, fun a b ha han hb hbn => ?_⟩
  · rw [det_swap A hk hj (fun z => ne z.symm), h.dt]
    grind
  · rcases h.sg with z | z
    · exact .inr (by omega)
    · exact .inl (by omega)
  · have q := h.ent (if a = k then j else if a = j then k else a) b (by split <;> (try split) <;> omega) (lt a han) hb hbn
    show ((swapL rows k j []).getD a []).getD b 0 = _
    rw [get]
    refine q.trans (det_congr _ fun x y _ _ => ?_)
    show A (if x < k then x else k + ((if a = k then j else if a = j then k else a) - k)) _ = swapR A k j (if x < k then x else k + (a - k)) _
    rw [sw]
    refine congrArg (fun z => A z _) ?_
    by_cases hx : x < k
    · simp only [if_pos hx]
      rw [if_neg (by omega), if_neg (by omega)]
    · simp only [if_neg hx]
      rw [show k + (a - k) = a by omega]
      have : k ≤ (if a = k then j else if a = j then k else a) := by split <;> (try split) <;> omega
      omega
theorem Bst.head {n k : Nat} {rows : List (List Int)} {A M0 : Mat} {sign ahead : Int} (h : Bst n k rows A M0 sign ahead) (hk : k < n) : matOf rows k k = det (k + 1) A := by
  rw [h.ent k k (Nat.le_refl k) hk (Nat.le_refl k) hk, Nat.sub_self]
  exact bord_same A k
theorem Bst.ahead0 {n k : Nat} {rows : List (List Int)} {A M0 : Mat} {sign ahead : Int} (h : Bst n k rows A M0 sign ahead) : ahead ≠ 0 := by
  rw [h.ah]
  cases k with
  | zero => exact (by decide : (1 : Int) ≠ 0)
  | succ k => exact h.nz k (by omega)
/-- the division comes out even -/
theorem Bst.step {n k i m : Nat} {rows : List (List Int)} {A M0 : Mat} {sign ahead : Int} (h : Bst n k rows A M0 sign ahead) (hi : k < i) (hin : i < n) (hm : k < m) (hmn : m < n) :
    (matOf rows i m * matOf rows k k - matOf rows i k * matOf rows k m).fdiv ahead = sub A (k + 1) (i - k - 1) (m - k - 1) := by
  have e := sub_step k A (i - k - 1) (m - k - 1) h.nz
  rw [h.ent i m (by omega) hin (by omega) hmn, h.ent k k (Nat.le_refl k) (by omega) (Nat.le_refl k) (by omega), h.ent i k (by omega) hin (Nat.le_refl k) (by omega), h.ent k m (Nat.le_refl k) (by omega) (by omega) hmn, Nat.sub_self]
  rw [show i - k - 1 + 1 = i - k by omega, show m - k - 1 + 1 = m - k by omega, ← h.ah] at e
  rw [← e]
  exact Int.mul_fdiv_cancel_left _ h.ahead0
/-- rows of stage k, done up to place m of row i -/
structure Mid (n k i m : Nat) (R0 R : List (List Int)) (A : Mat) : Prop where
  len : R.length = n
  lens : ∀ a, a < n → (R.getD a []).length = n
  ent : ∀ a b, a < n → b < n → matOf R a b = if k < a ∧ k < b ∧ (a < i ∨ (a = i ∧ b < m)) then sub A (k + 1) (a - k - 1) (b - k - 1) else matOf R0 a b
theorem Mid.start {n k : Nat} {R0 : List (List Int)} {A : Mat} (h1 : R0.length = n) (h2 : ∀ a, a < n → (R0.getD a []).length = n) : Mid n k (k + 1) (k + 1) R0 R0 A := ⟨h1, h2, fun a b _ _ => by rw [if_neg (by omega)]⟩
theorem Mid.row {n k i : Nat} {R0 R : List (List Int)} {A : Mat} (h : Mid n k i n R0 R A) : Mid n k (i + 1) (k + 1) R0 R A := ⟨h.len, h.lens, fun a b ha hb => by
  rw [h.ent a b ha hb]
  by_cases c : k < a ∧ k < b ∧ (a < i ∨ (a = i ∧ b < n))
  · rw [if_pos c, if_pos (by omega)]
  · rw [if_neg c, if_neg (by omega)]⟩
theorem Mid.put {n k i m : Nat} {R0 R : List (List Int)} {A : Mat} {x : Int} (h : Mid n k i m R0 R A) (hi : k < i) (hin : i < n) (hm : k < m) (hmn : m < n) (hx : x = sub A (k + 1) (i - k - 1) (m - k - 1)) : Mid n k i (m + 1) R0 (R.set i ((R.getD i []).set m x)) A := by
  have hl := h.len
  have get : ∀ a, (R.set i ((R.getD i []).set m x)).getD a [] = if i = a then (R.getD i []).set m x else R.getD a [] := fun a => getD_set (by omega)
  refine ⟨by rw [List.length_set]; exact hl, fun a ha => ?_, fun a b ha hb => ?_⟩
  · rw [get]
    split
    · rw [List.length_set]
      exact h.lens i hin
    · exact h.lens a ha
  · show (List.getD (R.set i ((R.getD i []).set m x)) a []).getD b 0 = _
    rw [get]
    by_cases e : i = a
    · subst e
      rw [if_pos rfl, getD_set (by rw [h.lens i hin]; exact hmn)]
      by_cases e2 : m = b
      · subst e2
        rw [if_pos rfl, if_pos ⟨hi, hm, .inr ⟨rfl, by omega⟩⟩, hx]
      · rw [if_neg e2]
        refine (h.ent i b hin hb).trans ?_
        by_cases c : k < i ∧ k < b ∧ (i < i ∨ (i = i ∧ b < m))
        · rw [if_pos c, if_pos (by omega)]
        · rw [if_neg c, if_neg (by omega)]
    · rw [if_neg e]
      refine (h.ent a b ha hb).trans ?_
      by_cases c : k < a ∧ k < b ∧ (a < i ∨ (a = i ∧ b < m))
      · rw [if_pos c, if_pos (by omega)]
      · rw [if_neg c, if_neg (by omega)]
theorem Mid.done {n k : Nat} {R0 R : List (List Int)} {A M0 : Mat} {sign ahead : Int} (h : Mid n k n (k + 1) R0 R A) (b : Bst n k R0 A M0 sign ahead) (hk : k < n) (h0 : matOf R0 k k ≠ 0) : Bst n (k + 1) R A M0 sign (matOf R0 k k) := by
  have hd := b.head hk
  refine ⟨h.len, h.lens, b.bnd, b.dt, b.sg, hd, fun m hm => ?_, fun i j hi hin hj hjn => ?_⟩
  · by_cases e : m = k
    · subst e
      rw [← hd]
      exact h0
    · exact b.nz m (by omega)
  · rw [h.ent i j hin hjn, if_pos ⟨by omega, by omega, .inl hin⟩, show i - (k + 1) = i - k - 1 by omega, show j - (k + 1) = j - k - 1 by omega]
/-! ### a list of rows in the ledger: a row put otherwise, rows exchanged -/
theorem rowLed_set {D r : Addr} {as : List Addr} {rows : List (List Int)} {i : Nat} {row : List Int} (e : as[i]? = some r) (hl : as.length = rows.length) : (rowLed D as rows).set (i + 1) (r, ilst row) = rowLed D as (rows.set i row) := by
  show (D, HO.lst (as.map V.ref)) :: (List.zipWith (fun a row => (a, ilst row)) as rows).set i (r, ilst row) = (D, HO.lst (as.map V.ref)) :: List.zipWith (fun a row => (a, ilst row)) as (rows.set i row)
  congr 1
  have hi : i < as.length := (List.getElem?_eq_some_iff.mp e).1
  apply List.ext_getElem?
  intro j
  rw [List.getElem?_zipWith]
  by_cases ij : i = j
  · subst ij
    rw [List.getElem?_set_self (by rw [List.length_zipWith]; omega), List.getElem?_set_self (by omega), e]
  · rw [List.getElem?_set_ne ij, List.getElem?_zipWith, List.getElem?_set_ne ij]
theorem Led.part {B H : Hp} {L L' : List (Addr × HO)} (h : Led B L H) (s : ∀ x, x ∈ L' → x ∈ L) (nd : (L'.map Prod.fst).Nodup) : Led B L' H :=
  ⟨h.same, fun i p o e => h.mem (s _ (List.mem_of_getElem? e)), nd, fun p hp => by
    obtain ⟨x, hx, rfl⟩ := List.mem_map.mp hp
    exact h.new _ (List.mem_map.mpr ⟨x, s x hx, rfl⟩)⟩
theorem rowLed_keys {D : Addr} {as : List Addr} {rows : List (List Int)} (hl : as.length = rows.length) : (rowLed D as rows).map Prod.fst = D :: as := by
  show D :: (List.zipWith (fun a row => (a, ilst row)) as rows).map Prod.fst = _
  congr 1
  apply List.ext_getElem?
  intro j
  rw [List.getElem?_map, List.getElem?_zipWith]
  by_cases h : j < as.length
  · rw [List.getElem?_eq_getElem h, List.getElem?_eq_getElem (show j < rows.length by omega)]
    rfl
  · rw [List.getElem?_eq_none (show as.length ≤ j by omega)]
    rfl
theorem nodup_ix {α : Type} {l : List α} (h : l.Nodup) {i j : Nat} {x : α} (e1 : l[i]? = some x) (e2 : l[j]? = some x) : i = j := nd_ix h e1 e2
/-- rows exchanged in the list -/
theorem led_swap {B H : Hp} {D : Addr} {as : List Addr} {rows : List (List Int)} {k j : Nat} (led : Led B ((D, HO.lst ((swapL as k j 0).map V.ref)) :: (rowLed D as rows).tail) H) (hl : as.length = rows.length) (hk : k < as.length) (hj : j < as.length) (ne : j ≠ k) : Led B (rowLed D (swapL as k j 0) (swapL rows k j [])) H := by
  have kd : (D :: as).Nodup := by
    have e : ((D, HO.lst ((swapL as k j 0).map V.ref)) :: (rowLed D as rows).tail).map Prod.fst = D :: as := rowLed_keys hl
    rw [← e]
    exact led.nd
  have get : ∀ a, (swapL as k j 0).getD a 0 = as.getD (if a = k then j else if a = j then k else a) 0 := fun a => by
    rw [swapL_get hk hj]
    by_cases h1 : a = j
    · subst h1
      rw [if_pos rfl, if_neg ne, if_pos rfl]
    · rw [if_neg h1]
      by_cases h2 : a = k
      · rw [if_pos h2, if_pos h2]
      · rw [if_neg h2, if_neg h2, if_neg h1]
  have getr : ∀ a, (swapL rows k j []).getD a [] = rows.getD (if a = k then j else if a = j then k else a) [] := fun a => by
    rw [swapL_get (by omega) (by omega)]
    by_cases h1 : a = j
    · subst h1
      rw [if_pos rfl, if_neg ne, if_pos rfl]
    · rw [if_neg h1]
      by_cases h2 : a = k
      · rw [if_pos h2, if_pos h2]
      · rw [if_neg h2, if_neg h2, if_neg h1]
  have lt : ∀ a, a < as.length → (if a = k then j else if a = j then k else a) < as.length := fun a ha => by split <;> (try split) <;> omega
  have some_ : ∀ {α : Type} (l : List α) (a : Nat) (d : α), a < l.length → l[a]? = some (l.getD a d) := fun l a d h => by rw [List.getD_eq_getElem?_getD, List.getElem?_eq_getElem h]; rfl
  refine led.part (fun x hx => ?_) ?_
  · rcases List.mem_cons.mp hx with rfl | hx
    · exact List.mem_cons_self
    · refine List.mem_cons_of_mem _ ?_
      obtain ⟨a, ha, e⟩ := List.getElem_of_mem hx
      have ha2 : a < as.length := by
        rw [List.length_zipWith, swapL_len] at ha
        omega
      have e2 : (List.zipWith (fun a row => (a, ilst row)) (swapL as k j 0) (swapL rows k j []))[a]? = some x := by rw [List.getElem?_eq_getElem ha, e]
      rw [List.getElem?_zipWith, some_ (swapL as k j 0) a 0 (by rw [swapL_len]; exact ha2), some_ (swapL rows k j []) a [] (by rw [swapL_len]; omega), get, getr] at e2
      cases e2
      have l2 := lt a ha2
      exact List.mem_of_getElem? (zip_at (some_ as _ 0 l2) (some_ rows _ [] (by omega)))
  · rw [rowLed_keys (by rw [swapL_len, swapL_len]; exact hl)]
    refine List.nodup_cons.mpr ⟨fun hD => ?_, nodup_of_ix fun a b x ea eb => ?_⟩
    · obtain ⟨a, ha, e⟩ := List.getElem_of_mem hD
      rw [swapL_len] at ha
      have e2 : (swapL as k j 0).getD a 0 = D := by rw [List.getD_eq_getElem?_getD, List.getElem?_eq_getElem (by rw [swapL_len]; exact ha), ← e]; rfl
      rw [get] at e2
      exact (List.nodup_cons.mp kd).1 (by rw [← e2]; exact getD_mem (lt a ha))
    · have la : a < as.length := by
        have := (List.getElem?_eq_some_iff.mp ea).1
        rw [swapL_len] at this
        exact this
      have lb : b < as.length := by
        have := (List.getElem?_eq_some_iff.mp eb).1
        rw [swapL_len] at this
        exact this
      rw [some_ (swapL as k j 0) a 0 (by rw [swapL_len]; exact la), get] at ea
      rw [some_ (swapL as k j 0) b 0 (by rw [swapL_len]; exact lb), get] at eb
      have z := nd_ix (List.nodup_cons.mp kd).2 (some_ as _ 0 (lt a la)) (by rw [some_ as _ 0 (lt b lb), Option.some.inj eb, Option.some.inj ea])
      revert z
      split <;> split <;> (try split) <;> (try split) <;> omega

/-! More comprehensions: with a test, of truths -/
section
variable {K : PySem.W.Frag} {σ : L2.St} {H : Hp} {Q : VK} {te : TE} {tt : TT} {i : Nat} {vs : List Nat}
theorem filter_push {α : Type} {l : List α} {x : α} {b : α → Bool} {β : Type} {f : α → β} (h : b x = true) : ((l ++ [x]).filter b).map f = (l.filter b).map f ++ [f x] := by
  rw [List.filter_append, List.map_append]
  simp [h]
theorem filter_skip {α : Type} {l : List α} {x : α} {b : α → Bool} {β : Type} {f : α → β} (h : b x = false) : ((l ++ [x]).filter b).map f = (l.filter b).map f := by
  rw [List.filter_append, List.map_append]
  simp [h]
/-- [f k for k in range(n) if b k] -/
theorem lcRF {n : Nat} (b : Nat → Bool) (f : Nat → Int) (hn : n ≤ 100000) (hw : ∀ x : Int, wipe ((wipe σ vs).set i (some (.int x))) vs = wipe σ vs)
    (ht : ∀ D k ns H1 (R : Bool → Hp → Prop), k < n → Led H [(D, ilst ns)] H1 → (∀ H2, Led H [(D, ilst ns)] H2 → R (b k) H2) → tt ((wipe σ vs).set i (some (.int (0 + k)))) H1 R)
    (he : ∀ D k ns H1 (R : VK), k < n → Led H [(D, ilst ns)] H1 → (∀ H2, Led H [(D, ilst ns)] H2 → R (.int (f k)) H2) → te ((wipe σ vs).set i (some (.int (0 + k)))) H1 R)
    (hd : ∀ D H1, H D = none → Same H H1 → H1 D = some (ilst (((List.range n).filter b).map f)) → Q (.ref D) H1) : LcR 0 n i tt te vs σ H Q := by
  refine lcRT (fun D k H1 => Led H [(D, ilst (((List.range k).filter b).map f))] H1) (fun D nD => (Led.nil H).alloc nD _) hw (fun D k H1 nD hk l1 => ?_) (fun D H1 nD l1 => hd D H1 nD l1.same (l1.get 0 rfl))
  refine ht D k _ H1 _ hk l1 fun H2 l2 => ?_
  cases hb : b k with
  | false =>
    refine iteF ?_
    show Led H [(D, ilst (((List.range (k + 1)).filter b).map f))] H2
    rw [List.range_succ, filter_skip hb]
    exact l2
  | true =>
    refine iteT ?_
    refine he D k _ H2 _ hk l2 fun H3 l3 => ?_
    refine ⟨_, l3.get 0 rfl, ?_, ?_⟩
    · have h1 := List.length_filter_le b (List.range k)
      rw [List.length_range] at h1
      rw [List.length_map, List.length_map]
      exact Nat.lt_of_lt_of_le (show _ < 100000 by omega) (by decide)
    · show Led H [(D, ilst (((List.range (k + 1)).filter b).map f))] _
      rw [List.range_succ, filter_push hb]
      exact ints_push l3
/-- [f x for x in xs if b x], xs ints -/
theorem lcLF {a : Addr} {xs : List Int} (b : Int → Bool) (f : Int → Int) (hn : xs.length ≤ 100000) (s : SqL K H a (xs.map V.int)) (hw : ∀ x : V, wipe ((wipe σ vs).set i (some x)) vs = wipe σ vs)
    (ht : ∀ D x ns H1 (R : Bool → Hp → Prop), x ∈ xs → Led H [(D, ilst ns)] H1 → (∀ H2, Led H [(D, ilst ns)] H2 → R (b x) H2) → tt ((wipe σ vs).set i (some (.int x))) H1 R)
    (he : ∀ D x ns H1 (R : VK), x ∈ xs → Led H [(D, ilst ns)] H1 → (∀ H2, Led H [(D, ilst ns)] H2 → R (.int (f x)) H2) → te ((wipe σ vs).set i (some (.int x))) H1 R)
    (hd : ∀ D H1, H D = none → Same H H1 → H1 D = some (ilst ((xs.filter b).map f)) → Q (.ref D) H1) : LcL K a i tt te vs σ H Q := by
  intro D nD
  refine lc_list (xs := xs.map V.int) (g := gName i) (fun k H1 => Led H [(D, ilst (((xs.take k).filter b).map f))] H1) ((Led.nil H).alloc nD _) (fun k H1 hk l1 => l1.base s) (fun k x H1 hx l1 => ⟨hw _, ?_⟩) (fun H1 l1 => hd D H1 nD l1.same (by
    have z := l1.get 0 rfl
    rw [List.length_map, List.take_length] at z
    exact z))
  have hk : k < xs.length := by
    have := (List.getElem?_eq_some_iff.mp hx).1
    simpa using this
  rw [List.getElem?_map, List.getElem?_eq_getElem hk] at hx
  cases hx
  have e : xs.take (k + 1) = xs.take k ++ [xs[k]] := by rw [List.take_add_one, List.getElem?_eq_getElem hk]; rfl
  refine ht D _ _ H1 _ (List.getElem_mem hk) l1 fun H2 l2 => ?_
  cases hb : b xs[k] with
  | false =>
    refine iteF ?_
    show Led H [(D, ilst (((xs.take (k + 1)).filter b).map f))] H2
    rw [e, filter_skip hb]
    exact l2
  | true =>
    refine iteT ?_
    refine he D _ _ H2 _ (List.getElem_mem hk) l2 fun H3 l3 => ?_
    refine ⟨_, l3.get 0 rfl, ?_, ?_⟩
    · have h1 := List.length_filter_le b (xs.take k)
      rw [List.length_take] at h1
      rw [List.length_map, List.length_map]
      exact Nat.lt_of_lt_of_le (show _ < 100000 by omega) (by decide)
    · show Led H [(D, ilst (((xs.take (k + 1)).filter b).map f))] _
      rw [e, filter_push hb]
      exact ints_push l3
theorem bls_push {H2 : Hp} {D : Addr} {ns : List Bool} {x : Bool} (h : Led H [(D, blst ns)] H2) : Led H [(D, blst (ns ++ [x]))] (upd H2 D (.lst (ns.map V.bl ++ [V.bl x]))) := by
  have z := h.set (i := 0) rfl (.lst (ns.map V.bl ++ [V.bl x]))
  have e2 : blst (ns ++ [x]) = .lst (ns.map V.bl ++ [V.bl x]) := by rw [blst, List.map_append]; rfl
  rw [e2]
  exact z
/-- [f k for k in range(n)], truths -/
theorem lcRB {n : Nat} (f : Nat → Bool) (hn : n ≤ 100000) (hw : ∀ x : Int, wipe ((wipe σ vs).set i (some (.int x))) vs = wipe σ vs)
    (he : ∀ D k ns H1 (R : VK), k < n → Led H [(D, blst ns)] H1 → (∀ H2, Led H [(D, blst ns)] H2 → R (.bl (f k)) H2) → te ((wipe σ vs).set i (some (.int (0 + k)))) H1 R)
    (hd : ∀ D H1, H D = none → Same H H1 → H1 D = some (blst ((List.range n).map f)) → Q (.ref D) H1) : LcR 0 n i tYes te vs σ H Q := by
  refine lcR (fun D k H1 => Led H [(D, blst ((List.range k).map f))] H1) (fun D nD => (Led.nil H).alloc nD _) hw (fun D k H1 nD hk l1 => ?_) (fun D H1 nD l1 => hd D H1 nD l1.same (l1.get 0 rfl))
  refine he D k _ H1 _ hk l1 fun H2 l2 => ⟨_, l2.get 0 rfl, ?_, ?_⟩
  · rw [List.length_map, List.length_map, List.length_range]
    exact Nat.lt_of_lt_of_le (show _ < 100000 by omega) (by decide)
  · show Led H [(D, blst ((List.range (k + 1)).map f))] _
    rw [List.range_succ, List.map_append]
    exact bls_push l2
/-- one and the same value for each item -/
theorem lcRowsV {a : Addr} {rows : List (List Int)} {v : V} (R : RowsAt H a rows) (hn : rows.length ≤ 100000) (hw : ∀ x : V, wipe ((wipe σ vs).set i (some x)) vs = wipe σ vs)
    (hd : ∀ D H1, H D = none → Same H H1 → H1 D = some (.lst (List.replicate rows.length v)) → Q (.ref D) H1) : LcL K a i tYes (tC v) vs σ H Q := by
  obtain ⟨as, e1, e2, _⟩ := R.sq (K := K)
  refine lcL (xs := as.map V.ref) (fun D k H1 => Led H [(D, .lst (List.replicate k v))] H1) (fun D nD => (Led.nil H).alloc nD _) (fun D k H1 _ l1 => l1.base e1) hw (fun D k x H1 nD hx l1 => ?_) (fun D H1 nD l1 => hd D H1 nD l1.same (by
    have z := l1.get 0 rfl
    rw [List.length_map, e2] at z
    exact z))
  have hk : k < rows.length := by
    have := (List.getElem?_eq_some_iff.mp hx).1
    rw [List.length_map, e2] at this
    exact this
  refine ⟨_, l1.get 0 rfl, ?_, ?_⟩
  · rw [List.length_replicate]
    exact Nat.lt_of_lt_of_le (show _ < 100000 by omega) (by decide)
  · have z := l1.set (i := 0) rfl (.lst (List.replicate k v ++ [v]))
    rw [← List.replicate_succ'] at z ⊢
    exact z
end
section
variable {K : PySem.W.Frag} {H : Hp} {Q : VK} {B : Hp} {L : List (Addr × HO)}
theorem g_setBl (led : Led B L H) (j : Nat) {p : Addr} {ns : List Bool} {i : Int} {x : Bool} {R : Hp → Prop} (e : L[j]? = some (p, blst ns)) (h0 : 0 ≤ i) (h1 : i < ns.length) (q : ∀ H', Led B (L.set j (p, blst (ns.set i.toNat x))) H' → R H') :
    rSetL (.ref p) (.int i) (.bl x) H R := by
  refine ⟨p, ns.map V.bl, i, i.toNat, rfl, rfl, led.get j e, ?_, ?_⟩
  · rw [List.length_map]
    exact ixN_of h0 h1
  · rw [show (ns.map V.bl).set i.toNat (V.bl x) = (ns.set i.toNat x).map V.bl from List.map_set.symm]
    exact q _ (led.set e _)
theorem g_all {p : Addr} {bs : List Bool} (s : SqL K H p (bs.map V.bl)) (h : Q (.bl (bs.all id)) H) : rAll K [.ref p] H Q := ⟨p, bs, rfl, s, h⟩
theorem g_any {p : Addr} {bs : List Bool} (s : SqL K H p (bs.map V.bl)) (h : Q (.bl (bs.any id)) H) : rAny K [.ref p] H Q := ⟨p, bs, rfl, s, h⟩
theorem inV_ints {x : Int} {ns : List Int} : inV (.int x) (ns.map V.int) = decide (x ∈ ns) := by
  unfold inV
  rw [List.any_map]
  induction ns with
  | nil => rfl
  | cons n ns ih =>
    rw [List.any_cons, ih]
    show ((n == x) || _) = _
    by_cases e : n = x
    · subst e
      simp
    · have e2 : ¬ x = n := fun z => e z.symm
      simp [e, e2]
theorem flat_ints : ∀ ns : List Int, (ns.map V.int).all flatV = true
  | [] => rfl
  | n :: ns => by
    rw [List.map_cons, List.all_cons, flat_ints ns]
    rfl
theorem g_inI {p : Addr} {ns : List Int} {x : Int} (s : SqL K H p (ns.map V.int)) (h : Q (.bl (decide (x ∈ ns))) H) : rIn K false (.int x) (.ref p) H Q :=
  ⟨p, _, rfl, .inl s, rfl, flat_ints ns, by rw [if_neg (by decide), inV_ints]; exact h⟩
theorem inV_bls {x : Bool} {ns : List Bool} : inV (.bl x) (ns.map V.bl) = decide (x ∈ ns) := by
  unfold inV
  rw [List.any_map]
  induction ns with
  | nil => rfl
  | cons n ns ih =>
    rw [List.any_cons, ih]
    show ((n == x) || _) = _
    cases n <;> cases x <;> simp
theorem flat_bls : ∀ ns : List Bool, (ns.map V.bl).all flatV = true
  | [] => rfl
  | n :: ns => by
    rw [List.map_cons, List.all_cons, flat_bls ns]
    rfl
theorem g_ninB {p : Addr} {ns : List Bool} {x : Bool} (s : SqL K H p (ns.map V.bl)) (h : Q (.bl (!decide (x ∈ ns))) H) : rIn K true (.bl x) (.ref p) H Q :=
  ⟨p, _, rfl, .inl s, rfl, flat_bls ns, by rw [if_pos rfl, inV_bls]; exact h⟩
end
theorem whileN {tt : TT} {tb : TS} {D : Ends} {σ : L2.St} {H : Hp} (W : Nat → L2.St → Hp → Prop) (m0 : Nat) (h0 : W m0 σ H)
    (hs : ∀ m σ H, W m σ H → tt σ H fun b H1 => if b = true then ∃ N : L2.St → Hp → Prop, (∀ σ' H', N σ' H' → ∃ m', m' < m ∧ W m' σ' H') ∧ tb { D with nx := N, ct := N, bk := D.nx } σ H1 else D.nx σ H1) : tWhile tt tb D σ H := ⟨W, ⟨m0, h0⟩, hs⟩
section
variable {K : PySem.W.Frag} {σ : L2.St} {H : Hp} {Q : VK} {te : TE} {tt : TT} {i : Nat} {vs : List Nat}
theorem lcLRowsL {a : Addr} {xs : List V} (P : List (List Int) → Prop) (h0 : P []) (hn : xs.length ≤ 100000) (s : SqL K H a xs) (hw : ∀ x : V, wipe ((wipe σ vs).set i (some x)) vs = wipe σ vs)
    (hs : ∀ D k v as rows H1 (R : VK), xs[k]? = some v → rows.length = k → P rows → Led H (rowLed D as rows) H1 → (∀ r row H2, P (rows ++ [row]) → Led H (rowLed D as rows ++ [(r, ilst row)]) H2 → R (.ref r) H2) → te ((wipe σ vs).set i (some v)) H1 R)
    (hd : ∀ D as rows H1, as.length = rows.length → rows.length = xs.length → P rows → Led H (rowLed D as rows) H1 → Q (.ref D) H1) : LcL K a i tYes te vs σ H Q :=
  lcL (xs := xs) (RowsUp H P) (fun D nD => RowsUp.start h0 D nD) (fun D k H1 _ ⟨as, rows, e0, e, p1, l1⟩ => l1.base s) hw
    (fun D k v H1 nD hx ⟨as, rows, e0, e, p1, l1⟩ => hs D k v as rows H1 _ hx e p1 l1 fun r row H2 p2 l2 => RowsUp.step e0 e (by have := (List.getElem?_eq_some_iff.mp hx).1; omega) p2 l2)
    (fun D H1 nD ⟨as, rows, e0, e, p1, l1⟩ => hd D as rows H1 e0 e p1 l1)
/-- each row copied, the copies in the ledger -/
theorem lcCopyL {a : Addr} {rows : List (List Int)} (R : RowsAt H a rows) (hn : rows.length ≤ 100000) (hw : ∀ x : V, wipe ((wipe σ vs).set i (some x)) vs = wipe σ vs) (hi : ∀ x : V, ((wipe σ vs).set i (some x))[i]? = some (some x))
    (hd : ∀ D as H1, as.length = rows.length → Led H (rowLed D as rows) H1 → Q (.ref D) H1) : LcL K a i tYes (tCB (mList K) (tCons (tVar i) tNil)) vs σ H Q := by
  obtain ⟨as, e1, e2, e3⟩ := R.sq (K := K)
  refine lcLRowsL (fun rs => rs = rows.take rs.length) rfl (by rw [List.length_map, e2]; exact hn) e1 hw (fun D k v bs rs H1 S hx e p l q => ?_) (fun D as' rs H1 e0 e p l => ?_)
  · obtain ⟨r, rfl, hk, hr⟩ := e3 k v hx
    refine g_cb (g_cons (g_var (hi _) (g_nil (g_list (l.base hr) fun m nm => q m (rows.getD k []) _ ?_ (l.alloc nm _)))))
    rw [List.length_append, e]
    show rs ++ [rows.getD k []] = rows.take (k + 1)
    rw [p, e, List.take_add_one, List.getD_eq_getElem?_getD, List.getElem?_eq_getElem hk]
    rfl
  · rw [List.length_map, e2] at e
    rw [e, List.take_length] at p
    subst p
    exact hd D as' H1 e0 l
end

/-! A square made of two -/
theorem sumN_split {f : Nat → Int} {r : Nat} : ∀ n, r < n → (∀ i, r < i → i < n → f i = 0) → sumN n f = sumN r f + f r
  | 0, h, _ => by omega
  | n + 1, h, z => by
    show sumN n f + f n = _
    by_cases e : r = n
    · subst e
      rfl
    · rw [sumN_split n (by omega) fun i h1 h2 => z i h1 (by omega), z n (by omega) (by omega)]
      omega
theorem det_addRows {n : Nat} (M : Mat) {r : Nat} (hr : r < n) (c : Nat → Int) : ∀ s, s ≤ r → det n (setR M r fun b => M r b + sumN s fun m => c m * M m b) = det n M
  | 0, _ => by
    have : (fun b => M r b + sumN 0 fun m => c m * M m b) = M r := by
      funext b
      show M r b + 0 = M r b
      omega
    rw [this, setR_get]
  | s + 1, hs => by
    have e : (fun b => M r b + sumN (s + 1) fun m => c m * M m b) = fun b => c s * M s b + (fun b => M r b + sumN s fun m => c m * M m b) b := by
      funext b
      show M r b + (sumN s (fun m => c m * M m b) + c s * M s b) = c s * M s b + (M r b + sumN s fun m => c m * M m b)
      omega
    rw [e, det_lin n M r (c s) (M s) _ hr, det_addRows M hr c s (by omega), det_same (setR M r (M s)) hr (show s < n by omega) (by omega) fun b _ => by rw [setR_same, setR_ne M _ _ (show s ≠ r by omega)]]
    omega
theorem det_lu (n : Nat) (L U : Mat) (h1 : ∀ a, a < n → L a a = 1) (h2 : ∀ a b, a < b → b < n → L a b = 0) : det n (fun a b => sumN n fun m => L a m * U m b) = det n U := by
  have step : ∀ r, r ≤ n → det n (fun a b => if r ≤ a then sumN n (fun m => L a m * U m b) else U a b) = det n (fun a b => sumN n fun m => L a m * U m b) := by
    intro r
    induction r with
    | zero =>
      intro _
      exact det_congr n fun a b _ _ => if_pos (Nat.zero_le _)
    | succ r ih =>
      intro hr
      rw [← ih (by omega)]
      have e := det_addRows (n := n) (fun a b => if r + 1 ≤ a then sumN n (fun m => L a m * U m b) else U a b) (r := r) (by omega) (fun m => L r m) r (Nat.le_refl r)
      rw [← e]
      refine det_congr n fun a b ha hb => ?_
      show (if a = r then (if r + 1 ≤ r then _ else U r b) + sumN r (fun m => L r m * (if r + 1 ≤ m then _ else U m b)) else if r + 1 ≤ a then sumN n (fun m => L a m * U m b) else U a b) = if r ≤ a then sumN n (fun m => L a m * U m b) else U a b
      by_cases q : a = r
      · subst q
        rw [if_pos rfl, if_neg (by omega), if_pos (Nat.le_refl _), sumN_split (r := a) n ha fun i hi hin => by rw [h2 a i hi hin, Int.zero_mul], h1 a ha, Int.one_mul, Int.add_comm]
        congr 1
        refine sumN_congr a fun m hm => ?_
        rw [if_neg (by omega)]
      · rw [if_neg q]
        by_cases q2 : r + 1 ≤ a
        · rw [if_pos q2, if_pos (by omega)]
        · rw [if_neg q2, if_neg (by omega)]
  rw [← step n (Nat.le_refl n)]
  exact det_congr n fun a b ha hb => if_neg (by omega)
theorem sum_range (f : Nat → Int) : ∀ n, ((List.range n).map f).sum = sumN n f
  | 0 => rfl
  | n + 1 => by
    rw [List.range_succ, List.map_append, List.sum_append, sum_range f n]
    show _ + (f n + 0) = sumN n f + f n
    omega
theorem getD_push {α : Type} {xs : List α} {x d : α} {i : Nat} (h : i < xs.length + 1) : (xs ++ [x]).getD i d = if i < xs.length then xs.getD i d else x := by
  by_cases z : i < xs.length
  · rw [if_pos z, List.getD_eq_getElem?_getD, List.getElem?_append_left z, ← List.getD_eq_getElem?_getD]
  · rw [if_neg z, List.getD_eq_getElem?_getD, List.getElem?_append_right (by omega), show i - xs.length = 0 by omega]
    rfl
theorem range_getD (f : Nat → Int) {n i : Nat} (h : i < n) : ((List.range n).map f).getD i 0 = f i := by
  rw [List.getD_eq_getElem?_getD, List.getElem?_map, List.getElem?_range h]
  rfl

/-! == and != over lists of ints, of rows, over told words -/
section
variable {K : PySem.W.Frag} {H : Hp} {Q : VK}
theorem dp_all_int : ∀ ns : List Int, DpAll K H (ns.map V.int) (ns.map PyData.int)
  | [] => .nil
  | n :: ns => .cons (.int n) (dp_all_int ns)
theorem dp_ints {p : Addr} {ns : List Int} (s : SqL K H p (ns.map V.int)) : Dp K H (.ref p) (.list (ns.map PyData.int)) := .lst s (dp_all_int ns)
theorem dp_all_bl : ∀ ns : List Bool, DpAll K H (ns.map V.bl) (ns.map PyData.bool)
  | [] => .nil
  | n :: ns => .cons (.bl n) (dp_all_bl ns)
theorem dp_bls {p : Addr} {ns : List Bool} (s : SqL K H p (ns.map V.bl)) : Dp K H (.ref p) (.list (ns.map PyData.bool)) := .lst s (dp_all_bl ns)
theorem dp_rows {p : Addr} {rows : List (List Int)} (R : RowsAt H p rows) : Dp K H (.ref p) (.list (rows.map fun r => .list (r.map PyData.int))) := by
  obtain ⟨as, e1, e2, e3⟩ := R
  refine .lst (SqL.of e1) ?_
  have gen : ∀ (as : List Addr) (rows : List (List Int)), as.length = rows.length → (∀ (i : Nat) (r : Addr) (row : List Int), as[i]? = some r → rows[i]? = some row → H r = some (ilst row)) → DpAll K H (as.map V.ref) (rows.map fun r => .list (r.map PyData.int)) := by
    intro as
    induction as with
    | nil =>
      intro rows hl _
      cases rows with
      | nil => exact .nil
      | cons r rs => simp at hl
    | cons a as ih =>
      intro rows hl h
      cases rows with
      | nil => simp at hl
      | cons r rs => exact .cons (dp_ints (SqL.of (h 0 a r rfl rfl))) (ih rs (by simpa using hl) fun i b row h1 h2 => h (i + 1) b row h1 h2)
  exact gen as rows e2 e3
theorem lay_ints : ∀ ns : List Int, PyData.canLayAll0 (ns.map PyData.int) = true
  | [] => by simp [PyData.canLayAll0]
  | n :: ns => by
    rw [List.map_cons, PyData.canLayAll0, lay_ints ns]
    simp [PyData.canLay0]
theorem lay_bls : ∀ ns : List Bool, PyData.canLayAll0 (ns.map PyData.bool) = true
  | [] => by simp [PyData.canLayAll0]
  | n :: ns => by
    rw [List.map_cons, PyData.canLayAll0, lay_bls ns]
    simp [PyData.canLay0]
theorem lay_rows : ∀ rows : List (List Int), PyData.canLayAll0 (rows.map fun r => .list (r.map PyData.int)) = true
  | [] => by simp [PyData.canLayAll0]
  | r :: rs => by
    rw [List.map_cons, PyData.canLayAll0, lay_rows rs, PyData.canLay0, lay_ints r]
    rfl
theorem deep_ints : ∀ ns : List Int, PyData.depthAll (ns.map PyData.int) = 0
  | [] => by simp [PyData.depthAll]
  | n :: ns => by
    rw [List.map_cons, PyData.depthAll, deep_ints ns]
    simp [PyData.depth]
theorem deep_bls : ∀ ns : List Bool, PyData.depthAll (ns.map PyData.bool) = 0
  | [] => by simp [PyData.depthAll]
  | n :: ns => by
    rw [List.map_cons, PyData.depthAll, deep_bls ns]
    simp [PyData.depth]
theorem deep_rows : ∀ rows : List (List Int), PyData.depthAll (rows.map fun r => .list (r.map PyData.int)) ≤ 1
  | [] => by simp [PyData.depthAll]
  | r :: rs => by
    rw [List.map_cons, PyData.depthAll, PyData.depth, deep_ints r]
    exact Nat.max_le.mpr ⟨Nat.le_refl _, deep_rows rs⟩
theorem sh_ints (ns : List Int) : SeqAt.shaped (.list (ns.map PyData.int)) = true := by
  unfold SeqAt.shaped
  rw [PyData.canLay0, lay_ints, PyData.depth, deep_ints]
  rfl
theorem sh_bls (ns : List Bool) : SeqAt.shaped (.list (ns.map PyData.bool)) = true := by
  unfold SeqAt.shaped
  rw [PyData.canLay0, lay_bls, PyData.depth, deep_bls]
  rfl
theorem sh_rows (rows : List (List Int)) : SeqAt.shaped (.list (rows.map fun r => .list (r.map PyData.int))) = true := by
  unfold SeqAt.shaped
  rw [PyData.canLay0, lay_rows, PyData.depth]
  have := deep_rows rows
  rw [decide_eq_true (by omega)]
  rfl
theorem eqv_ints : ∀ ns ms : List Int, PyData.eqvAll (ns.map PyData.int) (ms.map PyData.int) = decide (ns = ms)
  | [], [] => by simp [PyData.eqvAll]
  | [], _ :: _ => by simp [PyData.eqvAll]
  | _ :: _, [] => by simp [PyData.eqvAll]
  | n :: ns, m :: ms => by
    rw [List.map_cons, List.map_cons, PyData.eqvAll, eqv_ints ns ms, PyData.eqv]
    by_cases e : n = m <;> simp [e]
theorem eqv_bls : ∀ ns ms : List Bool, PyData.eqvAll (ns.map PyData.bool) (ms.map PyData.bool) = decide (ns = ms)
  | [], [] => by simp [PyData.eqvAll]
  | [], _ :: _ => by simp [PyData.eqvAll]
  | _ :: _, [] => by simp [PyData.eqvAll]
  | n :: ns, m :: ms => by
    rw [List.map_cons, List.map_cons, PyData.eqvAll, eqv_bls ns ms, PyData.eqv]
    by_cases e : n = m <;> simp [e]
theorem eqv_rows : ∀ ns ms : List (List Int), PyData.eqvAll (ns.map fun r => .list (r.map PyData.int)) (ms.map fun r => .list (r.map PyData.int)) = decide (ns = ms)
  | [], [] => by simp [PyData.eqvAll]
  | [], _ :: _ => by simp [PyData.eqvAll]
  | _ :: _, [] => by simp [PyData.eqvAll]
  | n :: ns, m :: ms => by
    rw [List.map_cons, List.map_cons, PyData.eqvAll, eqv_rows ns ms, PyData.eqv, eqv_ints]
    by_cases e : n = m <;> simp [e]
theorem g_neRows {p q : Addr} {r1 r2 : List (List Int)} (R1 : RowsAt H p r1) (R2 : RowsAt H q r2) (h : Q (.bl (!decide (r1 = r2))) H) : rNeD K (.ref p) (.ref q) H Q :=
  ⟨_, _, dp_rows R1, dp_rows R2, sh_rows r1, sh_rows r2, by rw [PyData.eqv, eqv_rows]; exact h⟩
theorem g_eqRows {p q : Addr} {r1 r2 : List (List Int)} (R1 : RowsAt H p r1) (R2 : RowsAt H q r2) (h : Q (.bl (decide (r1 = r2))) H) : rEqD K (.ref p) (.ref q) H Q :=
  ⟨_, _, dp_rows R1, dp_rows R2, sh_rows r1, sh_rows r2, by rw [PyData.eqv, eqv_rows]; exact h⟩
theorem g_neInts {p q : Addr} {r1 r2 : List Int} (R1 : SqL K H p (r1.map V.int)) (R2 : SqL K H q (r2.map V.int)) (h : Q (.bl (!decide (r1 = r2))) H) : rNeD K (.ref p) (.ref q) H Q :=
  ⟨_, _, dp_ints R1, dp_ints R2, sh_ints r1, sh_ints r2, by rw [PyData.eqv, eqv_ints]; exact h⟩
theorem g_eqInts {p q : Addr} {r1 r2 : List Int} (R1 : SqL K H p (r1.map V.int)) (R2 : SqL K H q (r2.map V.int)) (h : Q (.bl (decide (r1 = r2))) H) : rEqD K (.ref p) (.ref q) H Q :=
  ⟨_, _, dp_ints R1, dp_ints R2, sh_ints r1, sh_ints r2, by rw [PyData.eqv, eqv_ints]; exact h⟩
theorem g_eqBls {p q : Addr} {r1 r2 : List Bool} (R1 : SqL K H p (r1.map V.bl)) (R2 : SqL K H q (r2.map V.bl)) (h : Q (.bl (decide (r1 = r2))) H) : rEqD K (.ref p) (.ref q) H Q :=
  ⟨_, _, dp_bls R1, dp_bls R2, sh_bls r1, sh_bls r2, by rw [PyData.eqv, eqv_bls]; exact h⟩
theorem g_neBls {p q : Addr} {r1 r2 : List Bool} (R1 : SqL K H p (r1.map V.bl)) (R2 : SqL K H q (r2.map V.bl)) (h : Q (.bl (!decide (r1 = r2))) H) : rNeD K (.ref p) (.ref q) H Q :=
  ⟨_, _, dp_bls R1, dp_bls R2, sh_bls r1, sh_bls r2, by rw [PyData.eqv, eqv_bls]; exact h⟩
end
/-! ### (word, None) -/
section
variable {K : PySem.W.Frag} {H : Hp} {Q : VK} {σ : L2.St}
theorem g_tup {ta : TA} (h : ta σ H fun xs H1 => xs.length ≤ sizeLine ∧ ∀ p, H1 p = none → Q (.ref p) (upd H1 p (.tup xs))) : tTup ta σ H Q := h
theorem g_neWord {p q : Addr} {w : Str} (hw : PyData.strOk w = true) (e1 : H p = some (.tup [.str w, .non])) (e2 : H q = some (.tup [.str w, .non])) (h : Q (.bl false) H) : rNeD K (.ref p) (.ref q) H Q := by
  have d : ∀ p, H p = some (.tup [.str w, .non]) → Dp K H (.ref p) (.tuple [.str w, .none]) := fun p e => .tup (.inl (.inl e)) (.cons (.str w) (.cons .non .nil))
  have sh : SeqAt.shaped (.tuple [.str w, .none]) = true := by
    unfold SeqAt.shaped
    simp only [PyData.canLay0, PyData.canLayAll0, PyData.depth, PyData.depthAll]
    rw [hw]
    rfl
  refine ⟨_, _, d p e1, d q e2, sh, sh, ?_⟩
  have e : PyData.eqv (.tuple [.str w, .none]) (.tuple [.str w, .none]) = true := by
    simp [PyData.eqv, PyData.eqvAll]
  rw [e]
  exact h
end
theorem g_ixT {K : PySem.W.Frag} {H : Hp} {Q : VK} {p : Addr} {xs : List V} {i : Int} {v : V} (s : H p = some (.tup xs)) (h0 : 0 ≤ i) (e : xs[i.toNat]? = some v) (h : Q v H) : rIxT K (.ref p) (.int i) H Q :=
  ⟨p, xs, i, v, rfl, rfl, .inl (.inl s), at_of (j := i.toNat) (by omega) e, h⟩

@[irreducible] def sp_drawn (K : PySem.W.Frag) (_ : Ads) : Sp := fun vs H Q _ => ∃ (a : Addr) (ns : List Int) (k many : Int), vs = [.ref a, .int k, .int many] ∧ SqL K H a (ns.map V.int) ∧ 0 ≤ k ∧ k < 2147483648 ∧ 0 < many ∧
  ∀ d, 0 ≤ d → d < many → Q (.int d) H
theorem len_drawn {K : PySem.W.Frag} {G : Ads} {vs H Q E} (h : sp_drawn K G vs H Q E) : vs.length = 3 := by
  unfold sp_drawn at h
  obtain ⟨a, ns, k, many, rfl, _⟩ := h
  rfl
theorem c_drawn {K : PySem.W.Frag} {G : Ads} {H : Hp} {Q : VK} {E : XK} {a : Addr} {ns : List Int} {k many : Int} (s : SqL K H a (ns.map V.int)) (h0 : 0 ≤ k) (h1 : k < 2147483648) (h2 : 0 < many) (q : ∀ d, 0 ≤ d → d < many → Q (.int d) H) :
    sp_drawn K G [.ref a, .int k, .int many] H Q E := by
  unfold sp_drawn
  exact ⟨a, ns, k, many, rfl, s, h0, h1, h2, q⟩
def t_drawn_c2 (K : PySem.W.Frag) (G : Ads) (E : XK) : TS :=
  (tSeq (tAsg (tOp mAdd (tOp mAdd (tOp mMul (tVar 3) (tOp mAdd (tC (.int 48271)) (tOp mMul (tC (.int 9973)) (tOp mMod (tVar 1) (tC (.int 97)))))) (tOp mMul (tOp mMul (tOp mAdd (tVar 1) (tC (.int 1))) (tOp mAdd (tVar 1) (tC (.int 3)))) (tC (.int 16807)))) (tCB (mLen K) (tCons (tVar 0) tNil))) (gName 4))
    (tRet (tOp mMod (tOp mFdiv (tOp mMod (tVar 4) (tC (.int 2147483647))) (tC (.int 16))) (tVar 2))))
def t_drawn (K : PySem.W.Frag) (G : Ads) (E : XK) : TS :=
  (tSeq (tAsg (tC (.int 7)) (gName 3))
    (tSeq (tIfS (tTest (tOp mGt (tCB (mLen K) (tCons (tVar 0) tNil)) (tC (.int 0))))
    (tAsg (tOp (rIxL K) (tVar 0) (tOp mMod (tVar 1) (tCB (mLen K) (tCons (tVar 0) tNil)))) (gName 3))
    tNext)
    (t_drawn_c2 K G E)))
abbrev N_drawn : List Str := ["script", "k", "many", "cell", "mixed"]

theorem pure_drawn {K : PySem.W.Frag} {G : Ads} {vs H Q E} (h : sp_drawn K G vs H Q E) : t_drawn K G E { nx := fun _ H' => Q .non H', rt := Q } (start N_drawn vs) H := by
  unfold sp_drawn at h
  obtain ⟨a, ns, k, many, rfl, hS, hk, hk2, hm, q⟩ := h
  show t_drawn K G E _ [some (.ref a), some (.int k), some (.int many), none, none] H
  unfold t_drawn
  walk_at "g"
  have fin : ∀ c : Int, t_drawn_c2 K G E { nx := fun _ H' => Q .non H', rt := Q } [some (.ref a), some (.int k), some (.int many), some (.int c), none] H := fun c => by
    unfold t_drawn_c2
    walk_at "g"
    exact q _ (Int.emod_nonneg _ (by omega)) (Int.emod_lt_of_pos _ hm)
  refine ifP (fun h => ?_) (fun h => ?_)
  · walk_at "g"
    exact fin _
  · walk_at "g"
    exact fin _

@[irreducible] def sp_lower (K : PySem.W.Frag) (_ : Ads) : Sp := fun vs H Q _ => ∃ (a : Addr) (ns : List Int) (j k : Int), vs = [.ref a, .int j, .int k] ∧ SqL K H a (ns.map V.int) ∧ 0 ≤ j ∧ j < 100 ∧ 0 ≤ k ∧ k < 100 ∧
  ∀ d : Int, (j = k → d = 1) → (j < k → d = 0) → d.natAbs ≤ 2 → Q (.int d) H
theorem len_lower {K : PySem.W.Frag} {G : Ads} {vs H Q E} (h : sp_lower K G vs H Q E) : vs.length = 3 := by
  unfold sp_lower at h
  obtain ⟨_, _, _, _, rfl, _⟩ := h
  rfl
theorem c_lower {K : PySem.W.Frag} {G : Ads} {H : Hp} {Q : VK} {E : XK} {a : Addr} {ns : List Int} {j k : Int} (s : SqL K H a (ns.map V.int)) (h0 : 0 ≤ j) (h1 : j < 100) (h2 : 0 ≤ k) (h3 : k < 100)
    (q : ∀ d : Int, (j = k → d = 1) → (j < k → d = 0) → d.natAbs ≤ 2 → Q (.int d) H) : sp_lower K G [.ref a, .int j, .int k] H Q E := by
  unfold sp_lower
  exact ⟨a, ns, j, k, rfl, s, h0, h1, h2, h3, q⟩
def t_lower (K : PySem.W.Frag) (G : Ads) (E : XK) : TS :=
  (tSeq (tIfS (tTest (tOp rEq (tVar 1) (tVar 2)))
    (tRet (tC (.int 1)))
    tNext)
    (tSeq (tIfS (tTest (tOp mLt (tVar 1) (tVar 2)))
    (tRet (tC (.int 0)))
    tNext)
    (tRet (tOp mSub (tCall (sp_drawn K G) [] E0 (tCons (tVar 0) (tCons (tOp mAdd (tOp mAdd (tC (.int 20)) (tOp mMul (tC (.int 12)) (tVar 1))) (tVar 2)) (tCons (tC (.int 5)) tNil)))) (tC (.int 2))))))
abbrev N_lower : List Str := ["script", "j", "k"]

theorem pure_lower {K : PySem.W.Frag} {G : Ads} {vs H Q E} (h : sp_lower K G vs H Q E) : t_lower K G E { nx := fun _ H' => Q .non H', rt := Q } (start N_lower vs) H := by
  unfold sp_lower at h
  obtain ⟨a, ns, j, k, rfl, hS, h0, h1, h2, h3, q⟩ := h
  show t_lower K G E _ [some (.ref a), some (.int j), some (.int k)] H
  unfold t_lower
  walk_at "g"
  refine ifP (fun e => ?_) (fun e => ?_)
  · walk_at "g"
    exact q 1 (fun _ => rfl) (fun _ => by omega) (by decide)
  walk_at "g"
  refine ifP (fun e2 => ?_) (fun e2 => ?_)
  · walk_at "g"
    exact q 0 (fun _ => by omega) (fun _ => rfl) (by decide)
  walk_at "g"
  refine c_drawn hS (by omega) (by omega) (by decide) fun d d0 d1 => ?_
  walk_at "g"
  exact q _ (fun z => absurd z e) (fun z => absurd z e2) (by omega)

@[irreducible] def sp_great (K : PySem.W.Frag) (_ : Ads) : Sp := fun vs H Q _ => ∃ (a : Addr) (ns : List Int) (k : Int), vs = [.ref a, .int k] ∧ SqL K H a (ns.map V.int) ∧ 0 ≤ k ∧ k < 1000 ∧ ∀ d : Int, d.natAbs ≤ 2 ^ 90 → Q (.int d) H
theorem len_great {K : PySem.W.Frag} {G : Ads} {vs H Q E} (h : sp_great K G vs H Q E) : vs.length = 2 := by
  unfold sp_great at h
  obtain ⟨a, ns, k, rfl, _⟩ := h
  rfl
theorem c_great {K : PySem.W.Frag} {G : Ads} {H : Hp} {Q : VK} {E : XK} {a : Addr} {ns : List Int} {k : Int} (s : SqL K H a (ns.map V.int)) (h0 : 0 ≤ k) (h1 : k < 1000) (q : ∀ d : Int, d.natAbs ≤ 2 ^ 90 → Q (.int d) H) : sp_great K G [.ref a, .int k] H Q E := by
  unfold sp_great
  exact ⟨a, ns, k, rfl, s, h0, h1, q⟩
def t_great (K : PySem.W.Frag) (G : Ads) (E : XK) : TS :=
  (tSeq (tAsg (tC (.int 7)) (gName 2))
    (tSeq (tIfS (tTest (tOp mGt (tCB (mLen K) (tCons (tVar 0) tNil)) (tC (.int 0))))
    (tAsg (tOp (rIxL K) (tVar 0) (tOp mMod (tVar 1) (tCB (mLen K) (tCons (tVar 0) tNil)))) (gName 2))
    tNext)
    (tRet (tOp mMul (tOp mMod (tOp mAdd (tOp mMul (tVar 2) (tOp mAdd (tVar 1) (tC (.int 3)))) (tVar 1)) (tOp mPow (tC (.int 10)) (tC (.int 27)))) (tOp mSub (tC (.int 1)) (tOp mMul (tC (.int 2)) (tCall (sp_drawn K G) [] E0 (tCons (tVar 0) (tCons (tOp mAdd (tC (.int 420)) (tVar 1)) (tCons (tC (.int 2)) tNil))))))))))
abbrev N_great : List Str := ["script", "k", "cell"]

theorem pure_great {K : PySem.W.Frag} {G : Ads} {vs H Q E} (h : sp_great K G vs H Q E) : t_great K G E { nx := fun _ H' => Q .non H', rt := Q } (start N_great vs) H := by
  unfold sp_great at h
  obtain ⟨a, ns, k, rfl, hS, h0, h1, q⟩ := h
  show t_great K G E _ [some (.ref a), some (.int k), none] H
  unfold t_great
  walk_at "g"
  have p30 : (10 : Int) ^ (27 : Int).toNat = 1000000000000000000000000000 := by decide
  have fin : ∀ x e : Int, 0 ≤ e → e < 2 → (x % 1000000000000000000000000000 * (1 - 2 * e)).natAbs ≤ 2 ^ 90 := by
    intro x e e0 e1
    have m0 := Int.emod_nonneg x (b := 1000000000000000000000000000) (by decide)
    have m1 := Int.emod_lt_of_pos x (b := 1000000000000000000000000000) (by decide)
    generalize x % 1000000000000000000000000000 = y at m0 m1
    have c2 : (2 : Nat) ^ 90 = 1237940039285380274899124224 := by decide
    rw [c2]
    have : e = 0 ∨ e = 1 := by omega
    rcases this with rfl | rfl <;> omega
  refine ifP (fun hp => ?_) (fun hp => ?_)
  · walk_at "g"
    refine g_I (C := CPow) ⟨by decide, by decide, by decide⟩ ?_
    rw [p30]
    refine g_mod (by decide) ?_
    walk_at "g"
    refine c_drawn hS (by omega) (by omega) (by decide) fun e e0 e1 => ?_
    walk_at "g"
    exact q _ (fin _ e e0 e1)
  · walk_at "g"
    refine g_I (C := CPow) ⟨by decide, by decide, by decide⟩ ?_
    rw [p30]
    refine g_mod (by decide) ?_
    walk_at "g"
    refine c_drawn hS (by omega) (by omega) (by decide) fun e e0 e1 => ?_
    walk_at "g"
    exact q _ (fin _ e e0 e1)

@[irreducible] def sp_upper (K : PySem.W.Frag) (_ : Ads) : Sp := fun vs H Q _ => ∃ (a : Addr) (ns : List Int) (j k : Int), vs = [.ref a, .int j, .int k] ∧ SqL K H a (ns.map V.int) ∧ 0 ≤ j ∧ j < 13 ∧ 0 ≤ k ∧ k < 13 ∧
  ∀ d : Int, (k < j → d = 0) → d.natAbs ≤ 2 ^ 90 → Q (.int d) H
theorem len_upper {K : PySem.W.Frag} {G : Ads} {vs H Q E} (h : sp_upper K G vs H Q E) : vs.length = 3 := by
  unfold sp_upper at h
  obtain ⟨_, _, _, _, rfl, _⟩ := h
  rfl
theorem c_upper {K : PySem.W.Frag} {G : Ads} {H : Hp} {Q : VK} {E : XK} {a : Addr} {ns : List Int} {j k : Int} (s : SqL K H a (ns.map V.int)) (h0 : 0 ≤ j) (h1 : j < 13) (h2 : 0 ≤ k) (h3 : k < 13)
    (q : ∀ d : Int, (k < j → d = 0) → d.natAbs ≤ 2 ^ 90 → Q (.int d) H) : sp_upper K G [.ref a, .int j, .int k] H Q E := by
  unfold sp_upper
  exact ⟨a, ns, j, k, rfl, s, h0, h1, h2, h3, q⟩
def t_upper (K : PySem.W.Frag) (G : Ads) (E : XK) : TS :=
  (tSeq (tIfS (tAnd (tTest (tOp mLe (tVar 1) (tVar 2))) (tTest (tOp rEq (tCall (sp_drawn K G) [] E0 (tCons (tVar 0) (tCons (tC (.int 3)) (tCons (tC (.int 3)) tNil)))) (tC (.int 1)))))
    (tRet (tCall (sp_great K G) [] E0 (tCons (tVar 0) (tCons (tOp mAdd (tOp mMul (tC (.int 12)) (tVar 1)) (tVar 2)) tNil))))
    tNext)
    (tSeq (tIfS (tTest (tOp rEq (tVar 1) (tVar 2)))
    (tRet (tOp mSub (tCall (sp_drawn K G) [] E0 (tCons (tVar 0) (tCons (tOp mAdd (tC (.int 200)) (tVar 1)) (tCons (tC (.int 8)) tNil)))) (tC (.int 2))))
    tNext)
    (tSeq (tIfS (tTest (tOp mGt (tVar 1) (tVar 2)))
    (tRet (tC (.int 0)))
    tNext)
    (tRet (tOp mSub (tCall (sp_drawn K G) [] E0 (tCons (tVar 0) (tCons (tOp mAdd (tOp mAdd (tC (.int 220)) (tOp mMul (tC (.int 12)) (tVar 1))) (tVar 2)) (tCons (tC (.int 5)) tNil)))) (tC (.int 2)))))))
abbrev N_upper : List Str := ["script", "j", "k"]

theorem pure_upper {K : PySem.W.Frag} {G : Ads} {vs H Q E} (h : sp_upper K G vs H Q E) : t_upper K G E { nx := fun _ H' => Q .non H', rt := Q } (start N_upper vs) H := by
  unfold sp_upper at h
  obtain ⟨a, ns, j, k, rfl, hS, h0, h1, h2, h3, q⟩ := h
  show t_upper K G E _ [some (.ref a), some (.int j), some (.int k)] H
  unfold t_upper
  have small : ∀ d : Int, d.natAbs ≤ 100 → d.natAbs ≤ 2 ^ 90 := fun d hd => Nat.le_trans hd (by decide)
  -- behind the first test
  have rest : tSeq (tIfS (tTest (tOp rEq (tVar 1) (tVar 2))) (tRet (tOp mSub (tCall (sp_drawn K G) [] E0 (tCons (tVar 0) (tCons (tOp mAdd (tC (.int 200)) (tVar 1)) (tCons (tC (.int 8)) tNil)))) (tC (.int 2)))) tNext)
      (tSeq (tIfS (tTest (tOp mGt (tVar 1) (tVar 2))) (tRet (tC (.int 0))) tNext) (tRet (tOp mSub (tCall (sp_drawn K G) [] E0 (tCons (tVar 0) (tCons (tOp mAdd (tOp mAdd (tC (.int 220)) (tOp mMul (tC (.int 12)) (tVar 1))) (tVar 2)) (tCons (tC (.int 5)) tNil)))) (tC (.int 2)))))
      { nx := fun _ H' => Q .non H', rt := Q } [some (.ref a), some (.int j), some (.int k)] H := by
    walk_at "g"
    refine ifP (fun e => ?_) (fun e => ?_)
    · walk_at "g"
      refine c_drawn hS (by omega) (by omega) (by decide) fun d d0 d1 => ?_
      walk_at "g"
      exact q _ (fun z => by omega) (small _ (by omega))
    walk_at "g"
    refine ifP (fun e2 => ?_) (fun e2 => ?_)
    · walk_at "g"
      exact q 0 (fun _ => rfl) (small _ (by decide))
    walk_at "g"
    refine c_drawn hS (by omega) (by omega) (by decide) fun d d0 d1 => ?_
    walk_at "g"
    exact q _ (fun z => by omega) (small _ (by omega))
  walk_at "g"
  refine ifP (fun e => ?_) (fun e => ?_)
  · walk_at "g"
    refine c_drawn hS (by decide) (by decide) (by decide) fun d d0 d1 => ?_
    walk_at "g"
    refine ifP (fun e2 => ?_) (fun e2 => ?_)
    · walk_at "g"
      refine c_great hS (by omega) (by omega) fun x hx => ?_
      exact q x (fun z => by omega) hx
    · refine g_next ?_
      exact rest
  · walk_at "gif"
    refine g_next ?_
    exact rest

@[irreducible] def sp_pick (_ : PySem.W.Frag) (_ : Ads) : Sp := fun vs H Q _ => ∃ (p : Addr) (rows : List (List Int)) (k : Nat), vs = [.ref p, .int k] ∧ RowsAt H p rows ∧ rows.length ≤ 1000 ∧ k ≤ rows.length ∧ (∀ a, a < rows.length → k < (rows.getD a []).length) ∧
  ((∀ j, k ≤ j → j < rows.length → matOf rows j k = 0) → Q .non H) ∧ (∀ j : Nat, k ≤ j → j < rows.length → matOf rows j k ≠ 0 → Q (.int j) H)
theorem len_pick {K : PySem.W.Frag} {G : Ads} {vs H Q E} (h : sp_pick K G vs H Q E) : vs.length = 2 := by
  unfold sp_pick at h
  obtain ⟨_, _, _, rfl, _⟩ := h
  rfl
theorem c_pick {K : PySem.W.Frag} {G : Ads} {H : Hp} {Q : VK} {E : XK} {p : Addr} {rows : List (List Int)} {k : Nat} (R : RowsAt H p rows) (hn : rows.length ≤ 1000) (hk : k ≤ rows.length) (hl : ∀ a, a < rows.length → k < (rows.getD a []).length)
    (q1 : (∀ j, k ≤ j → j < rows.length → matOf rows j k = 0) → Q .non H) (q2 : ∀ j : Nat, k ≤ j → j < rows.length → matOf rows j k ≠ 0 → Q (.int j) H) : sp_pick K G [.ref p, .int k] H Q E := by
  unfold sp_pick
  exact ⟨p, rows, k, rfl, R, hn, hk, hl, q1, q2⟩
def t_pick (K : PySem.W.Frag) (G : Ads) (E : XK) : TS :=
  (tSeq (tFor (iRng2 (tCons (tVar 1) (tCons (tCB (mLen K) (tCons (tVar 0) tNil)) tNil))) (gName 2)
    (tIfS (tTest (tOp rNe (tOp (rIxL K) (tOp (rIxL K) (tVar 0) (tVar 2)) (tVar 1)) (tC (.int 0))))
    (tRet (tVar 2))
    tNext))
    (tRet (tC .non)))
abbrev N_pick : List Str := ["rows", "k", "j"]

theorem pure_pick {K : PySem.W.Frag} {G : Ads} {vs H Q E} (h : sp_pick K G vs H Q E) : t_pick K G E { nx := fun _ H' => Q .non H', rt := Q } (start N_pick vs) H := by
  unfold sp_pick at h
  obtain ⟨p, rows, k, rfl, R, hn, hk, hl, q1, q2⟩ := h
  show t_pick K G E _ [some (.ref p), some (.int k), none] H
  unfold t_pick
  walk_at "g"
  refine loopR (fun i σ H' => (∃ v, σ = [some (.ref p), some (.int k), v]) ∧ H' = H ∧ ∀ j, k ≤ j → j < k + i → matOf rows j k = 0) ⟨⟨_, rfl⟩, rfl, fun j h1 h2 => by omega⟩ ?_ ?_
  · rintro i σ H' hi ⟨⟨v, rfl⟩, rfl, hall⟩
    have hi : k + i < rows.length := by omega
    have e0 : ((k : Int) + (i : Int)).toNat = k + i := by omega
    have hlr := hl (k + i) hi
    show tIfS _ _ _ _ [some (.ref p), some (.int k), some (.int (k + i))] H'
    walk_at "g"
    refine g_row R (by omega) (by omega) fun w hw => ?_
    rw [e0] at hw
    walk_at "g"
    try refine g_ixI hw (by omega) (by omega) ?_
    try walk_at "g"
    rw [show ((k : Int)).toNat = k by omega]
    refine ifN (fun h0 => ?_) (fun h0 => ?_)
    · walk_at "g"
      exact q2 (k + i) (by omega) hi h0
    · walk_at "g"
      refine ⟨⟨_, rfl⟩, rfl, fun j h1 h2 => ?_⟩
      by_cases e : j = k + i
      · subst e
        exact h0
      · exact hall j h1 (by omega)
  · rintro σ H' ⟨⟨v, rfl⟩, rfl, hall⟩
    walk_at "g"
    exact q1 fun j h1 h2 => hall j h1 (by omega)

@[irreducible] def sp_det (_ : PySem.W.Frag) (_ : Ads) : Sp := fun vs H Q _ => ∃ (p : Addr) (rows : List (List Int)), vs = [.ref p] ∧ RowsAt H p rows ∧ rows.length ≤ 12 ∧ (∀ a, a < rows.length → (rows.getD a []).length = rows.length) ∧
  (∀ a b, a < rows.length → b < rows.length → (matOf rows a b).natAbs ≤ 2 ^ 100) ∧ ∀ H', Same H H' → Q (.int (det rows.length (matOf rows))) H'
theorem len_det {K : PySem.W.Frag} {G : Ads} {vs H Q E} (h : sp_det K G vs H Q E) : vs.length = 1 := by
  unfold sp_det at h
  obtain ⟨_, _, rfl, _⟩ := h
  rfl
theorem c_det {K : PySem.W.Frag} {G : Ads} {H : Hp} {Q : VK} {E : XK} {p : Addr} {rows : List (List Int)} (R : RowsAt H p rows) (hn : rows.length ≤ 12) (hl : ∀ a, a < rows.length → (rows.getD a []).length = rows.length) (hb : ∀ a b, a < rows.length → b < rows.length → (matOf rows a b).natAbs ≤ 2 ^ 100)
    (q : ∀ H', Same H H' → Q (.int (det rows.length (matOf rows))) H') : sp_det K G [.ref p] H Q E := by
  unfold sp_det
  exact ⟨p, rows, rfl, R, hn, hl, hb, q⟩
/-- an item of an item of a list of rows in the ledger -/
theorem g_rowIx {K : PySem.W.Frag} {B H : Hp} {Q : VK} {D : Addr} {as : List Addr} {rows : List (List Int)} {i : Nat} (led : Led B (rowLed D as rows) H) (e : as.length = rows.length) (h1 : i < rows.length)
    (q : ∀ r, (rowLed D as rows)[i + 1]? = some (r, ilst (rows.getD i [])) → as[i]? = some r → Q (.ref r) H) : rIxL K (.ref D) (.int i) H Q := by
  have ha : i < as.length := by omega
  refine ⟨D, _, (i : Int), .ref as[i], rfl, rfl, SqL.of (led.get 0 rfl), at_of (j := i) (by omega) ?_, q _ ?_ (List.getElem?_eq_getElem ha)⟩
  · rw [List.getElem?_map, List.getElem?_eq_getElem ha]
    rfl
  · rw [List.getD_eq_getElem?_getD, List.getElem?_eq_getElem h1]
    exact zip_at (List.getElem?_eq_getElem ha) (List.getElem?_eq_getElem h1)
def t_det_c3_3 (K : PySem.W.Frag) (G : Ads) (E : XK) : TS :=
  (tSeq (tFor (iRng2 (tCons (tOp mAdd (tVar 4) (tC (.int 1))) (tCons (tCB (mLen K) (tCons (tVar 1) tNil)) tNil))) (gName 7)
    (tFor (iRng2 (tCons (tOp mAdd (tVar 4) (tC (.int 1))) (tCons (tCB (mLen K) (tCons (tVar 1) tNil)) tNil))) (gName 8)
    (tAsg (tOp mFdivX (tOp mSub (tOp mMulW (tOp (rIxL K) (tOp (rIxL K) (tVar 1) (tVar 7)) (tVar 8)) (tOp (rIxL K) (tOp (rIxL K) (tVar 1) (tVar 4)) (tVar 4))) (tOp mMulW (tOp (rIxL K) (tOp (rIxL K) (tVar 1) (tVar 7)) (tVar 4)) (tOp (rIxL K) (tOp (rIxL K) (tVar 1) (tVar 4)) (tVar 8)))) (tVar 3)) (gSub (tOp (rIxL K) (tVar 1) (tVar 7)) (tVar 8) rSetL))))
    (tAsg (tOp (rIxL K) (tOp (rIxL K) (tVar 1) (tVar 4)) (tVar 4)) (gName 3)))
def t_det (K : PySem.W.Frag) (G : Ads) (E : XK) : TS :=
  (tSeq (tAsg (tLc (iList K (tVar 0)) (gName 9) tYes (tCB (mList K) (tCons (tVar 9) tNil)) [9]) (gName 1))
    (tSeq (tAsg (tC (.int 1)) (gName 2))
    (tSeq (tAsg (tC (.int 1)) (gName 3))
    (tSeq (tFor (iRng1 (tCons (tCB (mLen K) (tCons (tVar 1) tNil)) tNil)) (gName 4)
    (tSeq (tAsg (tCall (sp_pick K G) [] E0 (tCons (tVar 1) (tCons (tVar 4) tNil))) (gName 5))
    (tSeq (tIfS (tTest (tOp rIsN (tVar 5) (tC .non)))
    (tRet (tC (.int 0)))
    tNext)
    (tSeq (tIfS (tTest (tOp rNe (tVar 5) (tVar 4)))
    (tSeq (tAsg (tOp (rIxL K) (tVar 1) (tVar 4)) (gName 6))
    (tSeq (tAsg (tOp (rIxL K) (tVar 1) (tVar 5)) (gSub (tVar 1) (tVar 4) rSetL))
    (tSeq (tAsg (tVar 6) (gSub (tVar 1) (tVar 5) rSetL))
    (tAsg (tUn mNeg (tVar 2)) (gName 2)))))
    tNext)
    (t_det_c3_3 K G E)))))
    (tRet (tOp mMulW (tVar 2) (tVar 3)))))))
abbrev N_det : List Str := ["square", "rows", "sign", "ahead", "k", "j", "kept", "i", "m", "row"]

theorem pure_det {K : PySem.W.Frag} {G : Ads} {vs H Q E} (h : sp_det K G vs H Q E) : t_det K G E { nx := fun _ H' => Q .non H', rt := Q } (start N_det vs) H := by
  unfold sp_det at h
  obtain ⟨p, rows, rfl, R, hn, hl, hb, q⟩ := h
  show t_det K G E _ [some (.ref p), none, none, none, none, none, none, none, none, none] H
  unfold t_det
  generalize hM : matOf rows = M0 at hb q
  generalize hN : rows.length = n at hn hl hb q
  walk_at "g"
  refine lcCopyL R (by omega) (fun _ => rfl) (fun _ => rfl) fun D as0 H0 e0 led0 => ?_
  have z0 : Bst n 0 rows M0 M0 1 1 := by
    rw [← hM]
    exact Bst.start hN hl (by rw [hM]; exact hb)
  walk_at "g"
  try refine g_lenR (led0.rowAt e0) ?_
  try walk_at "g"
  rw [show ((List.map V.ref as0).length : Int) = (n : Int) by rw [List.length_map, e0, hN]]
  refine g_rng1 (by omega) (by omega) ?_
  rw [show ((n : Int)).toNat = n by omega]
  refine loopR (fun k σ H' => ∃ (as : List Addr) (rs : List (List Int)) (A : Mat) (sg ah : Int) (v4 v5 v6 v7 v8 : Option V), σ = [some (.ref p), some (.ref D), some (.int sg), some (.int ah), v4, v5, v6, v7, v8, none] ∧ as.length = rs.length ∧ Bst n k rs A M0 sg ah ∧ Led H (rowLed D as rs) H')
    ⟨as0, rows, M0, 1, 1, _, _, _, _, _, rfl, e0, z0, led0⟩ ?_ ?_
  · rintro k σ H1 hk ⟨as, rs, A, sg, ah, v4, v5, v6, v7, v8, rfl, el, st, led⟩
    show tSeq _ _ _ [some (.ref p), some (.ref D), some (.int sg), some (.int ah), some (.int (0 + k)), v5, v6, v7, v8, none] H1
    rw [Int.zero_add]
    have rl := st.len
    walk_at "g"
    refine c_pick (led.rowAt el) (by omega) (by omega) (fun a ha => by rw [st.lens a (by omega)]; exact hk) (fun hz => ?_) (fun j kj hj hne => ?_)
    · walk_at "g"
      have := st.none hk fun j h1 h2 => hz j h1 (by omega)
      have q1 := q H1 led.same
      rw [this] at q1
      exact q1
    walk_at "g"
    -- behind the exchange
    have next : ∀ (H2 : Hp) (as : List Addr) (rs : List (List Int)) (A : Mat) (sg : Int) (v6 : Option V), as.length = rs.length → Bst n k rs A M0 sg ah → matOf rs k k ≠ 0 → Led H (rowLed D as rs) H2 →
        t_det_c3_3 K G E { nx := fun σ H' => ∃ (as : List Addr) (rs : List (List Int)) (A : Mat) (sg ah : Int) (v4 v5 v6 v7 v8 : Option V), σ = [some (.ref p), some (.ref D), some (.int sg), some (.int ah), v4, v5, v6, v7, v8, none] ∧ as.length = rs.length ∧ Bst n (k + 1) rs A M0 sg ah ∧ Led H (rowLed D as rs) H', rt := Q }
          [some (.ref p), some (.ref D), some (.int sg), some (.int ah), some (.int k), some (.int j), v6, v7, v8, none] H2 := by
      intro H2 as rs A sg v6 el st h0 led
      have rl := st.len
      have hh := st.head hk
      unfold t_det_c3_3
      walk_at "g"
      try refine g_lenR (led.rowAt el) ?_
      try walk_at "g"
      rw [show ((List.map V.ref as).length : Int) = (n : Int) by rw [List.length_map, el, rl]]
      refine g_rng2 (by omega) (by omega) (by omega) (by omega) ?_
      refine loopR (fun i σ H3 => ∃ (v7 v8 : Option V) (R : List (List Int)), σ = [some (.ref p), some (.ref D), some (.int sg), some (.int ah), some (.int k), some (.int j), v6, v7, v8, none] ∧ as.length = R.length ∧ Mid n k (k + 1 + i) (k + 1) rs R A ∧ Led H (rowLed D as R) H3)
        ⟨_, _, rs, rfl, el, Mid.start rl st.lens, led⟩ ?_ ?_
      · rintro i σ H3 hi ⟨v7, v8, R, rfl, el3, md, led3⟩
        have hi : k + 1 + i < n := by omega
        have rl3 := md.len
        show tFor _ _ _ _ [some (.ref p), some (.ref D), some (.int sg), some (.int ah), some (.int k), some (.int j), v6, some (.int (k + 1 + i)), v8, none] H3
        rw [show (k : Int) + 1 + i = ((k + 1 + i : Nat) : Int) by omega]
        walk_at "g"
        try refine g_lenR (led3.rowAt el3) ?_
        try walk_at "g"
        rw [show ((List.map V.ref as).length : Int) = (n : Int) by rw [List.length_map, el3, rl3]]
        refine g_rng2 (by omega) (by omega) (by omega) (by omega) ?_
        refine loopR (fun m σ H3 => ∃ (v8 : Option V) (R : List (List Int)), σ = [some (.ref p), some (.ref D), some (.int sg), some (.int ah), some (.int k), some (.int j), v6, some (.int (k + 1 + i : Nat)), v8, none] ∧ as.length = R.length ∧ Mid n k (k + 1 + i) (k + 1 + m) rs R A ∧ Led H (rowLed D as R) H3)
          ⟨_, R, rfl, el3, md, led3⟩ ?_ ?_
        · rintro m σ H4 hm ⟨v8, R, rfl, el4, md, led4⟩
          have hm : k + 1 + m < n := by omega
          have rl4 := md.len
          show tAsg _ _ _ [some (.ref p), some (.ref D), some (.int sg), some (.int ah), some (.int k), some (.int j), v6, some (.int (k + 1 + i : Nat)), some (.int (k + 1 + m)), none] H4
          rw [show (k : Int) + 1 + m = ((k + 1 + m : Nat) : Int) by omega]
          generalize hI : k + 1 + i = I at *
          generalize hJ : k + 1 + m = J at *
          have same : ∀ a b, a < n → b < n → ¬ (k < a ∧ k < b ∧ (a < I ∨ (a = I ∧ b < J))) → matOf R a b = matOf rs a b := fun a b ha hb c => by rw [md.ent a b ha hb, if_neg c]
          have xIJ := same I J (by omega) (by omega) (by omega)
          have xkk := same k k (by omega) (by omega) (by omega)
          have xIk := same I k (by omega) (by omega) (by omega)
          have xkJ := same k J (by omega) (by omega) (by omega)
          have b1 : (matOf R I J).natAbs < 2 ^ 1230 := by rw [xIJ, st.ent I J (by omega) (by omega) (by omega) (by omega)]; exact sub_lt hn st.bnd (by omega) (by omega)
          have b2 : (matOf R k k).natAbs < 2 ^ 1230 := by rw [xkk, st.ent k k (by omega) (by omega) (by omega) (by omega)]; exact sub_lt hn st.bnd (by omega) (by omega)
          have b3 : (matOf R I k).natAbs < 2 ^ 1230 := by rw [xIk, st.ent I k (by omega) (by omega) (by omega) (by omega)]; exact sub_lt hn st.bnd (by omega) (by omega)
          have b4 : (matOf R k J).natAbs < 2 ^ 1230 := by rw [xkJ, st.ent k J (by omega) (by omega) (by omega) (by omega)]; exact sub_lt hn st.bnd (by omega) (by omega)
          have b5 : ah.natAbs < 2 ^ 1230 := by rw [st.ah]; exact lead_lt hn st.bnd (by omega)
          have res : (matOf R I J * matOf R k k - matOf R I k * matOf R k J).fdiv ah = sub A (k + 1) (I - k - 1) (J - k - 1) := by
            rw [xIJ, xkk, xIk, xkJ]
            exact st.step (by omega) (by omega) (by omega) (by omega)
          have lI := md.lens I (by omega)
          have lk := md.lens k (by omega)
          have put := md.put (x := sub A (k + 1) (I - k - 1) (J - k - 1)) (by omega) (by omega) (by omega) (by omega) rfl
          walk_at "g"
          refine g_rowIx led4 el4 (by omega) fun r1 p1 _ => ?_
          walk_at "g"
          refine g_ixI (led4.sq _ p1) (by omega) (by omega) ?_
          walk_at "g"
          refine g_rowIx led4 el4 (by omega) fun r2 p2 _ => ?_
          walk_at "g"
          refine g_ixI (led4.sq _ p2) (by omega) (by omega) ?_
          refine g_mulW b1 b2 (by decide) (by decide) (by decide) ?_
          walk_at "g"
          refine g_rowIx led4 el4 (by omega) fun r3 p3 _ => ?_
          walk_at "g"
          refine g_ixI (led4.sq _ p3) (by omega) (by omega) ?_
          walk_at "g"
          refine g_rowIx led4 el4 (by omega) fun r4 p4 _ => ?_
          walk_at "g"
          refine g_ixI (led4.sq _ p4) (by omega) (by omega) ?_
          refine g_mulW b3 b4 (by decide) (by decide) (by decide) ?_
          walk_at "g"
          refine g_fdivX st.ahead0 b5 (by decide) (by decide) ?_
          refine g_sub ?_
          walk_at "g"
          refine g_rowIx led4 el4 (by omega) fun r5 p5 e5 => ?_
          walk_at "g"
          refine g_setL led4 _ p5 (by omega) (by omega) fun H5 led5 => ?_
          rw [rowLed_set e5 el4] at led5
          have res2 := res
          unfold matOf at res2
          rw [show ((J : Int)).toNat = J by omega, show ((k : Int)).toNat = k by omega, res2] at led5
          refine ⟨_, _, rfl, by rw [List.length_set]; exact el4, ?_, led5⟩
          rw [show k + 1 + (m + 1) = J + 1 by omega]
          exact put
        · rintro σ H4 ⟨v8, R, rfl, el4, md, led4⟩
          refine ⟨_, _, R, rfl, el4, ?_, led4⟩
          rw [show k + 1 + ((n : Int) - ((k : Int) + 1)).toNat = n by omega] at md
          exact md.row
      · rintro σ H3 ⟨v7, v8, R, rfl, el3, md, led3⟩
        rw [show k + 1 + ((n : Int) - ((k : Int) + 1)).toNat = n by omega] at md
        have rl3 := md.len
        have lk := md.lens k hk
        have nx := md.done st hk h0
        have xkk : matOf R k k = matOf rs k k := by rw [md.ent k k hk hk, if_neg (by omega)]
        walk_at "g"
        refine g_rowIx led3 el3 (by omega) fun r1 p1 _ => ?_
        walk_at "g"
        refine g_ixI (led3.sq _ p1) (by omega) (by omega) ?_
        walk_at "g"
        refine ⟨as, R, A, sg, _, _, _, _, _, _, rfl, el3, ?_, led3⟩
        show Bst n (k + 1) R A M0 sg (matOf R k k)
        rw [xkk]
        exact nx
    refine ifN (fun hjk => ?_) (fun hjk => ?_)
    · walk_at "g"
      refine g_rowIx led el (by omega) fun r1 p1 e1 => ?_
      walk_at "g"
      refine g_rowIx led el (by omega) fun r2 p2 e2 => ?_
      walk_at "g"
      refine g_setV led 0 rfl (by omega) (by rw [List.length_map]; omega) fun H2 led2 => ?_
      walk_at "g"
      refine g_setV led2 0 rfl (by omega) (by rw [List.length_set, List.length_map]; omega) fun H3 led3 => ?_
      have x1 : as.getD k 0 = r1 := by rw [List.getD_eq_getElem?_getD, e1]; rfl
      have x2 : as.getD j 0 = r2 := by rw [List.getD_eq_getElem?_getD, e2]; rfl
      have eq : ((as.map V.ref).set ((k : Int)).toNat (V.ref r2)).set ((j : Int)).toNat (V.ref r1) = (swapL as k j 0).map V.ref := by
        unfold swapL
        rw [x1, x2, List.map_set, List.map_set, show ((k : Int)).toNat = k by omega, show ((j : Int)).toNat = j by omega]
      have led4 : Led H ((D, HO.lst ((swapL as k j 0).map V.ref)) :: (rowLed D as rs).tail) H3 := by
        rw [← eq]
        exact led3
      have led5 := led_swap led4 el (by omega) (by omega) (show j ≠ k by omega)
      have h0 : matOf (swapL rs k j []) k k ≠ 0 := by
        unfold matOf
        rw [swapL_get (by omega) (by omega), if_neg (by omega), if_pos rfl]
        exact hne
      walk_at "g"
      exact next H3 (swapL as k j 0) (swapL rs k j []) (swapR A k j) (-sg) _ (by rw [swapL_len, swapL_len]; exact el) (st.swap hk kj (by omega) (by omega)) h0 led5
    · walk_at "g"
      have : j = k := by omega
      subst this
      exact next H1 as rs A sg _ el st hne led
  · rintro σ H1 ⟨as, rs, A, sg, ah, v4, v5, v6, v7, v8, rfl, el, st, led⟩
    walk_at "g"
    have hs : sg.natAbs < 2 ^ 1 := by rcases st.sg with z | z <;> rw [z] <;> decide
    have ha : ah.natAbs < 2 ^ 1230 := by rw [st.ah]; exact lead_lt hn st.bnd (Nat.le_refl n)
    refine g_mulW hs ha (by decide) (by decide) (by decide) ?_
    have q1 := q H1 led.same
    rw [st.fin] at q1
    exact q1

def rowsOfP (n : Nat) (C : Nat → Nat → Int → Prop) (rows : List (List Int)) : Prop := ∀ a, a < rows.length → (rows.getD a []).length = n ∧ ∀ b, b < n → C a b ((rows.getD a []).getD b 0)
theorem rowsOfP.push {n : Nat} {C : Nat → Nat → Int → Prop} {rows : List (List Int)} {row : List Int} (h : rowsOfP n C rows) (hl : row.length = n) (hr : ∀ b, b < n → C rows.length b (row.getD b 0)) : rowsOfP n C (rows ++ [row]) := fun a ha => by
  rw [List.length_append] at ha
  have ha : a < rows.length + 1 := ha
  rw [getD_push ha]
  by_cases z : a < rows.length
  · rw [if_pos z]
    exact h a z
  · rw [if_neg z, show a = rows.length by omega]
    exact ⟨hl, hr⟩
def t_law_k16_c9 (K : PySem.W.Frag) (G : Ads) (E : XK) : TS :=
  (tSeq (tAsg (tCall (sp_det K G) [] E0 (tCons (tVar 6) tNil)) (gName 10))
    (tRet (tAndV (tCB (rIsi K) (tCons (tVar 10) (tCons (tC (.ty "int")) tNil))) (tAndV (tNotV (tCB (rIsi K) (tCons (tVar 10) (tCons (tC (.ty "bool")) tNil)))) (tOp rEq (tVar 10) (tVar 5))))))
def t_law_k16_c6 (K : PySem.W.Frag) (G : Ads) (E : XK) : TS :=
  (tSeq (tAsg (tCall (sp_drawn K G) [] E0 (tCons (tVar 0) (tCons (tC (.int 1)) (tCons (tVar 1) tNil)))) (gName 7))
    (tSeq (tAsg (tCall (sp_drawn K G) [] E0 (tCons (tVar 0) (tCons (tC (.int 2)) (tCons (tVar 1) tNil)))) (gName 8))
    (tSeq (tIfS (tTest (tOp rNe (tVar 7) (tVar 8)))
    (tSeq (tAsg (tOp (rIxL K) (tVar 6) (tVar 7)) (gName 9))
    (tSeq (tAsg (tOp (rIxL K) (tVar 6) (tVar 8)) (gSub (tVar 6) (tVar 7) rSetL))
    (tSeq (tAsg (tVar 9) (gSub (tVar 6) (tVar 8) rSetL))
    (tAsg (tUn mNeg (tVar 5)) (gName 5)))))
    tNext)
    (t_law_k16_c9 K G E))))
def t_law_k16 (K : PySem.W.Frag) (G : Ads) (E : XK) : TS :=
  (tSeq (tAsg (tOp mAdd (tC (.int 1)) (tCall (sp_drawn K G) [] E0 (tCons (tVar 0) (tCons (tC (.int 0)) (tCons (tC (.int 12)) tNil))))) (gName 1))
    (tSeq (tAsg (tLc (iRng1 (tCons (tVar 1) tNil)) (gName 2) tYes (tLc (iRng1 (tCons (tVar 1) tNil)) (gName 11) tYes (tCall (sp_lower K G) [] E0 (tCons (tVar 0) (tCons (tVar 2) (tCons (tVar 11) tNil)))) [11]) [2]) (gName 3))
    (tSeq (tAsg (tLc (iRng1 (tCons (tVar 1) tNil)) (gName 2) tYes (tLc (iRng1 (tCons (tVar 1) tNil)) (gName 11) tYes (tCall (sp_upper K G) [] E0 (tCons (tVar 0) (tCons (tVar 2) (tCons (tVar 11) tNil)))) [11]) [2]) (gName 4))
    (tSeq (tAsg (tC (.int 1)) (gName 5))
    (tSeq (tAsg (tLst tNil) (gName 6))
    (tSeq (tFor (iRng1 (tCons (tVar 1) tNil)) (gName 2)
    (tSeq (tAsg (tOp mMulW (tVar 5) (tOp (rIxL K) (tOp (rIxL K) (tVar 4) (tVar 2)) (tVar 2))) (gName 5))
    (tDrop (tBM K "list" rAppend (tVar 6) (tCons (tLc (iRng1 (tCons (tVar 1) tNil)) (gName 11) tYes (tCB (rSum K) (tCons (tLc (iRng1 (tCons (tVar 1) tNil)) (gName 12) tYes (tOp mMulW (tOp (rIxL K) (tOp (rIxL K) (tVar 3) (tVar 2)) (tVar 12)) (tOp (rIxL K) (tOp (rIxL K) (tVar 4) (tVar 12)) (tVar 11))) [12]) tNil)) [11]) tNil)))))
    (t_law_k16_c6 K G E)))))))
abbrev N_law_k16 : List Str := ["script", "size", "j", "low", "high", "due", "square", "one", "other", "kept", "found", "k", "m"]

theorem pure_law_k16 {K : PySem.W.Frag} {G : Ads} {vs H Q E} (h : spLaw K vs H Q E) : t_law_k16 K G E { nx := fun _ H' => Q .non H', rt := Q } (start N_law_k16 vs) H := by
  obtain ⟨a, ns, rfl, hS, _, q⟩ := h
  show t_law_k16 K G E _ [some (.ref a), none, none, none, none, none, none, none, none, none, none, none, none] H
  unfold t_law_k16
  walk_at "g"
  refine c_drawn hS (by decide) (by decide) (by decide) fun size z0 z1 => ?_
  obtain ⟨n, hn⟩ : ∃ n : Nat, 1 + size = n := ⟨(1 + size).toNat, by omega⟩
  have n1 : 1 ≤ n := by omega
  have n12 : n ≤ 12 := by omega
  walk_at "g"
  rw [hn]
  rw [show ((n : Int)).toNat = n by omega]
  refine lcRRows (rowsOfP n fun a b d => (a = b → d = 1) ∧ (a < b → d = 0) ∧ d.natAbs ≤ 2) (fun a h => by simp at h) (by omega) (fun _ => rfl) ?_ ?_
  · intro D j as rows H1 R hj hl hP led q2
    have S1 := led.base hS
    walk_at "g"
    rw [show ((n : Int)).toNat = n by omega]
    refine lcRI (fun ms => ∀ b, b < ms.length → (j = b → ms.getD b 0 = 1) ∧ (j < b → ms.getD b 0 = 0) ∧ (ms.getD b 0).natAbs ≤ 2) (fun b h => by simp at h) (by omega) (fun _ => rfl) ?_ ?_
    · intro D2 k ms H2 R2 hk hl2 hp l2 q3
      walk_at "g"
      refine c_lower (l2.base S1) (by omega) (by omega) (by omega) (by omega) fun d d1 d2 d3 => ?_
      refine q3 d H2 (fun b hb => ?_) l2
      rw [List.length_append] at hb
      rw [getD_push hb]
      by_cases z : b < ms.length
      · rw [if_pos z]
        exact hp b z
      · have hb : b < ms.length + 1 := hb
        rw [if_neg z]
        exact ⟨fun e => d1 (by omega), fun e => d2 (by omega), d3⟩
    · intro D2 ms H2 nD2 hl2 hp s2 e2
      refine q2 D2 ms H2 (hP.push hl2 fun b hb => ?_) (led.add s2 nD2 e2)
      have := hp b (by omega)
      rw [hl]
      exact this
  intro lo low H1 lowL lowP s1 n1'
  have S1 := s1.seq hS
  have Rlo := n1'.at_
  walk_at "g"
  rw [show ((n : Int)).toNat = n by omega]
  refine lcRRows (rowsOfP n fun a b d => (b < a → d = 0) ∧ d.natAbs ≤ 2 ^ 90) (fun a h => by simp at h) (by omega) (fun _ => rfl) ?_ ?_
  · intro D j as rows H2 R hj hl hP led q2
    have S2 := led.base S1
    walk_at "g"
    rw [show ((n : Int)).toNat = n by omega]
    refine lcRI (fun ms => ∀ b, b < ms.length → (b < j → ms.getD b 0 = 0) ∧ (ms.getD b 0).natAbs ≤ 2 ^ 90) (fun b h => by simp at h) (by omega) (fun _ => rfl) ?_ ?_
    · intro D2 k ms H3 R2 hk hl2 hp l2 q3
      walk_at "g"
      refine c_upper (l2.base S2) (by omega) (by omega) (by omega) (by omega) fun d d1 d3 => ?_
      refine q3 d H3 (fun b hb => ?_) l2
      rw [List.length_append] at hb
      rw [getD_push hb]
      by_cases z : b < ms.length
      · rw [if_pos z]
        exact hp b z
      · have hb : b < ms.length + 1 := hb
        rw [if_neg z]
        exact ⟨fun e => d1 (by omega), d3⟩
    · intro D2 ms H3 nD2 hl2 hp s2 e2
      refine q2 D2 ms H3 (hP.push hl2 fun b hb => ?_) (led.add s2 nD2 e2)
      have := hp b (by omega)
      rw [hl]
      exact this
  intro hi high H2 highL highP s2 n2
  have S2 := s2.seq S1
  have Rhi := n2.at_
  have Rlo := Rlo.mono s2
  -- on paper
  have lowE : ∀ a b, a < n → b < n → (a = b → matOf low a b = 1) ∧ (a < b → matOf low a b = 0) ∧ (matOf low a b).natAbs ≤ 2 := fun a b ha hb => (lowP a (by omega)).2 b hb
  have highE : ∀ a b, a < n → b < n → (b < a → matOf high a b = 0) ∧ (matOf high a b).natAbs ≤ 2 ^ 90 := fun a b ha hb => (highP a (by omega)).2 b hb
  have lowR : ∀ a, a < n → (low.getD a []).length = n := fun a ha => (lowP a (by omega)).1
  have highR : ∀ a, a < n → (high.getD a []).length = n := fun a ha => (highP a (by omega)).1
  have c100 : 12 * (2 * 2 ^ 90) ≤ 2 ^ 100 := by decide
  let pr : Nat → Nat → Int := fun a b => sumN n fun m => matOf low a m * matOf high m b
  have prB : ∀ a b, a < n → b < n → (pr a b).natAbs ≤ 2 ^ 100 := fun a b ha hb => by
    refine Nat.le_trans (sumN_abs (B := 2 * 2 ^ 90) n fun m hm => ?_) (Nat.le_trans (Nat.mul_le_mul_right _ n12) c100)
    rw [Int.natAbs_mul]
    exact Nat.mul_le_mul (lowE a m ha hm).2.2 (highE m b hm hb).2
  obtain ⟨dp, hdp0, hdp⟩ : ∃ dp : Nat → Int, dp 0 = 1 ∧ ∀ k, dp (k + 1) = dp k * matOf high k k := ⟨fun k => Nat.rec 1 (fun k x => x * matOf high k k) k, rfl, fun k => rfl⟩
  have dpB : ∀ k, k ≤ n → (dp k).natAbs < 2 ^ (91 * k + 1) := by
    intro k
    induction k with
    | zero =>
      intro _
      rw [hdp0]
      decide
    | succ k ih =>
      intro hk
      rw [hdp]
      have := wide_lt (ih (by omega)) (Nat.lt_of_le_of_lt (highE k k (by omega) (by omega)).2 (by decide : 2 ^ 90 < 2 ^ 91))
      rw [show 91 * (k + 1) + 1 = 91 * k + 1 + 91 by omega]
      exact this
  have dpD : det n pr = dp n := by
    have e1 : det n pr = det n (matOf high) := det_lu n (matOf low) (matOf high) (fun a ha => (lowE a a ha ha).1 rfl) (fun a b hab hb => (lowE a b (by omega) hb).2.1 hab)
    have e2 := det_upper n (matOf high) (fun a b hb ha => (highE a b ha (by omega)).1 hb) dp hdp
    rw [hdp0, Int.one_mul] at e2
    rw [e1, e2]
  walk_at "g"
  refine ⟨by show 0 ≤ sizeLine; decide, fun D nD => ?_⟩
  have led0 : Led H2 (rowLed D [] []) (upd H2 D (.lst [])) := (Led.nil H2).alloc nD _
  walk_at "g"
  rw [show ((n : Int)).toNat = n by omega]
  refine loopR (fun j σ H' => (∃ v2, σ = [some (.ref a), some (.int n), v2, some (.ref lo), some (.ref hi), some (.int (dp j)), some (.ref D), none, none, none, none, none, none]) ∧ ∃ (as : List Addr) (sq : List (List Int)), as.length = sq.length ∧ sq.length = j ∧ (∀ i, i < j → sq.getD i [] = (List.range n).map fun b => pr i b) ∧ Led H2 (rowLed D as sq) H')
    ⟨⟨_, by rw [hdp0]; rfl⟩, [], [], rfl, rfl, fun i hi => by omega, led0⟩ ?_ ?_
  · rintro j σ H3 hj ⟨⟨v2, rfl⟩, as, sq, el, el2, hsq, led⟩
    have R3 := led.ra Rhi
    have R3l := led.ra Rlo
    have jn : ((0 : Int) + (j : Int)).toNat = j := by omega
    have jn2 : ((j : Int)).toNat = j := by omega
    show tSeq _ _ _ [some (.ref a), some (.int n), some (.int (0 + j)), some (.ref lo), some (.ref hi), some (.int (dp j)), some (.ref D), none, none, none, none, none, none] H3
    rw [Int.zero_add]
    walk_at "g"
    refine g_row R3 (by omega) (by omega) fun w hw => ?_
    rw [jn2] at hw
    have lw := highR j hj
    walk_at "g"
    try refine g_ixI hw (by omega) (by omega) ?_
    rw [jn2]
    refine g_mulW (dpB j (by omega)) (Nat.lt_of_le_of_lt (highE j j hj hj).2 (by decide : 2 ^ 90 < 2 ^ 91)) (by omega) (by decide) (by omega) ?_
    walk_at "g"
    try refine g_ty (SqL.of (led.get 0 rfl)) ?_
    try walk_at "g"
    rw [show ((n : Int)).toNat = n by omega]
    refine lcRI (fun ms => ms = (List.range ms.length).map fun b => pr j b) rfl (by omega) (fun _ => rfl) ?_ ?_
    · intro D2 k ms H4 R2 hk hl2 hp l2 q3
      have R4 := l2.ra R3
      have R4l := l2.ra R3l
      walk_at "g"
      rw [show ((n : Int)).toNat = n by omega]
      refine lcRI (fun xs => xs = (List.range xs.length).map fun m => matOf low j m * matOf high m k) rfl (by omega) (fun _ => rfl) ?_ ?_
      · intro D3 m xs H5 R5 hm hl5 hp5 l5 q5
        have kn : ((0 : Int) + (k : Int)).toNat = k := by omega
        have mn : ((0 : Int) + (m : Int)).toNat = m := by omega
        have ll := lowR j hj
        have lh := highR m hm
        walk_at "g"
        refine g_row (l5.ra R4l) (by omega) (by omega) fun w1 hw1 => ?_
        rw [jn2] at hw1
        walk_at "g"
        try refine g_ixI hw1 (by omega) (by omega) ?_
        try walk_at "g"
        refine g_row (l5.ra R4) (by omega) (by omega) fun w2 hw2 => ?_
        rw [mn] at hw2
        walk_at "g"
        try refine g_ixI hw2 (by omega) (by omega) ?_
        rw [mn, kn]
        refine g_mulW (a := 2) (b := 91) (Nat.lt_of_le_of_lt (lowE j m hj hm).2.2 (by decide)) (Nat.lt_of_le_of_lt (highE m k hm hk).2 (by decide)) (by decide) (by decide) (by decide) ?_
        refine q5 _ H5 ?_ l5
        rw [List.length_append]
        show xs ++ [_] = (List.range (xs.length + 1)).map _
        rw [List.range_succ, List.map_append, ← hp5, hl5]
        rfl
      · intro D3 xs H5 nD3 hl5 hp5 s5 e5
        walk_at "g"
        try refine g_sum (SqL.of e5) ?_
        refine q3 _ H5 ?_ (l2.ext s5)
        rw [List.length_append]
        show ms ++ [_] = (List.range (ms.length + 1)).map _
        rw [List.range_succ, List.map_append, ← hp, hl2, hp5, hl5, sum_range]
        rfl
    · intro D2 ms H4 nD2 hl2 hp s4 e4
      rw [hl2] at hp
      have led2 := led.add s4 nD2 e4
      walk_at "g"
      refine g_app led2 0 rfl (by rw [List.length_map]; omega) fun H5 led3 => ?_
      rw [rowLed_push el] at led3
      refine ⟨⟨some (.int j), ?_⟩, as ++ [D2], sq ++ [ms], by simp [el], by simp [el2], fun i hi => ?_, led3⟩
      · rw [hdp]
        rfl
      · rw [getD_push (by omega)]
        by_cases z : i < sq.length
        · rw [if_pos z]
          exact hsq i (by omega)
        · rw [if_neg z, hp, show i = j by omega]
  · rintro σ H3 ⟨⟨v2, rfl⟩, as, sq, el, el2, hsq, led⟩
    have S3 := led.base S2
    have sqE : ∀ a b, a < n → b < n → matOf sq a b = pr a b := fun a b ha hb => by
      unfold matOf
      rw [hsq a ha, range_getD _ hb]
    have sqL : ∀ a, a < n → (sq.getD a []).length = n := fun a ha => by rw [hsq a ha]; simp
    have sqD : det n (matOf sq) = dp n := by rw [det_congr n sqE, dpD]
    have sqB : ∀ a b, a < n → b < n → (matOf sq a b).natAbs ≤ 2 ^ 100 := fun a b ha hb => by rw [sqE a b ha hb]; exact prB a b ha hb
    -- the end
    have fin : ∀ (H4 : Hp) (as2 : List Addr) (sq2 : List (List Int)) (due : Int) (v7 v8 v9 : Option V), as2.length = sq2.length → sq2.length = n → (∀ a, a < n → (sq2.getD a []).length = n) → (∀ a b, a < n → b < n → (matOf sq2 a b).natAbs ≤ 2 ^ 100) → det n (matOf sq2) = due → Led H2 (rowLed D as2 sq2) H4 →
        t_law_k16_c9 K G E
          { nx := fun _ H' => Q .non H', rt := Q } [some (.ref a), some (.int n), v2, some (.ref lo), some (.ref hi), some (.int due), some (.ref D), v7, v8, v9, none, none, none] H4 := by
      intro H4 as2 sq2 due v7 v8 v9 e1 e2 e3 e4 e5 led4
      unfold t_law_k16_c9
      walk_at "g"
      refine c_det (led4.rowAt e1) (by omega) (fun a ha => by rw [e3 a (by omega), e2]) (fun a b ha hb => e4 a b (by omega) (by omega)) fun H5 s5 => ?_
      rw [e2, e5]
      walk_at "g"
      rw [decide_eq_true rfl]
      exact q H5
    unfold t_law_k16_c6
    walk_at "g"
    refine c_drawn S3 (by decide) (by decide) (by omega) fun one o0 o1 => ?_
    walk_at "g"
    refine c_drawn S3 (by decide) (by decide) (by omega) fun oth p0 p1 => ?_
    obtain ⟨k, rfl⟩ : ∃ k : Nat, one = k := ⟨one.toNat, by omega⟩
    obtain ⟨j, rfl⟩ : ∃ j : Nat, oth = j := ⟨oth.toNat, by omega⟩
    walk_at "g"
    refine ifN (fun hjk => ?_) (fun hjk => ?_)
    · have hk : k < n := by omega
      have hj : j < n := by omega
      walk_at "g"
      refine g_rowLed led el (by omega) (by omega) fun r1 hr1 => ?_
      walk_at "g"
      refine g_rowLed led el (by omega) (by omega) fun r2 hr2 => ?_
      have e1 : as[k]? = some r1 := by
        have z : (rowLed D as sq)[k + 1]? = some (r1, ilst (sq.getD k [])) := hr1
        have ha : k < as.length := by omega
        have z2 : (rowLed D as sq)[k + 1]? = some (as[k], ilst (sq.getD k [])) := zip_at (List.getElem?_eq_getElem ha) (by rw [List.getD_eq_getElem?_getD, List.getElem?_eq_getElem (show k < sq.length by omega)]; rfl)
        rw [z] at z2
        rw [List.getElem?_eq_getElem ha]
        exact congrArg some (congrArg Prod.fst (Option.some.inj z2)).symm
      have e2 : as[j]? = some r2 := by
        have z : (rowLed D as sq)[j + 1]? = some (r2, ilst (sq.getD j [])) := hr2
        have ha : j < as.length := by omega
        have z2 : (rowLed D as sq)[j + 1]? = some (as[j], ilst (sq.getD j [])) := zip_at (List.getElem?_eq_getElem ha) (by rw [List.getD_eq_getElem?_getD, List.getElem?_eq_getElem (show j < sq.length by omega)]; rfl)
        rw [z] at z2
        rw [List.getElem?_eq_getElem ha]
        exact congrArg some (congrArg Prod.fst (Option.some.inj z2)).symm
      walk_at "g"
      refine g_setV led 0 rfl (by omega) (by rw [List.length_map]; omega) fun H4 led2 => ?_
      walk_at "g"
      refine g_setV led2 0 rfl (by omega) (by rw [List.length_set, List.length_map]; omega) fun H5 led3 => ?_
      have x1 : as.getD k 0 = r1 := by rw [List.getD_eq_getElem?_getD, e1]; rfl
      have x2 : as.getD j 0 = r2 := by rw [List.getD_eq_getElem?_getD, e2]; rfl
      have eq : ((as.map V.ref).set ((k : Int)).toNat (V.ref r2)).set ((j : Int)).toNat (V.ref r1) = (swapL as k j 0).map V.ref := by
        unfold swapL
        rw [x1, x2, List.map_set, List.map_set, show ((k : Int)).toNat = k by omega, show ((j : Int)).toNat = j by omega]
      have led4 : Led H2 ((D, HO.lst ((swapL as k j 0).map V.ref)) :: (rowLed D as sq).tail) H5 := by
        rw [← eq]
        exact led3
      have led5 := led_swap led4 el (by omega) (by omega) (show j ≠ k by omega)
      have get : ∀ a, (swapL sq k j []).getD a [] = sq.getD (if a = j then k else if a = k then j else a) [] := fun a => by
        rw [swapL_get (by omega) (by omega)]
        by_cases h1 : a = j
        · rw [if_pos h1, if_pos h1]
        · rw [if_neg h1, if_neg h1]
          by_cases h2 : a = k
          · rw [if_pos h2, if_pos h2]
          · rw [if_neg h2, if_neg h2]
      have lt : ∀ a, a < n → (if a = j then k else if a = k then j else a) < n := fun a ha => by split <;> (try split) <;> omega
      have ds := det_swap (n := n) (matOf sq) hk hj (by omega)
      have dd : det n (matOf (swapL sq k j [])) = - dp n := by
        rw [← sqD, ← ds]
        refine det_congr n fun a b ha hb => ?_
        show ((swapL sq k j []).getD a []).getD b 0 = if a = k then matOf sq j b else if a = j then matOf sq k b else matOf sq a b
        rw [get]
        by_cases h1 : a = j
        · subst h1
          rw [if_pos rfl, if_neg (by omega), if_pos rfl]
          rfl
        · rw [if_neg h1]
          by_cases h2 : a = k
          · rw [if_pos h2, if_pos h2]
            rfl
          · rw [if_neg h2, if_neg h2, if_neg h1]
            rfl
      walk_at "g"
      exact fin H5 _ _ _ _ _ _ (by rw [swapL_len, swapL_len]; exact el) (by rw [swapL_len]; exact el2) (fun a ha => by rw [get]; exact sqL _ (lt a ha)) (fun a b ha hb => by
        show (((swapL sq k j []).getD a []).getD b 0).natAbs ≤ _
        rw [get]
        exact sqB _ _ (lt a ha) hb) dd led5
    · walk_at "g"
      exact fin H3 as sq _ _ _ _ el el2 sqL sqB sqD led

/-! ### the text by places -/
def top (i : Nat) : Stmt := PySem.Challenge.pw_marblerun_k16_determinants_made.main.body.getD i (.Pass ⟨0, 0, 0, 0⟩)
abbrev s_drawn : Stmt := (top 4)
theorem sc_drawn : FnScope N_drawn ["script", "k", "many"] (defScope s_drawn) := ⟨rfl, rfl, rfl, by decide +kernel, rfl, by decide +kernel, by decide +kernel⟩
abbrev s_lower : Stmt := (top 5)
theorem sc_lower : FnScope N_lower ["script", "j", "k"] (defScope s_lower) := ⟨rfl, rfl, rfl, by decide +kernel, rfl, by decide +kernel, by decide +kernel⟩
abbrev s_great : Stmt := (top 6)
theorem sc_great : FnScope N_great ["script", "k"] (defScope s_great) := ⟨rfl, rfl, rfl, by decide +kernel, rfl, by decide +kernel, by decide +kernel⟩
abbrev s_upper : Stmt := (top 7)
theorem sc_upper : FnScope N_upper ["script", "j", "k"] (defScope s_upper) := ⟨rfl, rfl, rfl, by decide +kernel, rfl, by decide +kernel, by decide +kernel⟩
abbrev s_pick : Stmt := (top 1)
theorem sc_pick : FnScope N_pick ["rows", "k"] (defScope s_pick) := ⟨rfl, rfl, rfl, by decide +kernel, rfl, by decide +kernel, by decide +kernel⟩
abbrev s_det : Stmt := (top 2)
theorem sc_det : FnScope N_det ["square"] (defScope s_det) := ⟨rfl, rfl, rfl, by decide +kernel, rfl, by decide +kernel, by decide +kernel⟩
abbrev s_law_k16 : Stmt := (top 8)
theorem sc_law_k16 : FnScope N_law_k16 ["script"] (defScope s_law_k16) := ⟨rfl, rfl, rfl, by decide +kernel, rfl, by decide +kernel, by decide +kernel⟩
/-- what the top has written -/
structure Txt (K : PySem.W.Frag) (mg : Str → Option Value) where
  G : Ads
  f_drawn : Addr
  d_drawn : FuncData
  F_drawn : Fun K "_law_drawn" "_law_drawn" s_drawn f_drawn d_drawn
  b_drawn : Binds K d_drawn ["script", "k", "many"] []
  g_drawn : mg "_law_drawn" = some (.ref f_drawn)
  f_lower : Addr
  d_lower : FuncData
  F_lower : Fun K "_law_lower" "_law_lower" s_lower f_lower d_lower
  b_lower : Binds K d_lower ["script", "j", "k"] []
  g_lower : mg "_law_lower" = some (.ref f_lower)
  f_great : Addr
  d_great : FuncData
  F_great : Fun K "_law_great" "_law_great" s_great f_great d_great
  b_great : Binds K d_great ["script", "k"] []
  g_great : mg "_law_great" = some (.ref f_great)
  f_upper : Addr
  d_upper : FuncData
  F_upper : Fun K "_law_upper" "_law_upper" s_upper f_upper d_upper
  b_upper : Binds K d_upper ["script", "j", "k"] []
  g_upper : mg "_law_upper" = some (.ref f_upper)
  f_pick : Addr
  d_pick : FuncData
  F_pick : Fun K "pick" "pick" s_pick f_pick d_pick
  b_pick : Binds K d_pick ["rows", "k"] []
  g_pick : mg "pick" = some (.ref f_pick)
  f_det : Addr
  d_det : FuncData
  F_det : Fun K "det" "det" s_det f_det d_det
  b_det : Binds K d_det ["square"] []
  g_det : mg "det" = some (.ref f_det)
  f_law_k16 : Addr
  d_law_k16 : FuncData
  F_law_k16 : Fun K "law" "law" s_law_k16 f_law_k16 d_law_k16
  b_law_k16 : Binds K d_law_k16 ["script"] []
  n_len : mg "len" = none
  n_range : mg "range" = none
  n_list : mg "list" = none
  n_sum : mg "sum" = none
  n_int : mg "int" = none
  n_isinstance : mg "isinstance" = none
  n_bool : mg "bool" = none
section
variable {P : Program} {w : World} {K : PySem.W.Frag} {mg : Str → Option Value} {base : Heap}
theorem ok_drawn (T : Txt K mg) : FnOk P w K mg base CX0 1 T.f_drawn T.d_drawn ["script", "k", "many"] (sp_drawn K T.G) := by
  refine T.F_drawn.ok sc_drawn (fun vs H Q E h => len_drawn h) (fun cdv A outer s H vs Q E hr h => ⟨t_drawn K T.G E, ?_, pure_drawn  h⟩)
  exact (pss_cons (ps_set (i := 3) sc_drawn.nd rfl (by first | exact Or.inl rfl | exact Or.inr rfl) pe_int)
    (pss_cons (ps_if (pt_cmpR op_gt (pe_callB call_len_seq (by rfl) T.n_len bt_len (pa_cons (pv 0) pa_nil)) pe_int (nomark _))
    (pss_one (ps_set (i := 3) sc_drawn.nd rfl (by first | exact Or.inl rfl | exact Or.inr rfl) (pe_ix ix_list (pv 0) (pe_op op_mod (pv 1) (pe_callB call_len_seq (by rfl) T.n_len bt_len (pa_cons (pv 0) pa_nil))) (fun _ _ => rfl))))
    pss_nil)
    (pss_cons (ps_set (i := 4) sc_drawn.nd rfl (by first | exact Or.inl rfl | exact Or.inr rfl) (pe_op op_add (pe_op op_add (pe_op op_mul (pv 3) (pe_op op_add pe_int (pe_op op_mul pe_int (pe_op op_mod (pv 1) pe_int)))) (pe_op op_mul (pe_op op_mul (pe_op op_add (pv 1) pe_int) (pe_op op_add (pv 1) pe_int)) pe_int)) (pe_callB call_len_seq (by rfl) T.n_len bt_len (pa_cons (pv 0) pa_nil))))
    (pss_one (ps_ret (pe_op op_mod (pe_op op_fdiv (pe_op op_mod (pv 4) pe_int) pe_int) (pv 2)))))))
theorem ok_lower (T : Txt K mg) : FnOk P w K mg base CX0 2 T.f_lower T.d_lower ["script", "j", "k"] (sp_lower K T.G) := by
  refine T.F_lower.ok sc_lower (fun vs H Q E h => len_lower h) (fun cdv A outer s H vs Q E hr h => ⟨t_lower K T.G E, ?_, pure_lower  h⟩)
  exact (pss_cons (ps_if (pt_cmpR op_eq (pv 1) (pv 2) (nomark _))
    (pss_one (ps_ret pe_int))
    pss_nil)
    (pss_cons (ps_if (pt_cmpR op_lt (pv 1) (pv 2) (nomark _))
    (pss_one (ps_ret pe_int))
    pss_nil)
    (pss_one (ps_ret (pe_op op_sub (pe_call (ok_drawn T) (hr.mono (by decide)) (by rfl) T.g_drawn T.F_drawn.kp T.b_drawn .nil pass0 (pa_cons (pv 0) (pa_cons (pe_op op_add (pe_op op_add pe_int (pe_op op_mul pe_int (pv 1))) (pv 2)) (pa_cons pe_int pa_nil)))) pe_int)))))
theorem ok_great (T : Txt K mg) : FnOk P w K mg base CX0 2 T.f_great T.d_great ["script", "k"] (sp_great K T.G) := by
  refine T.F_great.ok sc_great (fun vs H Q E h => len_great h) (fun cdv A outer s H vs Q E hr h => ⟨t_great K T.G E, ?_, pure_great  h⟩)
  exact (pss_cons (ps_set (i := 2) sc_great.nd rfl (by first | exact Or.inl rfl | exact Or.inr rfl) pe_int)
    (pss_cons (ps_if (pt_cmpR op_gt (pe_callB call_len_seq (by rfl) T.n_len bt_len (pa_cons (pv 0) pa_nil)) pe_int (nomark _))
    (pss_one (ps_set (i := 2) sc_great.nd rfl (by first | exact Or.inl rfl | exact Or.inr rfl) (pe_ix ix_list (pv 0) (pe_op op_mod (pv 1) (pe_callB call_len_seq (by rfl) T.n_len bt_len (pa_cons (pv 0) pa_nil))) (fun _ _ => rfl))))
    pss_nil)
    (pss_one (ps_ret (pe_op op_mul (pe_op op_mod (pe_op op_add (pe_op op_mul (pv 2) (pe_op op_add (pv 1) pe_int)) (pv 1)) (pe_op op_pow pe_int pe_int)) (pe_op op_sub pe_int (pe_op op_mul pe_int (pe_call (ok_drawn T) (hr.mono (by decide)) (by rfl) T.g_drawn T.F_drawn.kp T.b_drawn .nil pass0 (pa_cons (pv 0) (pa_cons (pe_op op_add pe_int (pv 1)) (pa_cons pe_int pa_nil)))))))))))
theorem ok_upper (T : Txt K mg) : FnOk P w K mg base CX0 3 T.f_upper T.d_upper ["script", "j", "k"] (sp_upper K T.G) := by
  refine T.F_upper.ok sc_upper (fun vs H Q E h => len_upper h) (fun cdv A outer s H vs Q E hr h => ⟨t_upper K T.G E, ?_, pure_upper  h⟩)
  exact (pss_cons (ps_if (PW.pt (pw_and (pt_cmpR op_le (pv 1) (pv 2) (nomark _)) (pw_and1 (pt_cmpR op_eq (pe_call (ok_drawn T) (hr.mono (by decide)) (by rfl) T.g_drawn T.F_drawn.kp T.b_drawn .nil pass0 (pa_cons (pv 0) (pa_cons pe_int (pa_cons pe_int pa_nil)))) pe_int (nomark _)))))
    (pss_one (ps_ret (pe_call (ok_great T) (hr.mono (by decide)) (by rfl) T.g_great T.F_great.kp T.b_great .nil pass0 (pa_cons (pv 0) (pa_cons (pe_op op_add (pe_op op_mul pe_int (pv 1)) (pv 2)) pa_nil)))))
    pss_nil)
    (pss_cons (ps_if (pt_cmpR op_eq (pv 1) (pv 2) (nomark _))
    (pss_one (ps_ret (pe_op op_sub (pe_call (ok_drawn T) (hr.mono (by decide)) (by rfl) T.g_drawn T.F_drawn.kp T.b_drawn .nil pass0 (pa_cons (pv 0) (pa_cons (pe_op op_add pe_int (pv 1)) (pa_cons pe_int pa_nil)))) pe_int)))
    pss_nil)
    (pss_cons (ps_if (pt_cmpR op_gt (pv 1) (pv 2) (nomark _))
    (pss_one (ps_ret pe_int))
    pss_nil)
    (pss_one (ps_ret (pe_op op_sub (pe_call (ok_drawn T) (hr.mono (by decide)) (by rfl) T.g_drawn T.F_drawn.kp T.b_drawn .nil pass0 (pa_cons (pv 0) (pa_cons (pe_op op_add (pe_op op_add pe_int (pe_op op_mul pe_int (pv 1))) (pv 2)) (pa_cons pe_int pa_nil)))) pe_int))))))
theorem ok_pick (T : Txt K mg) : FnOk P w K mg base CX0 1 T.f_pick T.d_pick ["rows", "k"] (sp_pick K T.G) := by
  refine T.F_pick.ok sc_pick (fun vs H Q E h => len_pick h) (fun cdv A outer s H vs Q E hr h => ⟨t_pick K T.G E, ?_, pure_pick  h⟩)
  exact (pss_cons (ps_for PassesOwn.never rfl (pi_range2 (by rfl) T.n_range (pa_cons (pv 1) (pa_cons (pe_callB call_len_seq (by rfl) T.n_len bt_len (pa_cons (pv 0) pa_nil)) pa_nil))) (pg_name (i := 2) sc_pick.nd rfl (by first | exact Or.inl rfl | exact Or.inr rfl))
    (pss_one (ps_if (pt_cmpR op_ne (pe_ix ix_list (pe_ix ix_list (pv 0) (pv 2) (fun _ _ => rfl)) (pv 1) (fun _ _ => rfl)) pe_int (nomark _))
    (pss_one (ps_ret (pv 2)))
    pss_nil)))
    (pss_one (ps_ret pe_non)))
theorem ok_det (T : Txt K mg) : FnOk P w K mg base CX0 2 T.f_det T.d_det ["square"] (sp_det K T.G) := by
  refine T.F_det.ok sc_det (fun vs H Q E h => len_det h) (fun cdv A outer s H vs Q E hr h => ⟨t_det K T.G E, ?_, pure_det  h⟩)
  exact (pss_cons (ps_setLc (i := 1) (own := [("row", 9)]) (g := (gName 9)) (tt := tYes) rfl sc_det.nd rfl rfl (sw_true rfl rfl rfl (by decide +kernel)) (pi_list (pv 0)) (blkOk_by (own := [("row", 9)]) (N := N_det) (by kernel_rfl))
      (fun _ _ _ _ _ => (pg_name (i := 9) sc_det.nd rfl (by first | exact Or.inl rfl | exact Or.inr rfl))) (fun _ _ _ _ _ => pts_nil) (fun _ _ _ _ _ => (pe_callTy call_list_of (by rfl) T.n_list bt_list (pa_cons (pv 9) pa_nil))))
    (pss_cons (ps_set (i := 2) sc_det.nd rfl (by first | exact Or.inl rfl | exact Or.inr rfl) pe_int)
    (pss_cons (ps_set (i := 3) sc_det.nd rfl (by first | exact Or.inl rfl | exact Or.inr rfl) pe_int)
    (pss_cons (ps_for PassesOwn.never rfl (pi_range1 (by rfl) T.n_range (pa_cons (pe_callB call_len_seq (by rfl) T.n_len bt_len (pa_cons (pv 1) pa_nil)) pa_nil)) (pg_name (i := 4) sc_det.nd rfl (by first | exact Or.inl rfl | exact Or.inr rfl))
    (pss_cons (ps_set (i := 5) sc_det.nd rfl (by first | exact Or.inl rfl | exact Or.inr rfl) (pe_call (ok_pick T) (hr.mono (by decide)) (by rfl) T.g_pick T.F_pick.kp T.b_pick .nil pass0 (pa_cons (pv 1) (pa_cons (pv 4) pa_nil))))
    (pss_cons (ps_if (pt_cmpR op_isN (pv 5) pe_non (nomark _))
    (pss_one (ps_ret pe_int))
    pss_nil)
    (pss_cons (ps_if (pt_cmpR op_ne (pv 5) (pv 4) (nomark _))
    (pss_cons (ps_set (i := 6) sc_det.nd rfl (by first | exact Or.inl rfl | exact Or.inr rfl) (pe_ix ix_list (pv 1) (pv 4) (fun _ _ => rfl)))
    (pss_cons (ps_asg (pe_ix ix_list (pv 1) (pv 5) (fun _ _ => rfl)) (pg_sub (pv 1) (pv 4) set_list))
    (pss_cons (ps_asg (pv 6) (pg_sub (pv 1) (pv 5) set_list))
    (pss_one (ps_set (i := 2) sc_det.nd rfl (by first | exact Or.inl rfl | exact Or.inr rfl) (pe_un un_neg (pv 2)))))))
    pss_nil)
    (pss_cons (ps_for PassesOwn.never rfl (pi_range2 (by rfl) T.n_range (pa_cons (pe_op op_add (pv 4) pe_int) (pa_cons (pe_callB call_len_seq (by rfl) T.n_len bt_len (pa_cons (pv 1) pa_nil)) pa_nil))) (pg_name (i := 7) sc_det.nd rfl (by first | exact Or.inl rfl | exact Or.inr rfl))
    (pss_one (ps_for PassesOwn.never rfl (pi_range2 (by rfl) T.n_range (pa_cons (pe_op op_add (pv 4) pe_int) (pa_cons (pe_callB call_len_seq (by rfl) T.n_len bt_len (pa_cons (pv 1) pa_nil)) pa_nil))) (pg_name (i := 8) sc_det.nd rfl (by first | exact Or.inl rfl | exact Or.inr rfl))
    (pss_one (ps_asg (pe_op op_fdivX (pe_op op_sub (pe_op op_mulW (pe_ix ix_list (pe_ix ix_list (pv 1) (pv 7) (fun _ _ => rfl)) (pv 8) (fun _ _ => rfl)) (pe_ix ix_list (pe_ix ix_list (pv 1) (pv 4) (fun _ _ => rfl)) (pv 4) (fun _ _ => rfl))) (pe_op op_mulW (pe_ix ix_list (pe_ix ix_list (pv 1) (pv 7) (fun _ _ => rfl)) (pv 4) (fun _ _ => rfl)) (pe_ix ix_list (pe_ix ix_list (pv 1) (pv 4) (fun _ _ => rfl)) (pv 8) (fun _ _ => rfl)))) (pv 3)) (pg_sub (pe_ix ix_list (pv 1) (pv 7) (fun _ _ => rfl)) (pv 8) set_list))))))
    (pss_one (ps_set (i := 3) sc_det.nd rfl (by first | exact Or.inl rfl | exact Or.inr rfl) (pe_ix ix_list (pe_ix ix_list (pv 1) (pv 4) (fun _ _ => rfl)) (pv 4) (fun _ _ => rfl)))))))))
    (pss_one (ps_ret (pe_op op_mulW (pv 2) (pv 3))))))))
theorem ok_law_k16 (T : Txt K mg) : FnOk P w K mg base CX0 4 T.f_law_k16 T.d_law_k16 ["script"] (spLaw K) := by
  refine T.F_law_k16.ok sc_law_k16 (fun vs H Q E h => lenLaw h) (fun cdv A outer s H vs Q E hr h => ⟨t_law_k16 K T.G E, ?_, pure_law_k16  h⟩)
  exact (pss_cons (ps_set (i := 1) sc_law_k16.nd rfl (by first | exact Or.inl rfl | exact Or.inr rfl) (pe_op op_add pe_int (pe_call (ok_drawn T) (hr.mono (by decide)) (by rfl) T.g_drawn T.F_drawn.kp T.b_drawn .nil pass0 (pa_cons (pv 0) (pa_cons pe_int (pa_cons pe_int pa_nil))))))
    (pss_cons (ps_set (i := 3) sc_law_k16.nd rfl (by first | exact Or.inl rfl | exact Or.inr rfl) (pe_lc (own := [("j", 2)]) (g := (gName 2)) (tt := tYes) rfl sc_law_k16.nd (pi_range1 (by rfl) T.n_range (pa_cons (pv 1) pa_nil)) (blkOk_by (own := [("j", 2)]) (N := N_law_k16) (by kernel_rfl))
      (fun _ _ _ _ _ => (pg_name (i := 2) sc_law_k16.nd rfl (by first | exact Or.inl rfl | exact Or.inr rfl))) (fun _ _ _ _ _ => pts_nil) (fun _ _ _ _ _ => (pe_lc (own := [("k", 11)]) (g := (gName 11)) (tt := tYes) rfl sc_law_k16.nd (pi_range1 (by rfl) T.n_range (pa_cons (pv 1) pa_nil)) (blkOk_by (own := [("k", 11)]) (N := N_law_k16) (by kernel_rfl))
      (fun _ _ _ _ _ => (pg_name (i := 11) sc_law_k16.nd rfl (by first | exact Or.inl rfl | exact Or.inr rfl))) (fun _ _ _ _ _ => pts_nil) (fun _ _ _ _ _ => (pe_call (ok_lower T) (hr.mono (by decide)) (by rfl) T.g_lower T.F_lower.kp T.b_lower .nil pass0 (pa_cons (pv 0) (pa_cons (pv 2) (pa_cons (pv 11) pa_nil)))))))))
    (pss_cons (ps_set (i := 4) sc_law_k16.nd rfl (by first | exact Or.inl rfl | exact Or.inr rfl) (pe_lc (own := [("j", 2)]) (g := (gName 2)) (tt := tYes) rfl sc_law_k16.nd (pi_range1 (by rfl) T.n_range (pa_cons (pv 1) pa_nil)) (blkOk_by (own := [("j", 2)]) (N := N_law_k16) (by kernel_rfl))
      (fun _ _ _ _ _ => (pg_name (i := 2) sc_law_k16.nd rfl (by first | exact Or.inl rfl | exact Or.inr rfl))) (fun _ _ _ _ _ => pts_nil) (fun _ _ _ _ _ => (pe_lc (own := [("k", 11)]) (g := (gName 11)) (tt := tYes) rfl sc_law_k16.nd (pi_range1 (by rfl) T.n_range (pa_cons (pv 1) pa_nil)) (blkOk_by (own := [("k", 11)]) (N := N_law_k16) (by kernel_rfl))
      (fun _ _ _ _ _ => (pg_name (i := 11) sc_law_k16.nd rfl (by first | exact Or.inl rfl | exact Or.inr rfl))) (fun _ _ _ _ _ => pts_nil) (fun _ _ _ _ _ => (pe_call (ok_upper T) (hr.mono (by decide)) (by rfl) T.g_upper T.F_upper.kp T.b_upper .nil pass0 (pa_cons (pv 0) (pa_cons (pv 2) (pa_cons (pv 11) pa_nil)))))))))
    (pss_cons (ps_set (i := 5) sc_law_k16.nd rfl (by first | exact Or.inl rfl | exact Or.inr rfl) pe_int)
    (pss_cons (ps_set (i := 6) sc_law_k16.nd rfl (by first | exact Or.inl rfl | exact Or.inr rfl) (pe_lst pa_nil))
    (pss_cons (ps_for PassesOwn.never rfl (pi_range1 (by rfl) T.n_range (pa_cons (pv 1) pa_nil)) (pg_name (i := 2) sc_law_k16.nd rfl (by first | exact Or.inl rfl | exact Or.inr rfl))
    (pss_cons (ps_set (i := 5) sc_law_k16.nd rfl (by first | exact Or.inl rfl | exact Or.inr rfl) (pe_op op_mulW (pv 5) (pe_ix ix_list (pe_ix ix_list (pv 4) (pv 2) (fun _ _ => rfl)) (pv 2) (fun _ _ => rfl))))
    (pss_one (ps_expr (pe_bm PySem.F.plainAttrs_list PySem.F.slot_list_append PySem.F.type_list_append mt_append (pv 6) (pa_cons (pe_lc (own := [("k", 11)]) (g := (gName 11)) (tt := tYes) rfl sc_law_k16.nd (pi_range1 (by rfl) T.n_range (pa_cons (pv 1) pa_nil)) (blkOk_by (own := [("k", 11)]) (N := N_law_k16) (by kernel_rfl))
      (fun _ _ _ _ _ => (pg_name (i := 11) sc_law_k16.nd rfl (by first | exact Or.inl rfl | exact Or.inr rfl))) (fun _ _ _ _ _ => pts_nil) (fun _ _ _ _ _ => (pe_callB (cr_sum rfl) (by rfl) T.n_sum bt_sum (pa_cons (pe_lc (own := [("m", 12)]) (g := (gName 12)) (tt := tYes) rfl sc_law_k16.nd (pi_range1 (by rfl) T.n_range (pa_cons (pv 1) pa_nil)) (blkOk_by (own := [("m", 12)]) (N := N_law_k16) (by kernel_rfl))
      (fun _ _ _ _ _ => (pg_name (i := 12) sc_law_k16.nd rfl (by first | exact Or.inl rfl | exact Or.inr rfl))) (fun _ _ _ _ _ => pts_nil) (fun _ _ _ _ _ => (pe_op op_mulW (pe_ix ix_list (pe_ix ix_list (pv 3) (pv 2) (fun _ _ => rfl)) (pv 12) (fun _ _ => rfl)) (pe_ix ix_list (pe_ix ix_list (pv 4) (pv 12) (fun _ _ => rfl)) (pv 11) (fun _ _ => rfl))))) pa_nil)))) pa_nil))))))
    (pss_cons (ps_set (i := 7) sc_law_k16.nd rfl (by first | exact Or.inl rfl | exact Or.inr rfl) (pe_call (ok_drawn T) (hr.mono (by decide)) (by rfl) T.g_drawn T.F_drawn.kp T.b_drawn .nil pass0 (pa_cons (pv 0) (pa_cons pe_int (pa_cons (pv 1) pa_nil)))))
    (pss_cons (ps_set (i := 8) sc_law_k16.nd rfl (by first | exact Or.inl rfl | exact Or.inr rfl) (pe_call (ok_drawn T) (hr.mono (by decide)) (by rfl) T.g_drawn T.F_drawn.kp T.b_drawn .nil pass0 (pa_cons (pv 0) (pa_cons pe_int (pa_cons (pv 1) pa_nil)))))
    (pss_cons (ps_if (pt_cmpR op_ne (pv 7) (pv 8) (nomark _))
    (pss_cons (ps_set (i := 9) sc_law_k16.nd rfl (by first | exact Or.inl rfl | exact Or.inr rfl) (pe_ix ix_list (pv 6) (pv 7) (fun _ _ => rfl)))
    (pss_cons (ps_asg (pe_ix ix_list (pv 6) (pv 8) (fun _ _ => rfl)) (pg_sub (pv 6) (pv 7) set_list))
    (pss_cons (ps_asg (pv 9) (pg_sub (pv 6) (pv 8) set_list))
    (pss_one (ps_set (i := 5) sc_law_k16.nd rfl (by first | exact Or.inl rfl | exact Or.inr rfl) (pe_un un_neg (pv 5)))))))
    pss_nil)
    (pss_cons (ps_set (i := 10) sc_law_k16.nd rfl (by first | exact Or.inl rfl | exact Or.inr rfl) (pe_call (ok_det T) (hr.mono (by decide)) (by rfl) T.g_det T.F_det.kp T.b_det .nil pass0 (pa_cons (pv 6) pa_nil)))
    (pss_one (ps_ret (pe_and (pe_callB call_isi (by rfl) T.n_isinstance bt_isinstance (pa_cons (pv 10) (pa_cons (pe_bltn (v := .ty "int") (by rfl) T.n_int bt_int rfl) pa_nil))) (pe_and (pe_not (pe_callB call_isi (by rfl) T.n_isinstance bt_isinstance (pa_cons (pv 10) (pa_cons (pe_bltn (v := .ty "bool") (by rfl) T.n_bool bt_bool rfl) pa_nil)))) (pe_one (pe_cmpR op_eq (pv 10) (pv 5) (nomark _)))))))))))))))))
end
theorem all_mk {l : PySem.W.OpenLaw} {w : World} {K : PySem.W.Frag} {h : Heap} {mg : Str → Option Value} {fa f_drawn f_lower f_great f_upper f_pick f_det f_law_k16 : Addr} (X : K.In h) (G : h.Ns mainGlobals mg) (hfa : mg "law" = some (.ref fa))
    {od_drawn an_drawn : Option Addr} {sl_drawn : Array (Option Value)} {oc_drawn kV_drawn dc_drawn pm_drawn cd_drawn ct_drawn : Value}
    {od_lower an_lower : Option Addr} {sl_lower : Array (Option Value)} {oc_lower kV_lower dc_lower pm_lower cd_lower ct_lower : Value}
    {od_great an_great : Option Addr} {sl_great : Array (Option Value)} {oc_great kV_great dc_great pm_great cd_great ct_great : Value}
    {od_upper an_upper : Option Addr} {sl_upper : Array (Option Value)} {oc_upper kV_upper dc_upper pm_upper cd_upper ct_upper : Value}
    {od_pick an_pick : Option Addr} {sl_pick : Array (Option Value)} {oc_pick kV_pick dc_pick pm_pick cd_pick ct_pick : Value}
    {od_det an_det : Option Addr} {sl_det : Array (Option Value)} {oc_det kV_det dc_det pm_det cd_det ct_det : Value}
    {od_law_k16 an_law_k16 : Option Addr} {sl_law_k16 : Array (Option Value)} {oc_law_k16 kV_law_k16 dc_law_k16 pm_law_k16 cd_law_k16 ct_law_k16 : Value}
    (a_drawn : PySem.W.nsIn K mainGlobals "_law_drawn" = some (some (.ref f_drawn)))
    (l_drawn : K.lookup f_drawn = some ⟨oc_drawn, od_drawn, .func (PySem.W.fnOf "_law_drawn" "_law_drawn" (defArgs s_drawn) (defBody s_drawn) (defScope s_drawn) .none kV_drawn dc_drawn pm_drawn an_drawn cd_drawn ct_drawn), sl_drawn⟩)
    (c_drawn : PySem.W.codeIn K cd_drawn "_law_drawn" = true)
    (k_drawn : PySem.W.keepIn K (.ref f_drawn) = true)
    (a_lower : PySem.W.nsIn K mainGlobals "_law_lower" = some (some (.ref f_lower)))
    (l_lower : K.lookup f_lower = some ⟨oc_lower, od_lower, .func (PySem.W.fnOf "_law_lower" "_law_lower" (defArgs s_lower) (defBody s_lower) (defScope s_lower) .none kV_lower dc_lower pm_lower an_lower cd_lower ct_lower), sl_lower⟩)
    (c_lower : PySem.W.codeIn K cd_lower "_law_lower" = true)
    (k_lower : PySem.W.keepIn K (.ref f_lower) = true)
    (a_great : PySem.W.nsIn K mainGlobals "_law_great" = some (some (.ref f_great)))
    (l_great : K.lookup f_great = some ⟨oc_great, od_great, .func (PySem.W.fnOf "_law_great" "_law_great" (defArgs s_great) (defBody s_great) (defScope s_great) .none kV_great dc_great pm_great an_great cd_great ct_great), sl_great⟩)
    (c_great : PySem.W.codeIn K cd_great "_law_great" = true)
    (k_great : PySem.W.keepIn K (.ref f_great) = true)
    (a_upper : PySem.W.nsIn K mainGlobals "_law_upper" = some (some (.ref f_upper)))
    (l_upper : K.lookup f_upper = some ⟨oc_upper, od_upper, .func (PySem.W.fnOf "_law_upper" "_law_upper" (defArgs s_upper) (defBody s_upper) (defScope s_upper) .none kV_upper dc_upper pm_upper an_upper cd_upper ct_upper), sl_upper⟩)
    (c_upper : PySem.W.codeIn K cd_upper "_law_upper" = true)
    (k_upper : PySem.W.keepIn K (.ref f_upper) = true)
    (a_pick : PySem.W.nsIn K mainGlobals "pick" = some (some (.ref f_pick)))
    (l_pick : K.lookup f_pick = some ⟨oc_pick, od_pick, .func (PySem.W.fnOf "pick" "pick" (defArgs s_pick) (defBody s_pick) (defScope s_pick) .none kV_pick dc_pick pm_pick an_pick cd_pick ct_pick), sl_pick⟩)
    (c_pick : PySem.W.codeIn K cd_pick "pick" = true)
    (k_pick : PySem.W.keepIn K (.ref f_pick) = true)
    (a_det : PySem.W.nsIn K mainGlobals "det" = some (some (.ref f_det)))
    (l_det : K.lookup f_det = some ⟨oc_det, od_det, .func (PySem.W.fnOf "det" "det" (defArgs s_det) (defBody s_det) (defScope s_det) .none kV_det dc_det pm_det an_det cd_det ct_det), sl_det⟩)
    (c_det : PySem.W.codeIn K cd_det "det" = true)
    (k_det : PySem.W.keepIn K (.ref f_det) = true)
    (a_law_k16 : PySem.W.nsIn K mainGlobals "law" = some (some (.ref f_law_k16)))
    (l_law_k16 : K.lookup f_law_k16 = some ⟨oc_law_k16, od_law_k16, .func (PySem.W.fnOf "law" "law" (defArgs s_law_k16) (defBody s_law_k16) (defScope s_law_k16) .none kV_law_k16 dc_law_k16 pm_law_k16 an_law_k16 cd_law_k16 ct_law_k16), sl_law_k16⟩)
    (c_law_k16 : PySem.W.codeIn K cd_law_k16 "law" = true)
    (k_law_k16 : PySem.W.keepIn K (.ref f_law_k16) = true)
    (n_len : PySem.W.nsIn K mainGlobals "len" = some none)
    (n_range : PySem.W.nsIn K mainGlobals "range" = some none)
    (n_list : PySem.W.nsIn K mainGlobals "list" = some none)
    (n_sum : PySem.W.nsIn K mainGlobals "sum" = some none)
    (n_int : PySem.W.nsIn K mainGlobals "int" = some none)
    (n_isinstance : PySem.W.nsIn K mainGlobals "isinstance" = some none)
    (n_bool : PySem.W.nsIn K mainGlobals "bool" = some none)
    : ∃ fd : FuncData, (∀ (s : Shared) (v : Value), BindsTo s fd ⟨[v], []⟩ [("script", v)]) ∧ ∀ base : Heap, K.In base → base.Ns mainGlobals mg → FnOk l.prog w K mg base CX0 4 fa fd ["script"] (spLaw K) := by
  have e := hfa.symm.trans (PySem.W.mg_of X G a_law_k16)
  cases e
  let T : Txt K mg := {
    G := ⟨0, 0, 0, 0, 0, 0, 0, 0, 0, 0, 0, 0⟩
    f_drawn := f_drawn
    d_drawn := _
    F_drawn := fun_mk (st := s_drawn) l_drawn c_drawn k_drawn
    b_drawn := Fun.binds (ps := ["script", "k", "many"]) (fun_mk (st := s_drawn) l_drawn c_drawn k_drawn) fun _ _ _ _ _ _ us hl => match us, hl with | [_, _, _], _ => rfl
    g_drawn := PySem.W.mg_of X G a_drawn
    f_lower := f_lower
    d_lower := _
    F_lower := fun_mk (st := s_lower) l_lower c_lower k_lower
    b_lower := Fun.binds (ps := ["script", "j", "k"]) (fun_mk (st := s_lower) l_lower c_lower k_lower) fun _ _ _ _ _ _ us hl => match us, hl with | [_, _, _], _ => rfl
    g_lower := PySem.W.mg_of X G a_lower
    f_great := f_great
    d_great := _
    F_great := fun_mk (st := s_great) l_great c_great k_great
    b_great := Fun.binds (ps := ["script", "k"]) (fun_mk (st := s_great) l_great c_great k_great) fun _ _ _ _ _ _ us hl => match us, hl with | [_, _], _ => rfl
    g_great := PySem.W.mg_of X G a_great
    f_upper := f_upper
    d_upper := _
    F_upper := fun_mk (st := s_upper) l_upper c_upper k_upper
    b_upper := Fun.binds (ps := ["script", "j", "k"]) (fun_mk (st := s_upper) l_upper c_upper k_upper) fun _ _ _ _ _ _ us hl => match us, hl with | [_, _, _], _ => rfl
    g_upper := PySem.W.mg_of X G a_upper
    f_pick := f_pick
    d_pick := _
    F_pick := fun_mk (st := s_pick) l_pick c_pick k_pick
    b_pick := Fun.binds (ps := ["rows", "k"]) (fun_mk (st := s_pick) l_pick c_pick k_pick) fun _ _ _ _ _ _ us hl => match us, hl with | [_, _], _ => rfl
    g_pick := PySem.W.mg_of X G a_pick
    f_det := f_det
    d_det := _
    F_det := fun_mk (st := s_det) l_det c_det k_det
    b_det := Fun.binds (ps := ["square"]) (fun_mk (st := s_det) l_det c_det k_det) fun _ _ _ _ _ _ us hl => match us, hl with | [_], _ => rfl
    g_det := PySem.W.mg_of X G a_det
    f_law_k16 := fa
    d_law_k16 := _
    F_law_k16 := fun_mk (st := s_law_k16) l_law_k16 c_law_k16 k_law_k16
    b_law_k16 := Fun.binds (ps := ["script"]) (fun_mk (st := s_law_k16) l_law_k16 c_law_k16 k_law_k16) fun _ _ _ _ _ _ us hl => match us, hl with | [_], _ => rfl
    n_len := PySem.W.mg_none_of X G n_len
    n_range := PySem.W.mg_none_of X G n_range
    n_list := PySem.W.mg_none_of X G n_list
    n_sum := PySem.W.mg_none_of X G n_sum
    n_int := PySem.W.mg_none_of X G n_int
    n_isinstance := PySem.W.mg_none_of X G n_isinstance
    n_bool := PySem.W.mg_none_of X G n_bool
  }
  exact ⟨PySem.W.fnOf "law" "law" (defArgs s_law_k16) (defBody s_law_k16) (defScope s_law_k16) .none kV_law_k16 dc_law_k16 pm_law_k16 an_law_k16 cd_law_k16 ct_law_k16, fun s v => .of_eq rfl, fun base _ _ => ok_law_k16 T⟩
theorem walk {l : PySem.W.OpenLaw} {q : Program} {loose : List Str} {XP : (Str → Option Value) → Heap → Prop} {YP : World → Heap → Prop} {d : DefRec} {K : Params → PySem.W.Frag} (hn : l.most = some 63) (hdf : d.params.defaults = [])
    (hY : ∀ (w : World) (h : Heap), YP w h → (K w.params).In h)
    (F : ∀ (w : World) (mg : Str → Option Value) (fa : Addr) (h : Heap), (K w.params).In h → h.Ns mainGlobals mg → mg d.name = some (.ref fa) →
      ∃ fd : FuncData, (∀ (s : Shared) (u : Value), BindsTo s fd ⟨[u], []⟩ [("script", u)]) ∧ ∀ base : Heap, (K w.params).In base → base.Ns mainGlobals mg → FnOk l.prog w (K w.params) mg base CX0 4 fa fd ["script"] (spLaw (K w.params))) :
    PySem.W.WalkO q loose XP YP l.row.toRowW d [] (fun f vs => PySem.call f vs) :=
  L2.walk_of (n := 63) (k := 4) (x := "script") (CX := fun _ => CX0) (sp := fun w => spLaw (K w.params)) hn (by decide) hdf ⟨rfl, by decide, by decide⟩ hY F (fun _ _ a ns hl _ hS => ⟨a, ns, rfl, hS, hl, fun _ => rfl⟩) fun _ _ _ _ _ z => z
end Mb
open PySem PySem.W PyProof.Rows
set_option maxRecDepth 100000 in
set_option maxHeartbeats 0 in
set_option pp.maxSteps 60 in
theorem PySem.Challenge.cw_marblerun_k16_determinants_made_holds : PySem.Challenge.rw_marblerun_k16_determinants_made.Holds := by
  w_on; o_law; k_head; (case hw => w_witness2)
  k_fill
  refine Mb.walk (l := PySem.Challenge.rw_marblerun_k16_determinants_made) rfl rfl (fun w h Y => PySem.W.kIn_of Y) ?F
  case F =>
    intro w mg fa h KX G hmg
    refine' Mb.all_mk KX G hmg ?a_drawn ?l_drawn ?c_drawn ?k_drawn ?a_lower ?l_lower ?c_lower ?k_lower ?a_great ?l_great ?c_great ?k_great ?a_upper ?l_upper ?c_upper ?k_upper ?a_pick ?l_pick ?c_pick ?k_pick ?a_det ?l_det ?c_det ?k_det ?a_law_k16 ?l_law_k16 ?c_law_k16 ?k_law_k16 ?n_len ?n_range ?n_list ?n_sum ?n_int ?n_isinstance ?n_bool
    (case a_drawn => k_is)
    (case l_drawn => k_is)
    (case c_drawn => k_is)
    (case k_drawn => k_is)
    (case a_lower => k_is)
    (case l_lower => k_is)
    (case c_lower => k_is)
    (case k_lower => k_is)
    (case a_great => k_is)
    (case l_great => k_is)
    (case c_great => k_is)
    (case k_great => k_is)
    (case a_upper => k_is)
    (case l_upper => k_is)
    (case c_upper => k_is)
    (case k_upper => k_is)
    (case a_pick => k_is)
    (case l_pick => k_is)
    (case c_pick => k_is)
    (case k_pick => k_is)
    (case a_det => k_is)
    (case l_det => k_is)
    (case c_det => k_is)
    (case k_det => k_is)
    (case a_law_k16 => k_is)
    (case l_law_k16 => k_is)
    (case c_law_k16 => k_is)
    (case k_law_k16 => k_is)
    (case n_len => k_is)
    (case n_range => k_is)
    (case n_list => k_is)
    (case n_sum => k_is)
    (case n_int => k_is)
    (case n_isinstance => k_is)
    (case n_bool => k_is)
