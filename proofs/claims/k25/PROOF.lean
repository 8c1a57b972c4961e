import PyProof.Rows.All
import Wide.All
import OpenK.AllK
import Wide.FinOn
import HandS.ForMost
import HandS.ForExc
import HandS.More
import HandS.Steps
import HandS.TryMany
import HandS.IsInst
import HandS.ExcIs
import HandS.SetFor
import HandS.Rev
import HandS.Wide
import HandS.Style
import HandS.Text
import HandS.Hot
import HandS.HotCalls
import HandS.SuiteRaise
import KE.GoesComp
import PyProof.StrWalks
import PyProof.WalkInts
import HandS.HotCalls
import HandS.SuiteRaise
import PySem.Challenge.RW_marblerun_k25_texts_refused
set_option Elab.async false
set_option linter.all false
set_option maxRecDepth 100000
set_option maxHeartbeats 4000000
namespace Mb
open PySem L2
/-! Base: the ledger, short readings, rules for try bodies, the tactic words -/

/-- the addresses of the program's classes -/
structure Ads where
  Board : Addr
  BoardError : Addr
  NoSite : Addr
  NoExit : Addr
  NoPlace : Addr
  NoMarble : Addr
  TooMany : Addr
  NotOpen : Addr
  NotBare : Addr
  NotTree : Addr
  TooLong : Addr
  NoBoard : Addr

/-! ### names for the operators' readings -/
abbrev mAdd : R2 := rI0 fun i j => .int (i + j)
abbrev mSub : R2 := rI0 fun i j => .int (i - j)
abbrev mMul : R2 := rI CMul fun i j => .int (i * j)
abbrev mMod : R2 := rI (fun _ j => 0 < j) fun i j => .int (i % j)
abbrev mFdiv : R2 := rI CDiv fun i j => .int (i / j)
abbrev mPow : R2 := rI CPow fun i j => .int (i ^ j.toNat)
abbrev mLt : R2 := rI0 fun i j => .bl (decide (i < j))
abbrev mLe : R2 := rI0 fun i j => .bl (decide (i ≤ j))
abbrev mGt : R2 := rI0 fun i j => .bl (decide (j < i))
abbrev mGe : R2 := rI0 fun i j => .bl (decide (j ≤ i))
abbrev mNeg : V → Hp → VK → Prop := rU fun i => .int (-i)
def mLen (K : PySem.W.Frag) : List V → Hp → VK → Prop := fun xs H Q => ∃ p ys, xs = [.ref p] ∧ (SqL K H p ys ∨ SqT K H p ys) ∧ Q (.int ys.length) H
def mList (K : PySem.W.Frag) : List V → Hp → VK → Prop := fun xs H Q => ∃ p ys, xs = [.ref p] ∧ (SqL K H p ys ∨ SqT K H p ys) ∧ ∀ l, H l = none → Q (.ref l) (upd H l (.lst ys))
def mMax2 : List V → Hp → VK → Prop := fun xs H Q => ∃ i j, xs = [.int i, .int j] ∧ Q (.int (if j > i then j else i)) H
def mAbs : List V → Hp → VK → Prop := fun xs H Q => ∃ i, xs = [.int i] ∧ Q (.int (if i < 0 then -i else i)) H
def mStr : List V → Hp → VK → Prop := fun xs H Q => ∃ i, xs = [.int i] ∧ i.natAbs.log2 < 1920 ∧ Q (.str (toString i)) H
def mInt : List V → Hp → VK → Prop := fun xs H Q => (∃ i, xs = [.int i] ∧ Q (.int i) H) ∨ ∃ k, xs = [.bl k] ∧ Q (.int (if k then 1 else 0)) H
def mLenS : List V → Hp → VK → Prop := fun xs H Q => ∃ z, xs = [.str z] ∧ z.length ≤ sizeLine ∧ Q (.int z.length) H
def rInsert : V → List V → Hp → VK → Prop := fun x vs H Q => ∃ (l : Addr) (xs : List V) (i : Int) (y : V), x = .ref l ∧ vs = [.int i, y] ∧ H l = some (.lst xs) ∧ xs.length < sizeLine ∧ 0 ≤ i ∧ i < 2 ^ 63 ∧
  Q .non (upd H l (.lst (xs.take i.toNat ++ [y] ++ xs.drop i.toNat)))
def tRaise (E : XK) (C : Addr) : TS := fun _ _ H => E (.ref C) none H
def tTry1 (K : PySem.W.Frag) (c : Value) (tb : WX → TS) (ts : Addr → Value → Option Addr → TS) (Wout : WX) : TS := fun D σ H => tb (wOnly K c ts Wout D) D σ H
def tTryN (K : PySem.W.Frag) (tb : WX → TS) (l : List (Value × (Addr → Value → Option Addr → TS))) (Wout : WX) : TS := fun D σ H => tb (wMany K Wout D l) D σ H
def tTryAs (K : PySem.W.Frag) (c : Value) (i : Nat) (tb : WX → TS) (ts : Addr → Value → Option Addr → TS) (Wout : WX) : TS := fun D σ H => tb (wAs K c i ts Wout D) D σ H
def tMethT (C : Addr) (m : Str) (sp : Sp) (E : L2.St → XK) (ta : TE) (t : TA) : TE := fun σ H Q => ta σ H fun x H1 => ∃ a dx fs, x = .ref a ∧ H1 a = some (.ins C dx fs) ∧ fs.lookup m = none ∧
  t σ H1 fun vs H2 => sp (x :: vs) H2 Q (E σ)
def tMakeT (C : Addr) (sp : Sp) (E : L2.St → XK) (t : TA) : TE := fun σ H Q => t σ H fun vs H1 => ∀ x dx, H1 x = none → H1 dx = none → dx ≠ x →
  sp (.ref x :: vs) (upd (upd H1 dx (.own x)) x (.ins C dx [])) (fun v H2 => v = .non ∧ Q (.ref x) H2) (E σ)

theorem bt_len : bootBuiltins "len" = some (.builtin "len") := PySem.boot_len
theorem bt_list : bootBuiltins "list" = some (.type "list") := by decide +kernel
theorem bt_sum : bootBuiltins "sum" = some (.builtin "sum") := by decide +kernel
theorem bt_max : bootBuiltins "max" = some (.builtin "max") := by decide +kernel
theorem bt_min : bootBuiltins "min" = some (.builtin "min") := by decide +kernel
theorem bt_all : bootBuiltins "all" = some (.builtin "all") := by decide +kernel
theorem bt_any : bootBuiltins "any" = some (.builtin "any") := by decide +kernel
theorem bt_abs : bootBuiltins "abs" = some (.builtin "abs") := by decide +kernel
theorem bt_str : bootBuiltins "str" = some (.type "str") := by decide +kernel
theorem bt_int : bootBuiltins "int" = some (.type "int") := by decide +kernel
theorem bt_bool : bootBuiltins "bool" = some (.type "bool") := by decide +kernel
theorem bt_tuple : bootBuiltins "tuple" = some (.type "tuple") := by decide +kernel
theorem bt_isinstance : bootBuiltins "isinstance" = some (.builtin "isinstance") := by decide +kernel
theorem bt_ValueError : bootBuiltins "ValueError" = some (.type "ValueError") := by decide +kernel

/-! ### the ledger: what is frozen (B), what may change (L) -/
structure Led (B : Hp) (L : List (Addr × HO)) (H : Hp) : Prop where
  same : Same B H
  at_ : ∀ (i : Nat) (p : Addr) (o : HO), L[i]? = some (p, o) → H p = some o
  nd : (L.map Prod.fst).Nodup
  new : ∀ p, p ∈ L.map Prod.fst → B p = none

theorem Led.nil (H : Hp) : Led H [] H := ⟨Same.refl H, fun i p o h => by simp at h, by simp, fun p h => by simp at h⟩
theorem Led.get {B : Hp} {L : List (Addr × HO)} {H : Hp} (h : Led B L H) (i : Nat) {p : Addr} {o : HO} (e : L[i]? = some (p, o)) : H p = some o := h.at_ i p o e
theorem Led.mem {B : Hp} {L : List (Addr × HO)} {H : Hp} (h : Led B L H) {p : Addr} {o : HO} (e : (p, o) ∈ L) : H p = some o := by
  obtain ⟨i, hi, q⟩ := List.getElem_of_mem e
  exact h.at_ i p o (by rw [List.getElem?_eq_getElem hi, q])
theorem Led.keys {B : Hp} {L : List (Addr × HO)} {H : Hp} (h : Led B L H) {p : Addr} (e : p ∈ L.map Prod.fst) : ∃ o, H p = some o := by
  obtain ⟨⟨q, o⟩, hm, rfl⟩ := List.mem_map.mp e
  exact ⟨o, h.mem hm⟩
theorem Led.out {B : Hp} {L : List (Addr × HO)} {H : Hp} (h : Led B L H) {p : Addr} (e : H p = none) : p ∉ L.map Prod.fst := fun m => by
  obtain ⟨o, q⟩ := h.keys m
  rw [e] at q
  cases q
theorem key_at {L : List (Addr × HO)} {i : Nat} {p : Addr} {o : HO} (e : L[i]? = some (p, o)) : p ∈ L.map Prod.fst := List.mem_map.mpr ⟨(p, o), List.mem_of_getElem? e, rfl⟩
theorem Led.base {B : Hp} {L : List (Addr × HO)} {H : Hp} (h : Led B L H) {K : PySem.W.Frag} {a : Addr} {xs : List V} (s : SqL K B a xs) : SqL K H a xs := h.same.seq s
theorem Led.sq {B : Hp} {L : List (Addr × HO)} {H : Hp} (h : Led B L H) (i : Nat) {K : PySem.W.Frag} {p : Addr} {xs : List V} (e : L[i]? = some (p, .lst xs)) : SqL K H p xs := SqL.of (h.get i e)
theorem Led.ext {B : Hp} {L : List (Addr × HO)} {H H' : Hp} (h : Led B L H) (s : Same H H') : Led B L H' :=
  ⟨h.same.trans s, fun i p o e => s _ _ (h.at_ i p o e), h.nd, h.new⟩
theorem map_set_fst {L : List (Addr × HO)} {i : Nat} {p : Addr} {o o' : HO} (e : L[i]? = some (p, o)) : (L.set i (p, o')).map Prod.fst = L.map Prod.fst := by
  apply List.ext_getElem?
  intro j
  rw [List.getElem?_map, List.getElem?_map]
  by_cases q : i = j
  · subst q
    have hl : i < L.length := (List.getElem?_eq_some_iff.mp e).1
    rw [List.getElem?_set_self hl, e]
    rfl
  · rw [List.getElem?_set_ne q]
theorem Led.set {B : Hp} {L : List (Addr × HO)} {H : Hp} (h : Led B L H) {i : Nat} {p : Addr} {o : HO} (e : L[i]? = some (p, o)) (o' : HO) : Led B (L.set i (p, o')) (upd H p o') := by
  have hm := map_set_fst (o' := o') e
  have hl : i < L.length := (List.getElem?_eq_some_iff.mp e).1
  refine ⟨fun b u q => ?_, fun j q u z => ?_, by rw [hm]; exact h.nd, fun q z => h.new q (by rw [← hm]; exact z)⟩
  · rw [upd_ne (ne_of_none q (h.new p (key_at e)))]
    exact h.same b u q
  · by_cases ij : i = j
    · subst ij
      rw [List.getElem?_set_self hl] at z
      cases z
      exact upd_same
    · rw [List.getElem?_set_ne ij] at z
      have np : q ≠ p := fun hq => by
        subst hq
        have e1 : (L.map Prod.fst)[j]? = some q := by rw [List.getElem?_map, z]; rfl
        have e2 : (L.map Prod.fst)[i]? = some q := by rw [List.getElem?_map, e]; rfl
        exact ij (nd_ix h.nd e2 e1)
      rw [upd_ne np]
      exact h.at_ j q u z
theorem Led.add {B : Hp} {L : List (Addr × HO)} {H H' : Hp} (h : Led B L H) {p : Addr} {o : HO} (s : Same H H') (n : H p = none) (e : H' p = some o) : Led B (L ++ [(p, o)]) H' := by
  have out := h.out n
  refine ⟨h.same.trans s, fun i q u z => ?_, ?_, fun q z => ?_⟩
  · by_cases hi : i < L.length
    · rw [List.getElem?_append_left hi] at z
      exact s _ _ (h.at_ i q u z)
    · rw [List.getElem?_append_right (by omega)] at z
      cases k : i - L.length with
      | zero =>
        rw [k] at z
        cases z
        exact e
      | succ m =>
        rw [k] at z
        simp at z
  · rw [List.map_append, List.nodup_append]
    refine ⟨h.nd, by simp, fun a ha b hb => ?_⟩
    simp at hb
    subst hb
    intro q
    subst q
    exact out ha
  · rw [List.map_append] at z
    rcases List.mem_append.mp z with z | z
    · exact h.new q z
    · simp at z
      subst z
      cases q2 : B q with
      | none => rfl
      | some u =>
        rw [h.same _ _ q2] at n
        cases n
theorem same_upd {H : Hp} {p : Addr} {o : HO} (n : H p = none) : Same H (upd H p o) := fun b u q => by
  rw [upd_ne (ne_of_none q n)]
  exact q
theorem Led.alloc {B : Hp} {L : List (Addr × HO)} {H : Hp} (h : Led B L H) {p : Addr} (n : H p = none) (o : HO) : Led B (L ++ [(p, o)]) (upd H p o) := h.add (same_upd n) n upd_same
/-- all but the ledger becomes the base -/
theorem Led.rebase {B : Hp} {L : List (Addr × HO)} {H : Hp} (h : Led B L H) : ∃ B', Same B B' ∧ Led B' L H ∧ ∀ p o, H p = some o → p ∉ L.map Prod.fst → B' p = some o := by
  classical
  refine ⟨fun a => if a ∈ L.map Prod.fst then none else H a, fun b u q => ?_, ⟨fun b u q => ?_, h.at_, h.nd, fun p z => if_pos z⟩, fun p o q z => ?_⟩
  · have z : b ∉ L.map Prod.fst := fun m => by
      rw [h.new b m] at q
      cases q
    show (if b ∈ L.map Prod.fst then none else H b) = some u
    rw [if_neg z]
    exact h.same b u q
  · by_cases z : b ∈ L.map Prod.fst
    · rw [show (if b ∈ L.map Prod.fst then none else H b) = none from if_pos z] at q
      cases q
    · rw [show (if b ∈ L.map Prod.fst then none else H b) = H b from if_neg z] at q
      exact q
  · show (if p ∈ L.map Prod.fst then none else H p) = some o
    rw [if_neg z]
    exact q
/-- objects forgotten -/
theorem Led.sub {B : Hp} {L L' : List (Addr × HO)} {H : Hp} (h : Led B L H) (s : L'.Sublist L) : Led B L' H :=
  ⟨h.same, fun i p o e => h.mem (s.subset (List.mem_of_getElem? e)), (s.map Prod.fst).nodup h.nd, fun p z => h.new p ((s.map Prod.fst).subset z)⟩

/-! ### lists of ints, of rows -/
abbrev ilst (ns : List Int) : HO := .lst (ns.map V.int)
abbrev blst (bs : List Bool) : HO := .lst (bs.map V.bl)
/-- rows stand at p in the frozen part -/
def RowsAt (B : Hp) (p : Addr) (rows : List (List Int)) : Prop := ∃ as : List Addr, B p = some (.lst (as.map V.ref)) ∧ as.length = rows.length ∧
  ∀ (i : Nat) (r : Addr) (row : List Int), as[i]? = some r → rows[i]? = some row → B r = some (ilst row)
theorem RowsAt.mono {B B' : Hp} {p : Addr} {rows : List (List Int)} (h : RowsAt B p rows) (s : Same B B') : RowsAt B' p rows := by
  obtain ⟨as, h1, h2, h3⟩ := h
  exact ⟨as, s _ _ h1, h2, fun i r row e1 e2 => s _ _ (h3 i r row e1 e2)⟩

theorem len_map_int (ns : List Int) : (ns.map V.int).length = ns.length := List.length_map _
theorem atI_int {ns : List Int} {i : Int} (h0 : 0 ≤ i) (h1 : i < ns.length) : atI (ns.map V.int) i = some (.int (ns.getD i.toNat 0)) := by
  have hl : i.toNat < ns.length := by omega
  refine at_of (j := i.toNat) (by omega) ?_
  rw [List.getElem?_map, List.getElem?_eq_getElem hl, List.getD_eq_getElem?_getD, List.getElem?_eq_getElem hl]
  rfl
theorem atI_bl {bs : List Bool} {i : Int} (h0 : 0 ≤ i) (h1 : i < bs.length) : atI (bs.map V.bl) i = some (.bl (bs.getD i.toNat false)) := by
  have hl : i.toNat < bs.length := by omega
  refine at_of (j := i.toNat) (by omega) ?_
  rw [List.getElem?_map, List.getElem?_eq_getElem hl, List.getD_eq_getElem?_getD, List.getElem?_eq_getElem hl]
  rfl

/-! ### steps of a reading -/
section
variable {K : PySem.W.Frag} {σ : L2.St} {H : Hp} {Q : VK} {D : Ends} {ta tb te : TE} {t u : TS} {tt tu : TT} {r : R2}
theorem g_seq (h : t { D with nx := u D } σ H) : tSeq t u D σ H := h
theorem g_asg {g : TG} (h : te σ H fun x H1 => g x σ H1 D.nx) : tAsg te g D σ H := h
theorem g_name {i : Nat} {v : V} {R : L2.St → Hp → Prop} (h : R (σ.set i (some v)) H) : gName i v σ H R := h
theorem g_var {i : Nat} {v : V} (e : σ[i]? = some (some v)) (h : Q v H) : tVar i σ H Q := ⟨v, e, h⟩
theorem g_c {v : V} (h : Q v H) : tC v σ H Q := h
theorem g_op (h : ta σ H fun x H1 => tb σ H1 fun y H2 => r x y H2 Q) : tOp r ta tb σ H Q := h
theorem g_un {r : V → Hp → VK → Prop} (h : ta σ H fun x H1 => r x H1 Q) : tUn r ta σ H Q := h
theorem g_I0 {g : Int → Int → V} {i j : Int} (h : Q (g i j) H) : rI0 g (.int i) (.int j) H Q := ⟨i, j, rfl, rfl, h⟩
theorem g_I {C : Int → Int → Prop} {g : Int → Int → V} {i j : Int} (c : C i j) (h : Q (g i j) H) : rI C g (.int i) (.int j) H Q := ⟨i, j, rfl, rfl, c, h⟩
theorem g_U {g : Int → V} {i : Int} (h : Q (g i) H) : rU g (.int i) H Q := ⟨i, rfl, h⟩
theorem g_mulL {i j : Int} (c : -(2 ^ 64) < i ∧ i < 2 ^ 64) (h : Q (.int (i * j)) H) : mMul (.int i) (.int j) H Q := ⟨i, j, rfl, rfl, .inl c, h⟩
theorem g_mulR {i j : Int} (c : -(2 ^ 64) < j ∧ j < 2 ^ 64) (h : Q (.int (i * j)) H) : mMul (.int i) (.int j) H Q := ⟨i, j, rfl, rfl, .inr c, h⟩
theorem g_eqI {i j : Int} (h : Q (.bl (decide (i = j))) H) : rEq (.int i) (.int j) H Q :=
  ⟨rfl, by rw [show decide (V.int i = V.int j) = decide (i = j) from decide_eq_decide.mpr ⟨fun e => V.int.inj e, fun e => e ▸ rfl⟩]; exact h⟩
theorem g_neI {i j : Int} (h : Q (.bl (!decide (i = j))) H) : rNe (.int i) (.int j) H Q :=
  ⟨rfl, by rw [show decide (V.int i = V.int j) = decide (i = j) from decide_eq_decide.mpr ⟨fun e => V.int.inj e, fun e => e ▸ rfl⟩]; exact h⟩
theorem g_eqB {i j : Bool} (h : Q (.bl (decide (i = j))) H) : rEq (.bl i) (.bl j) H Q :=
  ⟨rfl, by rw [show decide (V.bl i = V.bl j) = decide (i = j) from decide_eq_decide.mpr ⟨fun e => V.bl.inj e, fun e => e ▸ rfl⟩]; exact h⟩
theorem g_neB {i j : Bool} (h : Q (.bl (!decide (i = j))) H) : rNe (.bl i) (.bl j) H Q :=
  ⟨rfl, by rw [show decide (V.bl i = V.bl j) = decide (i = j) from decide_eq_decide.mpr ⟨fun e => V.bl.inj e, fun e => e ▸ rfl⟩]; exact h⟩
theorem g_eqS {i j : Str} (h : Q (.bl (decide (i = j))) H) : rEq (.str i) (.str j) H Q :=
  ⟨rfl, by rw [show decide (V.str i = V.str j) = decide (i = j) from decide_eq_decide.mpr ⟨fun e => V.str.inj e, fun e => e ▸ rfl⟩]; exact h⟩
theorem g_neS {i j : Str} (h : Q (.bl (!decide (i = j))) H) : rNe (.str i) (.str j) H Q :=
  ⟨rfl, by rw [show decide (V.str i = V.str j) = decide (i = j) from decide_eq_decide.mpr ⟨fun e => V.str.inj e, fun e => e ▸ rfl⟩]; exact h⟩
theorem g_tB {te : TE} {R : Bool → Hp → Prop} (h : te σ H fun x H1 => ∃ c, x = .bl c ∧ R c H1) : tB te σ H R := h
theorem g_tTest {te : TE} {R : Bool → Hp → Prop} (h : te σ H fun x H1 => ∃ c, x = .bl c ∧ R c H1) : tTest te σ H R := h
theorem g_bl {c : Bool} {R : Bool → Hp → Prop} (h : R c H) : ∃ k, V.bl c = .bl k ∧ R k H := ⟨c, rfl, h⟩
theorem g_and {R : Bool → Hp → Prop} (h : tt σ H fun c H1 => if c = true then tu σ H1 R else R false H1) : tAnd tt tu σ H R := h
theorem g_or {R : Bool → Hp → Prop} (h : tt σ H fun c H1 => if c = true then R true H1 else tu σ H1 R) : tOr tt tu σ H R := h
theorem g_not {R : Bool → Hp → Prop} (h : tt σ H fun c H1 => R (!c) H1) : tNot tt σ H R := h
theorem g_andV (h : ta σ H fun x H1 => ∃ c, x = .bl c ∧ if c = true then tb σ H1 Q else Q (.bl false) H1) : tAndV ta tb σ H Q := h
theorem g_orV (h : ta σ H fun x H1 => ∃ c, x = .bl c ∧ if c = true then Q (.bl true) H1 else tb σ H1 Q) : tOrV ta tb σ H Q := h
theorem g_notV (h : ta σ H fun x H1 => ∃ c, x = .bl c ∧ Q (.bl (!c)) H1) : tNotV ta σ H Q := h
theorem g_blV {c : Bool} {R : Bool → Prop} (h : R c) : ∃ k, V.bl c = .bl k ∧ R k := ⟨c, rfl, h⟩
theorem g_ifE (h : tt σ H fun c H1 => if c = true then ta σ H1 Q else tb σ H1 Q) : tIf tt ta tb σ H Q := h
theorem g_ifS (h : tt σ H fun c H1 => if c = true then t D σ H1 else u D σ H1) : tIfS tt t u D σ H := h
theorem g_next (h : D.nx σ H) : tNext D σ H := h
theorem g_ret (h : te σ H D.rt) : tRet te D σ H := h
theorem g_retN (h : D.rt .non H) : tRetN D σ H := h
theorem g_drop (h : te σ H fun _ H1 => D.nx σ H1) : tDrop te D σ H := h
theorem g_raise {E : XK} {C : Addr} (h : E (.ref C) none H) : tRaise E C D σ H := h
theorem g_nil {R : List V → Hp → Prop} (h : R [] H) : tNil σ H R := h
theorem g_cons {tr : TA} {R : List V → Hp → Prop} (h : te σ H fun x H1 => tr σ H1 fun xs H2 => R (x :: xs) H2) : tCons te tr σ H R := h
theorem g_cb {r : List V → Hp → VK → Prop} {ta : TA} (h : ta σ H fun vs H1 => r vs H1 Q) : tCB r ta σ H Q := h
theorem g_call {sp : Sp} {E : XK} {ta : TA} (h : ta σ H fun vs H1 => sp vs H1 Q E) : tCall sp [] E ta σ H Q := by
  show ta σ H fun vs H1 => sp (vs ++ []) H1 Q E
  have e : (fun (vs : List V) H1 => sp (vs ++ []) H1 Q E) = fun vs H1 => sp vs H1 Q E := by
    funext vs H1
    rw [List.append_nil]
  rw [e]
  exact h
theorem g_len {p : Addr} {xs : List V} (s : SqL K H p xs) (h : Q (.int xs.length) H) : mLen K [.ref p] H Q := ⟨p, xs, rfl, .inl s, h⟩
theorem g_lenI {p : Addr} {ns : List Int} (s : SqL K H p (ns.map V.int)) (h : Q (.int ns.length) H) : mLen K [.ref p] H Q := ⟨p, _, rfl, .inl s, by rw [List.length_map]; exact h⟩
theorem g_lenB {p : Addr} {ns : List Bool} (s : SqL K H p (ns.map V.bl)) (h : Q (.int ns.length) H) : mLen K [.ref p] H Q := ⟨p, _, rfl, .inl s, by rw [List.length_map]; exact h⟩
theorem g_ixI {p : Addr} {ns : List Int} {i : Int} (s : SqL K H p (ns.map V.int)) (h0 : 0 ≤ i) (h1 : i < ns.length) (h : Q (.int (ns.getD i.toNat 0)) H) : rIxL K (.ref p) (.int i) H Q :=
  ⟨p, _, i, _, rfl, rfl, s, atI_int h0 h1, h⟩
theorem g_ixB {p : Addr} {bs : List Bool} {i : Int} (s : SqL K H p (bs.map V.bl)) (h0 : 0 ≤ i) (h1 : i < bs.length) (h : Q (.bl (bs.getD i.toNat false)) H) : rIxL K (.ref p) (.int i) H Q :=
  ⟨p, _, i, _, rfl, rfl, s, atI_bl h0 h1, h⟩
theorem g_lst {ta : TA} (h : ta σ H fun xs H1 => xs.length ≤ sizeLine ∧ ∀ p, H1 p = none → Q (.ref p) (upd H1 p (.lst xs))) : tLst ta σ H Q := h
theorem g_sum {p : Addr} {ns : List Int} (s : SqL K H p (ns.map V.int)) (h : Q (.int ns.sum) H) : rSum K [.ref p] H Q := ⟨p, ns, rfl, s, h⟩
theorem g_fld {a C dx : Addr} {fs : List (Str × V)} {v : V} {f : Str} (e : H a = some (.ins C dx fs)) (c : Cls K C) (n : NoAttr K C f) (l : fs.lookup f = some v) (h : Q v H) :
    ∃ a' C' dx' fs' v', V.ref a = .ref a' ∧ H a' = some (.ins C' dx' fs') ∧ Cls K C' ∧ NoAttr K C' f ∧ fs'.lookup f = some v' ∧ Q v' H := ⟨a, C, dx, fs, v, rfl, e, c, n, l, h⟩
theorem g_tFld {f : Str} (h : ta σ H fun x H1 => ∃ a C dx fs v, x = .ref a ∧ H1 a = some (.ins C dx fs) ∧ Cls K C ∧ NoAttr K C f ∧ fs.lookup f = some v ∧ Q v H1) : tFld K ta f σ H Q := h
theorem g_mod {i j : Int} (c : 0 < j) (h : Q (.int (i % j)) H) : mMod (.int i) (.int j) H Q := ⟨i, j, rfl, rfl, c, h⟩
theorem g_fdiv {i j : Int} (c : 0 < j) (c2 : j < 1073741824) (h : Q (.int (i / j)) H) : mFdiv (.int i) (.int j) H Q := ⟨i, j, rfl, rfl, ⟨c, c2⟩, h⟩
theorem ifPt {p : Prop} [Decidable p] {A B : Prop} (hp : p) (h : A) : if decide p = true then A else B := by
  rw [if_pos (decide_eq_true hp)]
  exact h
theorem ifPf {p : Prop} [Decidable p] {A B : Prop} (hp : ¬ p) (h : B) : if decide p = true then A else B := by
  rw [if_neg (by simp [hp])]
  exact h
theorem ifNt {p : Prop} [Decidable p] {A B : Prop} (hp : ¬ p) (h : A) : if (!decide p) = true then A else B := by
  rw [if_pos (by simp [hp])]
  exact h
theorem ifNf {p : Prop} [Decidable p] {A B : Prop} (hp : p) (h : B) : if (!decide p) = true then A else B := by
  rw [if_neg (by simp [hp])]
  exact h
theorem ifP {p : Prop} [Decidable p] {A B : Prop} (h1 : p → A) (h2 : ¬ p → B) : if decide p = true then A else B := by
  by_cases h : p
  · rw [if_pos (decide_eq_true h)]
    exact h1 h
  · rw [if_neg (by simp [h])]
    exact h2 h
theorem ifN {p : Prop} [Decidable p] {A B : Prop} (h1 : ¬ p → A) (h2 : p → B) : if (!decide p) = true then A else B := by
  by_cases h : p
  · rw [if_neg (by simp [h])]
    exact h2 h
  · rw [if_pos (by simp [h])]
    exact h1 h
theorem ifC {c : Bool} {A B : Prop} (h1 : c = true → A) (h2 : c = false → B) : if c = true then A else B := by
  cases c with
  | true => exact iteT (h1 rfl)
  | false => exact iteF (h2 rfl)
end

/-! ### the class Board -/
structure BdOk (K : PySem.W.Frag) (G : Ads) : Prop where
  cl : Cls K G.Board
  n_rows : NoAttr K G.Board "rows"
  n_turns : NoAttr K G.Board "turns"
  n_loads : NoAttr K G.Board "loads"
  n_steps : NoAttr K G.Board "steps"
  n_taken : NoAttr K G.Board "taken"

/-! ### the law's own promise -/
def spLaw (K : PySem.W.Frag) : Sp := fun vs H Q _ => ∃ (a : Addr) (ns : List Int), vs = [.ref a] ∧ SqL K H a (ns.map V.int) ∧ ns.length ≤ 63 ∧ ∀ H', Q (.bl true) H'
theorem lenLaw {K : PySem.W.Frag} {vs H Q E} (h : spLaw K vs H Q E) : vs.length = 1 := by
  obtain ⟨a, ns, rfl, _⟩ := h
  rfl


/-! Rows, boards in the heap and in the ledger -/
/-- rows that came new -/
def NewRows (H H' : Hp) (q : Addr) (rows : List (List Int)) : Prop := ∃ as : List Addr, H' q = some (.lst (as.map V.ref)) ∧ H q = none ∧ as.length = rows.length ∧
  ∀ (i : Nat) (r : Addr) (row : List Int), as[i]? = some r → rows[i]? = some row → H' r = some (ilst row) ∧ H r = none
theorem NewRows.at_ {H H' : Hp} {q : Addr} {rows : List (List Int)} (h : NewRows H H' q rows) : RowsAt H' q rows := by
  obtain ⟨as, h1, _, h2, h3⟩ := h
  exact ⟨as, h1, h2, fun i r row e1 e2 => (h3 i r row e1 e2).1⟩
theorem NewRows.mono {H H1 H2 : Hp} {q : Addr} {rows : List (List Int)} (h : NewRows H H1 q rows) (s : Same H1 H2) : NewRows H H2 q rows := by
  obtain ⟨as, h1, h0, h2, h3⟩ := h
  exact ⟨as, s _ _ h1, h0, h2, fun i r row e1 e2 => ⟨s _ _ (h3 i r row e1 e2).1, (h3 i r row e1 e2).2⟩⟩
theorem NewRows.back {H0 H H1 : Hp} {q : Addr} {rows : List (List Int)} (h : NewRows H H1 q rows) (s : Same H0 H) : NewRows H0 H1 q rows := by
  obtain ⟨as, h1, h0, h2, h3⟩ := h
  exact ⟨as, h1, s.free h0, h2, fun i r row e1 e2 => ⟨(h3 i r row e1 e2).1, s.free (h3 i r row e1 e2).2⟩⟩
theorem Led.rows {B H H' : Hp} {L : List (Addr × HO)} {q : Addr} {rows : List (List Int)} (h : Led B L H) (s : Same H H') (n : NewRows H H' q rows) : ∃ B', Same B B' ∧ NewRows H B' q rows ∧ Led B' L H' := by
  obtain ⟨B', s1, l1, k1⟩ := (h.ext s).rebase
  obtain ⟨as, h1, h0, h2, h3⟩ := n
  exact ⟨B', s1, ⟨as, k1 _ _ h1 (h.out h0), h0, h2, fun i r row e1 e2 => ⟨k1 _ _ (h3 i r row e1 e2).1 (h.out (h3 i r row e1 e2).2), (h3 i r row e1 e2).2⟩⟩, l1⟩
/-- an item of rows read -/
theorem g_row {K : PySem.W.Frag} {H : Hp} {Q : VK} {p : Addr} {rows : List (List Int)} {i : Int} (R : RowsAt H p rows) (h0 : 0 ≤ i) (h1 : i < rows.length) (h : ∀ r, SqL K H r ((rows.getD i.toNat []).map V.int) → Q (.ref r) H) : rIxL K (.ref p) (.int i) H Q := by
  obtain ⟨as, e1, e2, e3⟩ := R
  have hl : i.toNat < rows.length := by omega
  have ha : i.toNat < as.length := by omega
  refine ⟨p, _, i, .ref as[i.toNat], rfl, rfl, SqL.of e1, at_of (j := i.toNat) (by omega) ?_, h _ (SqL.of ?_)⟩
  · rw [List.getElem?_map, List.getElem?_eq_getElem ha]
    rfl
  · have q := e3 i.toNat as[i.toNat] rows[i.toNat] (List.getElem?_eq_getElem ha) (List.getElem?_eq_getElem hl)
    rw [List.getD_eq_getElem?_getD, List.getElem?_eq_getElem hl]
    exact q
theorem g_rowL {K : PySem.W.Frag} {H : Hp} {Q : VK} {p : Addr} {rows : List (List Int)} {i : Int} (R : RowsAt H p rows) (h0 : 0 ≤ i) (h1 : i < rows.length) (h : ∀ r, H r = some (ilst (rows.getD i.toNat [])) → Q (.ref r) H) : rIxL K (.ref p) (.int i) H Q := by
  obtain ⟨as, e1, e2, e3⟩ := R
  have hl : i.toNat < rows.length := by omega
  have ha : i.toNat < as.length := by omega
  refine ⟨p, _, i, .ref as[i.toNat], rfl, rfl, SqL.of e1, at_of (j := i.toNat) (by omega) ?_, h _ ?_⟩
  · rw [List.getElem?_map, List.getElem?_eq_getElem ha]
    rfl
  · have q := e3 i.toNat as[i.toNat] rows[i.toNat] (List.getElem?_eq_getElem ha) (List.getElem?_eq_getElem hl)
    rw [List.getD_eq_getElem?_getD, List.getElem?_eq_getElem hl]
    exact q
theorem g_lenR {K : PySem.W.Frag} {H : Hp} {Q : VK} {p : Addr} {rows : List (List Int)} (R : RowsAt H p rows) (h : Q (.int rows.length) H) : mLen K [.ref p] H Q := by
  obtain ⟨as, e1, e2, _⟩ := R
  exact ⟨p, _, rfl, .inl (SqL.of e1), by rw [List.length_map, e2]; exact h⟩
theorem Led.ra {B H : Hp} {L : List (Addr × HO)} {p : Addr} {rows : List (List Int)} (h : Led B L H) (r : RowsAt B p rows) : RowsAt H p rows := r.mono h.same

/-! ### rows that make a board -/
def OkRow (n : Nat) (row : List Int) : Prop := 1 ≤ row.length ∧ row.length ≤ 8 ∧ ∀ g, g ∈ row → -1 ≤ g ∧ g < n
def OkRows (rows : List (List Int)) : Prop := 1 ≤ rows.length ∧ rows.length ≤ 12 ∧ ∀ row, row ∈ rows → OkRow rows.length row
def TurnsOk (rows : List (List Int)) (turns : List Int) : Prop := turns.length = rows.length ∧ ∀ k : Nat, k < rows.length → 0 ≤ turns.getD k 0 ∧ turns.getD k 0 < (rows.getD k []).length
theorem getD_mem {α : Type} {l : List α} {k : Nat} {d : α} (h : k < l.length) : l.getD k d ∈ l := by
  rw [List.getD_eq_getElem?_getD, List.getElem?_eq_getElem h]
  exact List.getElem_mem h
theorem OkRows.row {rows : List (List Int)} (h : OkRows rows) {k : Nat} (hk : k < rows.length) : OkRow rows.length (rows.getD k []) := h.2.2 _ (getD_mem hk)
theorem OkRows.exit {rows : List (List Int)} (h : OkRows rows) {k j : Nat} (hk : k < rows.length) (hj : j < (rows.getD k []).length) : -1 ≤ (rows.getD k []).getD j 0 ∧ (rows.getD k []).getD j 0 < rows.length := (h.row hk).2.2 _ (getD_mem hj)
theorem getD_set {α : Type} {l : List α} {i j : Nat} {x d : α} (h : i < l.length) : (l.set i x).getD j d = if i = j then x else l.getD j d := by
  rw [List.getD_eq_getElem?_getD, List.getD_eq_getElem?_getD]
  by_cases e : i = j
  · subst e
    rw [if_pos rfl, List.getElem?_set_self h]
    rfl
  · rw [if_neg e, List.getElem?_set_ne e]

/-! ### a board's fields -/
def bf (r t l s : Addr) (n : Int) : List (Str × V) := [("rows", .ref r), ("turns", .ref t), ("loads", .ref l), ("steps", .ref s), ("taken", .int n)]
section
variable {r t l s t' l' s' : Addr} {n n' : Int}
theorem st12 : (("turns" : Str) == ("rows" : Str)) = false := by decide +kernel
theorem st13 : (("loads" : Str) == ("rows" : Str)) = false := by decide +kernel
theorem st14 : (("steps" : Str) == ("rows" : Str)) = false := by decide +kernel
theorem st15 : (("taken" : Str) == ("rows" : Str)) = false := by decide +kernel
theorem st23 : (("loads" : Str) == ("turns" : Str)) = false := by decide +kernel
theorem st24 : (("steps" : Str) == ("turns" : Str)) = false := by decide +kernel
theorem st25 : (("taken" : Str) == ("turns" : Str)) = false := by decide +kernel
theorem st34 : (("steps" : Str) == ("loads" : Str)) = false := by decide +kernel
theorem st35 : (("taken" : Str) == ("loads" : Str)) = false := by decide +kernel
theorem st45 : (("taken" : Str) == ("steps" : Str)) = false := by decide +kernel
theorem bf_rows : (bf r t l s n).lookup ("rows" : Str) = some (.ref r) := by simp only [bf, List.lookup, beq_self_eq_true]
theorem bf_turns : (bf r t l s n).lookup ("turns" : Str) = some (.ref t) := by simp only [bf, List.lookup, st12, beq_self_eq_true]
theorem bf_loads : (bf r t l s n).lookup ("loads" : Str) = some (.ref l) := by simp only [bf, List.lookup, st13, st23, beq_self_eq_true]
theorem bf_steps : (bf r t l s n).lookup ("steps" : Str) = some (.ref s) := by simp only [bf, List.lookup, st14, st24, st34, beq_self_eq_true]
theorem bf_taken : (bf r t l s n).lookup ("taken" : Str) = some (.int n) := by simp only [bf, List.lookup, st15, st25, st35, st45, beq_self_eq_true]
theorem sn12 : ¬ (("rows" : Str) = ("turns" : Str)) := by decide +kernel
theorem sn13 : ¬ (("rows" : Str) = ("loads" : Str)) := by decide +kernel
theorem sn14 : ¬ (("rows" : Str) = ("steps" : Str)) := by decide +kernel
theorem sn15 : ¬ (("rows" : Str) = ("taken" : Str)) := by decide +kernel
theorem sn23 : ¬ (("turns" : Str) = ("loads" : Str)) := by decide +kernel
theorem sn24 : ¬ (("turns" : Str) = ("steps" : Str)) := by decide +kernel
theorem sn25 : ¬ (("turns" : Str) = ("taken" : Str)) := by decide +kernel
theorem sn34 : ¬ (("loads" : Str) = ("steps" : Str)) := by decide +kernel
theorem sn35 : ¬ (("loads" : Str) = ("taken" : Str)) := by decide +kernel
theorem sn45 : ¬ (("steps" : Str) = ("taken" : Str)) := by decide +kernel
theorem bf_pturns : putF ("turns" : Str) (.ref t') (bf r t l s n) = bf r t' l s n := by simp only [bf, putF, sn12, if_false, if_true]
theorem bf_ploads : putF ("loads" : Str) (.ref l') (bf r t l s n) = bf r t l' s n := by simp only [bf, putF, sn13, sn23, if_false, if_true]
theorem bf_psteps : putF ("steps" : Str) (.ref s') (bf r t l s n) = bf r t l s' n := by simp only [bf, putF, sn14, sn24, sn34, if_false, if_true]
theorem bf_ptaken : putF ("taken" : Str) (.int n') (bf r t l s n) = bf r t l s n' := by simp only [bf, putF, sn15, sn25, sn35, sn45, if_false, if_true]
theorem bf_made : putF ("taken" : Str) (.int n) (putF ("steps" : Str) (.ref s) (putF ("loads" : Str) (.ref l) (putF ("turns" : Str) (.ref t) (putF ("rows" : Str) (.ref r) [])))) = bf r t l s n := by
  simp only [bf, putF, sn12, sn13, sn14, sn15, sn23, sn24, sn25, sn34, sn35, sn45, if_false]
theorem bf_len : (bf r t l s n).length < 1000 := by show 5 < 1000; decide
theorem bf_none {m : Str} (h1 : ¬ m = ("rows" : Str)) (h2 : ¬ m = ("turns" : Str)) (h3 : ¬ m = ("loads" : Str)) (h4 : ¬ m = ("steps" : Str)) (h5 : ¬ m = ("taken" : Str)) : (bf r t l s n).lookup m = none := by
  have e1 : (m == ("rows" : Str)) = false := by simpa using h1
  have e2 : (m == ("turns" : Str)) = false := by simpa using h2
  have e3 : (m == ("loads" : Str)) = false := by simpa using h3
  have e4 : (m == ("steps" : Str)) = false := by simpa using h4
  have e5 : (m == ("taken" : Str)) = false := by simpa using h5
  simp only [bf, List.lookup, e1, e2, e3, e4, e5]
theorem bm_has_site : (bf r t l s n).lookup ("has_site" : Str) = none := bf_none (by decide +kernel) (by decide +kernel) (by decide +kernel) (by decide +kernel) (by decide +kernel)
theorem bm_turn_to : (bf r t l s n).lookup ("turn_to" : Str) = none := bf_none (by decide +kernel) (by decide +kernel) (by decide +kernel) (by decide +kernel) (by decide +kernel)
theorem bm_load : (bf r t l s n).lookup ("load" : Str) = none := bf_none (by decide +kernel) (by decide +kernel) (by decide +kernel) (by decide +kernel) (by decide +kernel)
theorem bm_become : (bf r t l s n).lookup ("become" : Str) = none := bf_none (by decide +kernel) (by decide +kernel) (by decide +kernel) (by decide +kernel) (by decide +kernel)
theorem bm_twin : (bf r t l s n).lookup ("twin" : Str) = none := bf_none (by decide +kernel) (by decide +kernel) (by decide +kernel) (by decide +kernel) (by decide +kernel)
end
/-- a board as it stands in a heap -/
structure BdAt (C : Addr) (H : Hp) (b dx r t l s : Addr) (rows : List (List Int)) (turns loads steps : List Int) (taken : Int) : Prop where
  ins : H b = some (.ins C dx (bf r t l s taken))
  rws : RowsAt H r rows
  tns : H t = some (ilst turns)
  lds : H l = some (ilst loads)
  sts : H s = some (ilst steps)
theorem BdAt.mono {C : Addr} {H H' : Hp} {b dx r t l s : Addr} {rows : List (List Int)} {turns loads steps : List Int} {taken : Int} (h : BdAt C H b dx r t l s rows turns loads steps taken) (q : Same H H') : BdAt C H' b dx r t l s rows turns loads steps taken :=
  ⟨q _ _ h.ins, h.rws.mono q, q _ _ h.tns, q _ _ h.lds, q _ _ h.sts⟩
/-- a board in the ledger, from place i on -/
structure LB (C : Addr) (B : Hp) (L : List (Addr × HO)) (i : Nat) (b dx r t l s : Addr) (rows : List (List Int)) (turns loads steps : List Int) (taken : Int) : Prop where
  ins : L[i]? = some (b, .ins C dx (bf r t l s taken))
  tns : L[i + 1]? = some (t, ilst turns)
  lds : L[i + 2]? = some (l, ilst loads)
  sts : L[i + 3]? = some (s, ilst steps)
  rws : RowsAt B r rows
theorem Led.bd {C : Addr} {B H : Hp} {L : List (Addr × HO)} {i : Nat} {b dx r t l s : Addr} {rows : List (List Int)} {turns loads steps : List Int} {taken : Int} (h : Led B L H) (x : LB C B L i b dx r t l s rows turns loads steps taken) : BdAt C H b dx r t l s rows turns loads steps taken :=
  ⟨h.get _ x.ins, h.ra x.rws, h.get _ x.tns, h.get _ x.lds, h.get _ x.sts⟩
abbrev bl (C : Addr) (b dx r t l s : Addr) (turns loads steps : List Int) (taken : Int) : List (Addr × HO) := [(b, .ins C dx (bf r t l s taken)), (t, ilst turns), (l, ilst loads), (s, ilst steps)]
/-- two ledgers become one -/
theorem Led.merge {B H B1 H' : Hp} {L M : List (Addr × HO)} (h : Led B L H) (s1 : Same H B1) (l1 : Led B1 M H') : ∃ B', Same B B' ∧ Led B' (L ++ M) H' ∧ ∀ q o, B1 q = some o → H q = none → B' q = some o := by
  classical
  have hb : ∀ p, p ∈ L.map Prod.fst → ∃ o, B1 p = some o := fun p m => by
    obtain ⟨o, e⟩ := h.keys m
    exact ⟨o, s1 _ _ e⟩
  refine ⟨fun a => if a ∈ L.map Prod.fst then none else B1 a, fun q o e => ?_, ⟨fun q o e => ?_, fun i p o e => ?_, ?_, fun p z => ?_⟩, fun q o e n => ?_⟩
  · have z : q ∉ L.map Prod.fst := fun m => by
      rw [h.new q m] at e
      cases e
    show (if q ∈ L.map Prod.fst then none else B1 q) = some o
    rw [if_neg z]
    exact s1 _ _ (h.same _ _ e)
  · by_cases z : q ∈ L.map Prod.fst
    · rw [show (if q ∈ L.map Prod.fst then none else B1 q) = none from if_pos z] at e
      cases e
    · rw [show (if q ∈ L.map Prod.fst then none else B1 q) = B1 q from if_neg z] at e
      exact l1.same _ _ e
  · rcases List.mem_append.mp (List.mem_of_getElem? e) with hm | hm
    · exact l1.same _ _ (s1 _ _ (h.mem hm))
    · exact l1.mem hm
  · rw [List.map_append, List.nodup_append]
    refine ⟨h.nd, l1.nd, fun a ha b hb2 e => ?_⟩
    subst e
    obtain ⟨o, q⟩ := hb a ha
    rw [l1.new a hb2] at q
    cases q
  · show (if p ∈ L.map Prod.fst then none else B1 p) = none
    by_cases y : p ∈ L.map Prod.fst
    · exact if_pos y
    · rw [if_neg y]
      rw [List.map_append] at z
      rcases List.mem_append.mp z with z | z
      · exact (y z).elim
      · exact l1.new p z
  · show (if q ∈ L.map Prod.fst then none else B1 q) = some o
    rw [if_neg (h.out n)]
    exact e
/-- a new board -/
def NewB (C : Addr) (H H' : Hp) (b dx r t l s : Addr) (rows : List (List Int)) (turns loads steps : List Int) (taken : Int) : Prop := ∃ B1, Same H B1 ∧ NewRows H B1 r rows ∧ Led B1 (bl C b dx r t l s turns loads steps taken) H'
theorem Led.board {C : Addr} {B H H' : Hp} {L : List (Addr × HO)} {b dx r t l s : Addr} {rows : List (List Int)} {turns loads steps : List Int} {taken : Int} (h : Led B L H) (n : NewB C H H' b dx r t l s rows turns loads steps taken) :
    ∃ B', Same B B' ∧ RowsAt B' r rows ∧ Led B' (L ++ bl C b dx r t l s turns loads steps taken) H' := by
  obtain ⟨B1, s1, ⟨as, e1, e0, e2, e3⟩, l1⟩ := n
  obtain ⟨B', sB, lB, k⟩ := h.merge s1 l1
  exact ⟨B', sB, ⟨as, k _ _ e1 e0, e2, fun i a row h1 h2 => k _ _ (e3 i a row h1 h2).1 (e3 i a row h1 h2).2⟩, lB⟩
theorem NewB.same {C : Addr} {H H' : Hp} {b dx r t l s : Addr} {rows : List (List Int)} {turns loads steps : List Int} {taken : Int} (n : NewB C H H' b dx r t l s rows turns loads steps taken) : Same H H' := by
  obtain ⟨B1, s1, _, l1⟩ := n
  exact s1.trans l1.same
theorem NewB.at_ {C : Addr} {H H' : Hp} {b dx r t l s : Addr} {rows : List (List Int)} {turns loads steps : List Int} {taken : Int} (n : NewB C H H' b dx r t l s rows turns loads steps taken) : BdAt C H' b dx r t l s rows turns loads steps taken := by
  obtain ⟨B1, s1, n1, l1⟩ := n
  exact ⟨l1.get 0 rfl, n1.at_.mono l1.same, l1.get 1 rfl, l1.get 2 rfl, l1.get 3 rfl⟩
def setB (L : List (Addr × HO)) (C : Addr) (i : Nat) (b dx r t l s : Addr) (turns loads steps : List Int) (taken : Int) : List (Addr × HO) :=
  (((L.set i (b, .ins C dx (bf r t l s taken))).set (i + 1) (t, ilst turns)).set (i + 2) (l, ilst loads)).set (i + 3) (s, ilst steps)
theorem nodup_of_ix {α : Type} {l : List α} (h : ∀ (i j : Nat) (x : α), l[i]? = some x → l[j]? = some x → i = j) : l.Nodup := by
  refine List.pairwise_iff_getElem.mpr fun i j hi hj ij e => ?_
  have := h i j l[i] (List.getElem?_eq_getElem hi) (by rw [List.getElem?_eq_getElem hj, e])
  omega
theorem setB_get {L : List (Addr × HO)} {C : Addr} {i : Nat} {b dx r t l s : Addr} {turns loads steps : List Int} {taken : Int} {j : Nat} {p : Addr} {o : HO} (h : (setB L C i b dx r t l s turns loads steps taken)[j]? = some (p, o)) :
    (∃ k, k < 4 ∧ j = i + k ∧ (bl C b dx r t l s turns loads steps taken)[k]? = some (p, o)) ∨ (L[j]? = some (p, o) ∧ ∀ k, k < 4 → j ≠ i + k) := by
  unfold setB at h
  by_cases e3 : i + 3 = j
  · subst e3
    refine .inl ⟨3, by omega, rfl, ?_⟩
    by_cases hl : i + 3 < (((L.set i (b, .ins C dx (bf r t l s taken))).set (i + 1) (t, ilst turns)).set (i + 2) (l, ilst loads)).length
    · rw [List.getElem?_set_self hl] at h
      exact h
    · rw [List.getElem?_eq_none (by rw [List.length_set]; omega)] at h
      cases h
  rw [List.getElem?_set_ne e3] at h
  by_cases e2 : i + 2 = j
  · subst e2
    refine .inl ⟨2, by omega, rfl, ?_⟩
    by_cases hl : i + 2 < ((L.set i (b, .ins C dx (bf r t l s taken))).set (i + 1) (t, ilst turns)).length
    · rw [List.getElem?_set_self hl] at h
      exact h
    · rw [List.getElem?_eq_none (by rw [List.length_set]; omega)] at h
      cases h
  rw [List.getElem?_set_ne e2] at h
  by_cases e1 : i + 1 = j
  · subst e1
    refine .inl ⟨1, by omega, rfl, ?_⟩
    by_cases hl : i + 1 < (L.set i (b, .ins C dx (bf r t l s taken))).length
    · rw [List.getElem?_set_self hl] at h
      exact h
    · rw [List.getElem?_eq_none (by rw [List.length_set]; omega)] at h
      cases h
  rw [List.getElem?_set_ne e1] at h
  by_cases e0 : i = j
  · subst e0
    refine .inl ⟨0, by omega, rfl, ?_⟩
    by_cases hl : i < L.length
    · rw [List.getElem?_set_self hl] at h
      exact h
    · rw [List.getElem?_eq_none (by rw [List.length_set]; omega)] at h
      cases h
  rw [List.getElem?_set_ne e0] at h
  exact .inr ⟨h, fun k hk => by omega⟩
/-- one board of a ledger by itself: what is done to it is done in the ledger -/
theorem Led.focus {C : Addr} {B H : Hp} {L : List (Addr × HO)} {i : Nat} {b dx r t l s : Addr} {rows : List (List Int)} {turns loads steps : List Int} {taken : Int} (h : Led B L H) (x : LB C B L i b dx r t l s rows turns loads steps taken) :
    ∃ B', Same B B' ∧ RowsAt B' r rows ∧ Led B' (bl C b dx r t l s turns loads steps taken) H ∧ (∀ p o, H p = some o → p ≠ b → p ≠ t → p ≠ l → p ≠ s → B' p = some o) ∧
      ∀ (t' l' s' : Addr) (turns' loads' steps' : List Int) (taken' : Int) (H' : Hp), Led B' (bl C b dx r t' l' s' turns' loads' steps' taken') H' → Led B (setB L C i b dx r t' l' s' turns' loads' steps' taken') H' := by
  have kx : ∀ (k : Nat) (p : Addr) (o : HO), (bl C b dx r t l s turns loads steps taken)[k]? = some (p, o) → L[i + k]? = some (p, o) := fun k p o e => by
    match k, e with
    | 0, e => cases e; exact x.ins
    | 1, e => cases e; exact x.tns
    | 2, e => cases e; exact x.lds
    | 3, e => cases e; exact x.sts
    | (n + 4), e => simp at e
  have kl : ∀ {j : Nat} {p : Addr} {o : HO}, L[j]? = some (p, o) → (L.map Prod.fst)[j]? = some p := fun e => by rw [List.getElem?_map, e]; rfl
  have l0 : Led B (bl C b dx r t l s turns loads steps taken) H := by
    refine ⟨h.same, fun k p o e => h.get _ (kx k p o e), nodup_of_ix fun j k p e1 e2 => ?_, fun p hp => ?_⟩
    · rw [List.getElem?_map] at e1 e2
      cases q1 : (bl C b dx r t l s turns loads steps taken)[j]? with
      | none => rw [q1] at e1; cases e1
      | some y1 =>
        cases q2 : (bl C b dx r t l s turns loads steps taken)[k]? with
        | none => rw [q2] at e2; cases e2
        | some y2 =>
          obtain ⟨p1, o1⟩ := y1
          obtain ⟨p2, o2⟩ := y2
          rw [q1] at e1
          rw [q2] at e2
          cases e1
          cases e2
          have := nd_ix h.nd (kl (kx _ _ _ q1)) (kl (kx _ _ _ q2))
          omega
    · obtain ⟨⟨q, o⟩, hm, rfl⟩ := List.mem_map.mp hp
      obtain ⟨k, hk, e⟩ := List.getElem_of_mem hm
      exact h.new q (key_at (kx k q o (by rw [List.getElem?_eq_getElem hk, e])))
  obtain ⟨B', sB, lB, keep⟩ := l0.rebase
  refine ⟨B', sB, x.rws.mono sB, lB, fun p o e n1 n2 n3 n4 => keep p o e (by simp [n1, n2, n3, n4]), fun t' l' s' turns' loads' steps' taken' H' led => ?_⟩
  -- what stands off the board stands in B'
  have off : ∀ (j : Nat) (p : Addr) (o : HO), L[j]? = some (p, o) → (∀ k, k < 4 → j ≠ i + k) → B' p = some o := fun j p o e n => by
    refine keep p o (h.get _ e) fun hm => ?_
    obtain ⟨⟨q, u⟩, hm', rfl⟩ := List.mem_map.mp hm
    obtain ⟨k, hk, e2⟩ := List.getElem_of_mem hm'
    exact n k hk (nd_ix h.nd (kl e) (kl (kx k q u (by rw [List.getElem?_eq_getElem hk, e2]))))
  refine ⟨sB.trans led.same, fun j p o e => ?_, nodup_of_ix fun j k p e1 e2 => ?_, fun p hp => ?_⟩
  · rcases setB_get e with ⟨k, hk, rfl, e'⟩ | ⟨e', n⟩
    · exact led.get k e'
    · exact led.same _ _ (off j p o e' n)
  · rw [List.getElem?_map] at e1 e2
    cases q1 : (setB L C i b dx r t' l' s' turns' loads' steps' taken')[j]? with
    | none => rw [q1] at e1; cases e1
    | some y1 =>
      cases q2 : (setB L C i b dx r t' l' s' turns' loads' steps' taken')[k]? with
      | none => rw [q2] at e2; cases e2
      | some y2 =>
        obtain ⟨p1, o1⟩ := y1
        obtain ⟨p2, o2⟩ := y2
        rw [q1] at e1
        rw [q2] at e2
        cases e1
        cases e2
        rcases setB_get q1 with ⟨a, ha, rfl, z1⟩ | ⟨z1, n1⟩
        · rcases setB_get q2 with ⟨c, hc, rfl, z2⟩ | ⟨z2, n2⟩
          · have := nd_ix led.nd (i := a) (j := c) (x := p1) (by rw [List.getElem?_map, z1]; rfl) (by rw [List.getElem?_map, z2]; rfl)
            omega
          · have y := off _ _ _ z2 n2
            rw [led.new p1 (key_at z1)] at y
            cases y
        · rcases setB_get q2 with ⟨c, hc, rfl, z2⟩ | ⟨z2, n2⟩
          · have y := off _ _ _ z1 n1
            rw [led.new p1 (key_at z2)] at y
            cases y
          · exact nd_ix h.nd (kl z1) (kl z2)
  · obtain ⟨⟨q, o⟩, hm, rfl⟩ := List.mem_map.mp hp
    obtain ⟨j, hj, e⟩ := List.getElem_of_mem hm
    rcases setB_get (by rw [List.getElem?_eq_getElem hj, e]) with ⟨k, hk, rfl, e'⟩ | ⟨e', n⟩
    · cases z : B q with
      | none => rfl
      | some u =>
        have y := sB _ _ z
        rw [led.new q (key_at e')] at y
        cases y
    · exact h.new q (key_at e')
/-- an object of the ledger replaced by a new one -/
theorem Led.swap {B H H' : Hp} {L : List (Addr × HO)} (h : Led B L H) {i : Nat} {p q : Addr} {o o' : HO} (e : L[i]? = some (p, o)) (n : H q = none) (s : Same H H') (hq : H' q = some o') : Led B (L.set i (q, o')) H' := by
  have hl : i < L.length := (List.getElem?_eq_some_iff.mp e).1
  have hk : ∀ x, x ∈ (L.set i (q, o')).map Prod.fst → x = q ∨ x ∈ L.map Prod.fst := fun x hx => by
    obtain ⟨⟨y, u⟩, hm, rfl⟩ := List.mem_map.mp hx
    rcases List.mem_or_eq_of_mem_set hm with hm | hm
    · exact .inr (List.mem_map.mpr ⟨_, hm, rfl⟩)
    · cases hm
      exact .inl rfl
  refine ⟨h.same.trans s, fun j p2 o2 z => ?_, ?_, fun x hx => ?_⟩
  · by_cases ij : i = j
    · subst ij
      rw [List.getElem?_set_self hl] at z
      cases z
      exact hq
    · rw [List.getElem?_set_ne ij] at z
      exact s _ _ (h.at_ j p2 o2 z)
  · rw [List.map_set]
    have hqn : ∀ (m : Nat) (hm : m < (L.map Prod.fst).length), (L.map Prod.fst)[m] ≠ q := fun m hm z => h.out n (by rw [← z]; exact List.getElem_mem hm)
    refine List.pairwise_iff_getElem.mpr fun j k hj hk2 hjk => ?_
    have hj' : j < (L.map Prod.fst).length := by simpa using hj
    have hk' : k < (L.map Prod.fst).length := by simpa using hk2
    have base := (List.pairwise_iff_getElem.mp h.nd) j k hj' hk' hjk
    rw [List.getElem_set, List.getElem_set]
    split
    · split
      · omega
      · exact (hqn k hk').symm
    · split
      · exact hqn j hj'
      · exact base
  · rcases hk x hx with rfl | hx
    · exact h.same.free n
    · exact h.new x hx

/-! Loops and comprehensions over the ledger -/
section
variable {K : PySem.W.Frag} {σ : L2.St} {H : Hp} {D : Ends} {tb : TS} {i : Nat}
/-- what a for over a range leaves to be shown -/
def LoopR (lo : Int) (n i : Nat) (tb : TS) (D : Ends) (σ : L2.St) (H : Hp) : Prop := ∃ W : Nat → Nat → L2.St → Hp → Prop, (∃ m, W 0 m σ H) ∧ ∀ k m σ H, W k m σ H →
  ((Itr lo n).stop k H ∧ D.nx σ H) ∨ ((Itr lo n).go k H ∧ ∃ N : L2.St → Hp → Prop, (∀ σ' H', N σ' H' → ∃ m', m' < m ∧ W (k + 1) m' σ' H') ∧ ∀ x H', (Itr lo n).yld k H x H' → gName i x σ H' fun σ2 H2 => tb { D with nx := N, ct := N, bk := D.nx } σ2 H2)
def LoopL (K : PySem.W.Frag) (a : Addr) (i : Nat) (tb : TS) (D : Ends) (σ : L2.St) (H : Hp) : Prop := ∃ W : Nat → Nat → L2.St → Hp → Prop, (∃ m, W 0 m σ H) ∧ ∀ k m σ H, W k m σ H →
  ((Itl K a).stop k H ∧ D.nx σ H) ∨ ((Itl K a).go k H ∧ ∃ N : L2.St → Hp → Prop, (∀ σ' H', N σ' H' → ∃ m', m' < m ∧ W (k + 1) m' σ' H') ∧ ∀ x H', (Itl K a).yld k H x H' → gName i x σ H' fun σ2 H2 => tb { D with nx := N, ct := N, bk := D.nx } σ2 H2)
theorem g_for1 {ta : TA} (h : ta σ H fun vs H1 => ∃ j : Int, vs = [.int j] ∧ -(2 ^ 62) ≤ j ∧ j < 2 ^ 62 ∧ LoopR 0 j.toNat i tb D σ H1) : tFor (iRng1 ta) (gName i) tb D σ H := h
theorem g_for2 {ta : TA} (h : ta σ H fun vs H1 => ∃ j k : Int, vs = [.int j, .int k] ∧ (-(2 ^ 62) ≤ j ∧ j < 2 ^ 62 ∧ -(2 ^ 62) ≤ k ∧ k < 2 ^ 62) ∧ LoopR j (k - j).toNat i tb D σ H1) : tFor (iRng2 ta) (gName i) tb D σ H := h
theorem g_forL {te : TE} (h : te σ H fun x H1 => ∃ a, x = .ref a ∧ (∃ xs, SqL K H1 a xs) ∧ LoopL K a i tb D σ H1) : tFor (iList K te) (gName i) tb D σ H := h
theorem g_rng1 {j : Int} {R : Int → Prop} (h1 : -(2 ^ 62) ≤ j) (h2 : j < 2 ^ 62) (h : R j) : ∃ k : Int, [V.int j] = [V.int k] ∧ -(2 ^ 62) ≤ k ∧ k < 2 ^ 62 ∧ R k := ⟨j, rfl, h1, h2, h⟩
theorem g_rng2 {a b : Int} {R : Int → Int → Prop} (h1 : -(2 ^ 62) ≤ a) (h2 : a < 2 ^ 62) (h3 : -(2 ^ 62) ≤ b) (h4 : b < 2 ^ 62) (h : R a b) : ∃ j k : Int, [V.int a, V.int b] = [V.int j, V.int k] ∧ (-(2 ^ 62) ≤ j ∧ j < 2 ^ 62 ∧ -(2 ^ 62) ≤ k ∧ k < 2 ^ 62) ∧ R j k := ⟨a, b, rfl, ⟨h1, h2, h3, h4⟩, h⟩
theorem g_lstw {a : Addr} {xs : List V} {R : Addr → Prop} (s : SqL K H a xs) (h : R a) : ∃ b, V.ref a = .ref b ∧ (∃ xs, SqL K H b xs) ∧ R b := ⟨a, rfl, ⟨xs, s⟩, h⟩
theorem loopR {lo : Int} {n : Nat} (Pv : Nat → L2.St → Hp → Prop) (h0 : Pv 0 σ H)
    (hs : ∀ k σ H, k < n → Pv k σ H → tb { D with nx := Pv (k + 1), ct := Pv (k + 1), bk := D.nx } (σ.set i (some (.int (lo + k)))) H) (hd : ∀ σ H, Pv n σ H → D.nx σ H) : LoopR lo n i tb D σ H :=
  for_range (g := gName i) Pv h0 hs hd
theorem loopL {a : Addr} {xs : List V} (Pv : Nat → L2.St → Hp → Prop) (h0 : Pv 0 σ H) (hl : ∀ k σ H, k ≤ xs.length → Pv k σ H → SqL K H a xs)
    (hs : ∀ k x σ H, xs[k]? = some x → Pv k σ H → tb { D with nx := Pv (k + 1), ct := Pv (k + 1), bk := D.nx } (σ.set i (some x)) H) (hd : ∀ σ H, Pv xs.length σ H → D.nx σ H) : LoopL K a i tb D σ H :=
  for_list (g := gName i) Pv h0 hl hs hd
/-- over a list of ints -/
theorem loopI {a : Addr} {ns : List Int} (Pv : Nat → L2.St → Hp → Prop) (h0 : Pv 0 σ H) (hl : ∀ k σ H, k ≤ ns.length → Pv k σ H → SqL K H a (ns.map V.int))
    (hs : ∀ k σ H, k < ns.length → Pv k σ H → tb { D with nx := Pv (k + 1), ct := Pv (k + 1), bk := D.nx } (σ.set i (some (.int (ns.getD k 0)))) H) (hd : ∀ σ H, Pv ns.length σ H → D.nx σ H) : LoopL K a i tb D σ H :=
  loopL (xs := ns.map V.int) Pv h0 (fun k σ H hk => hl k σ H (by simpa using hk)) (fun k x σ H hx p => by
    have hk : k < ns.length := by
      have := (List.getElem?_eq_some_iff.mp hx).1
      simpa using this
    have e : x = .int (ns.getD k 0) := by
      rw [List.getElem?_map, List.getElem?_eq_getElem hk] at hx
      rw [List.getD_eq_getElem?_getD, List.getElem?_eq_getElem hk]
      exact (Option.some.inj hx).symm
    rw [e]
    exact hs k σ H hk p) (fun σ H p => hd σ H (by rw [List.length_map] at p; exact p))
/-- over rows -/
theorem loopRows {a : Addr} {rows : List (List Int)} (Pv : Nat → L2.St → Hp → Prop) (h0 : Pv 0 σ H) (R : RowsAt H a rows) (hl : ∀ k σ H', Pv k σ H' → Same H H')
    (hs : ∀ k r σ H', k < rows.length → Pv k σ H' → SqL K H' r ((rows.getD k []).map V.int) → tb { D with nx := Pv (k + 1), ct := Pv (k + 1), bk := D.nx } (σ.set i (some (.ref r))) H') (hd : ∀ σ H, Pv rows.length σ H → D.nx σ H) : LoopL K a i tb D σ H := by
  obtain ⟨as, e1, e2, e3⟩ := R
  refine loopL (xs := as.map V.ref) Pv h0 (fun k σ H' _ p => SqL.of (hl k σ H' p _ _ e1)) (fun k x σ H' hx p => ?_) (fun σ H p => hd σ H (by rw [List.length_map, e2] at p; exact p))
  have hk : k < as.length := by
    have := (List.getElem?_eq_some_iff.mp hx).1
    simpa using this
  have hk2 : k < rows.length := by omega
  rw [List.getElem?_map, List.getElem?_eq_getElem hk] at hx
  cases hx
  refine hs k _ σ H' hk2 p (SqL.of (hl k σ H' p _ _ ?_))
  rw [List.getD_eq_getElem?_getD, List.getElem?_eq_getElem hk2]
  exact e3 k _ _ (List.getElem?_eq_getElem hk) (List.getElem?_eq_getElem hk2)
theorem while_led {c : TT} (Pv : L2.St → Hp → Prop) (m : L2.St → Hp → Nat) (h0 : Pv σ H)
    (hs : ∀ σ H, Pv σ H → c σ H fun b H1 => if b = true then tb { D with nx := fun σ' H' => Pv σ' H' ∧ m σ' H' < m σ H, ct := fun σ' H' => Pv σ' H' ∧ m σ' H' < m σ H, bk := D.nx } σ H1 else D.nx σ H1)
    (mono : ∀ σ H Q Q', (∀ b H1, Q b H1 → Q' b H1) → c σ H Q → c σ H Q') : tWhile c tb D σ H := while_by Pv m h0 hs mono
end
/-! ### comprehensions -/
section
variable {K : PySem.W.Frag} {σ : L2.St} {H : Hp} {Q : VK} {te : TE} {tt : TT} {i : Nat} {vs : List Nat}
def LcR (lo : Int) (n i : Nat) (tt : TT) (te : TE) (vs : List Nat) (σ : L2.St) (H1 : Hp) (Q : VK) : Prop := ∀ D, H1 D = none → ∃ W : Nat → Nat → Hp → Prop, (∃ m, W 0 m (upd H1 D (.lst []))) ∧ ∀ k m H, W k m H →
  ((Itr lo n).stop k H ∧ Q (.ref D) H) ∨ ((Itr lo n).go k H ∧ ∃ Nx : Hp → Prop, (∀ H', Nx H' → ∃ m', m' < m ∧ W (k + 1) m' H') ∧ ∀ x H', (Itr lo n).yld k H x H' → gName i x (wipe σ vs) H' fun σ2 H2 => wipe σ2 vs = wipe σ vs ∧ tt σ2 H2 fun b H3 =>
    if b = true then te σ2 H3 fun y H4 => ∃ acc, H4 D = some (.lst acc) ∧ acc.length < sizeLine ∧ Nx (upd H4 D (.lst (acc ++ [y]))) else Nx H3)
def LcL (K : PySem.W.Frag) (a : Addr) (i : Nat) (tt : TT) (te : TE) (vs : List Nat) (σ : L2.St) (H1 : Hp) (Q : VK) : Prop := ∀ D, H1 D = none → ∃ W : Nat → Nat → Hp → Prop, (∃ m, W 0 m (upd H1 D (.lst []))) ∧ ∀ k m H, W k m H →
  ((Itl K a).stop k H ∧ Q (.ref D) H) ∨ ((Itl K a).go k H ∧ ∃ Nx : Hp → Prop, (∀ H', Nx H' → ∃ m', m' < m ∧ W (k + 1) m' H') ∧ ∀ x H', (Itl K a).yld k H x H' → gName i x (wipe σ vs) H' fun σ2 H2 => wipe σ2 vs = wipe σ vs ∧ tt σ2 H2 fun b H3 =>
    if b = true then te σ2 H3 fun y H4 => ∃ acc, H4 D = some (.lst acc) ∧ acc.length < sizeLine ∧ Nx (upd H4 D (.lst (acc ++ [y]))) else Nx H3)
theorem g_lc1 {ta : TA} (h : ta σ H fun vs' H1 => ∃ j : Int, vs' = [.int j] ∧ -(2 ^ 62) ≤ j ∧ j < 2 ^ 62 ∧ LcR 0 j.toNat i tt te vs σ H1 Q) : tLc (iRng1 ta) (gName i) tt te vs σ H Q := h
theorem g_lcL {tl : TE} (h : tl σ H fun x H1 => ∃ a, x = .ref a ∧ (∃ xs, SqL K H1 a xs) ∧ LcL K a i tt te vs σ H1 Q) : tLc (iList K tl) (gName i) tt te vs σ H Q := h
theorem g_yes {R : Bool → Hp → Prop} (h : R true H) : tYes σ H R := h
/-- a comprehension over a range, no test; Pv of the turn and the heap, the list at D within -/
theorem lcR {lo : Int} {n : Nat} (Pv : Addr → Nat → Hp → Prop) (h0 : ∀ D, H D = none → Pv D 0 (upd H D (.lst [])))
    (hw : ∀ x : Int, wipe ((wipe σ vs).set i (some (.int x))) vs = wipe σ vs)
    (hs : ∀ D k H1, H D = none → k < n → Pv D k H1 → te ((wipe σ vs).set i (some (.int (lo + k)))) H1 fun y H4 => ∃ acc, H4 D = some (.lst acc) ∧ acc.length < sizeLine ∧ Pv D (k + 1) (upd H4 D (.lst (acc ++ [y]))))
    (hd : ∀ D H1, H D = none → Pv D n H1 → Q (.ref D) H1) : LcR lo n i tYes te vs σ H Q := fun D nD =>
  lc_range (g := gName i) (Pv D) (h0 D nD) (fun k H1 hk p => ⟨hw _, iteT (B := Pv D (k + 1) H1) (hs D k H1 nD hk p)⟩) (fun H1 p => hd D H1 nD p)
theorem lcL {a : Addr} {xs : List V} (Pv : Addr → Nat → Hp → Prop) (h0 : ∀ D, H D = none → Pv D 0 (upd H D (.lst []))) (hl : ∀ D k H1, k ≤ xs.length → Pv D k H1 → SqL K H1 a xs)
    (hw : ∀ x : V, wipe ((wipe σ vs).set i (some x)) vs = wipe σ vs)
    (hs : ∀ D k x H1, H D = none → xs[k]? = some x → Pv D k H1 → te ((wipe σ vs).set i (some x)) H1 fun y H4 => ∃ acc, H4 D = some (.lst acc) ∧ acc.length < sizeLine ∧ Pv D (k + 1) (upd H4 D (.lst (acc ++ [y]))))
    (hd : ∀ D H1, H D = none → Pv D xs.length H1 → Q (.ref D) H1) : LcL K a i tYes te vs σ H Q := fun D nD =>
  lc_list (g := gName i) (Pv D) (h0 D nD) (fun k H1 hk p => hl D k H1 hk p) (fun k x H1 hx p => ⟨hw _, iteT (B := Pv D (k + 1) H1) (hs D k x H1 nD hx p)⟩) (fun H1 p => hd D H1 nD p)
/-- .. with a test that is kept to the range's numbers -/
theorem lcRT {lo : Int} {n : Nat} (Pv : Addr → Nat → Hp → Prop) (h0 : ∀ D, H D = none → Pv D 0 (upd H D (.lst [])))
    (hw : ∀ x : Int, wipe ((wipe σ vs).set i (some (.int x))) vs = wipe σ vs)
    (hs : ∀ D k H1, H D = none → k < n → Pv D k H1 → tt ((wipe σ vs).set i (some (.int (lo + k)))) H1 fun b H3 => if b = true then te ((wipe σ vs).set i (some (.int (lo + k)))) H3 fun y H4 => ∃ acc, H4 D = some (.lst acc) ∧ acc.length < sizeLine ∧ Pv D (k + 1) (upd H4 D (.lst (acc ++ [y]))) else Pv D (k + 1) H3)
    (hd : ∀ D H1, H D = none → Pv D n H1 → Q (.ref D) H1) : LcR lo n i tt te vs σ H Q := fun D nD =>
  lc_range (g := gName i) (Pv D) (h0 D nD) (fun k H1 hk p => ⟨hw _, hs D k H1 nD hk p⟩) (fun H1 p => hd D H1 nD p)
/-- over a list from its end -/
def LcV (K : PySem.W.Frag) (a : Addr) (n i : Nat) (tt : TT) (te : TE) (vs : List Nat) (σ : L2.St) (H1 : Hp) (Q : VK) : Prop := ∀ D, H1 D = none → ∃ W : Nat → Nat → Hp → Prop, (∃ m, W 0 m (upd H1 D (.lst []))) ∧ ∀ k m H, W k m H →
  ((Itv K a n).stop k H ∧ Q (.ref D) H) ∨ ((Itv K a n).go k H ∧ ∃ Nx : Hp → Prop, (∀ H', Nx H' → ∃ m', m' < m ∧ W (k + 1) m' H') ∧ ∀ x H', (Itv K a n).yld k H x H' → gName i x (wipe σ vs) H' fun σ2 H2 => wipe σ2 vs = wipe σ vs ∧ tt σ2 H2 fun b H3 =>
    if b = true then te σ2 H3 fun y H4 => ∃ acc, H4 D = some (.lst acc) ∧ acc.length < sizeLine ∧ Nx (upd H4 D (.lst (acc ++ [y]))) else Nx H3)
theorem g_lcV {ta : TA} (h : ta σ H fun vs' H1 => ∃ (a : Addr) (xs : List V), vs' = [.ref a] ∧ SqL K H1 a xs ∧ LcV K a xs.length i tt te vs σ H1 Q) : tLc (iRev K ta) (gName i) tt te vs σ H Q := h
theorem g_lstv {a : Addr} {xs : List V} {R : Addr → List V → Prop} (s : SqL K H a xs) (h : R a xs) : ∃ (b : Addr) (ys : List V), [V.ref a] = [.ref b] ∧ SqL K H b ys ∧ R b ys := ⟨a, xs, rfl, s, h⟩
theorem lcV {a : Addr} {xs : List V} (Pv : Addr → Nat → Hp → Prop) (h0 : ∀ D, H D = none → Pv D 0 (upd H D (.lst []))) (hl : ∀ D k H1, Pv D k H1 → SqL K H1 a xs)
    (hw : ∀ x : V, wipe ((wipe σ vs).set i (some x)) vs = wipe σ vs)
    (hs : ∀ D k x H1, H D = none → k < xs.length → xs[xs.length - 1 - k]? = some x → Pv D k H1 → te ((wipe σ vs).set i (some x)) H1 fun y H4 => ∃ acc, H4 D = some (.lst acc) ∧ acc.length < sizeLine ∧ Pv D (k + 1) (upd H4 D (.lst (acc ++ [y]))))
    (hd : ∀ D H1, H D = none → Pv D xs.length H1 → Q (.ref D) H1) : LcV K a xs.length i tYes te vs σ H Q := fun D nD => by
  refine ⟨fun k m H1 => m = xs.length - k ∧ k ≤ xs.length ∧ Pv D k H1, ⟨xs.length, rfl, Nat.zero_le _, h0 D nD⟩, ?_⟩
  rintro k m H1 ⟨rfl, hk, p⟩
  by_cases hlt : k < xs.length
  · have hx : xs[xs.length - 1 - k]? = some xs[xs.length - 1 - k] := List.getElem?_eq_getElem (by omega)
    refine .inr ⟨⟨hlt, xs, _, hl D k H1 p, hx⟩, Pv D (k + 1), fun H' p' => ⟨xs.length - (k + 1), by omega, rfl, hlt, p'⟩, fun v H' y => ?_⟩
    obtain ⟨e, hy⟩ := y
    subst e
    exact ⟨hw v, iteT (B := Pv D (k + 1) H') (hs D k v H' nD hlt (hy xs (hl D k _ p)) p)⟩
  · have e : k = xs.length := by omega
    subst e
    exact .inl ⟨Nat.le_refl _, hd D H1 nD p⟩

/-! ### lists of ints -/
/-- the list at D as it grows, over what stood (H) -/
def IntsUp (H : Hp) (P : List Int → Prop) (D : Addr) (k : Nat) (H1 : Hp) : Prop := ∃ ns : List Int, ns.length = k ∧ P ns ∧ Led H [(D, ilst ns)] H1
theorem IntsUp.start {P : List Int → Prop} (h0 : P []) (D : Addr) (nD : H D = none) : IntsUp H P D 0 (upd H D (.lst [])) := ⟨[], rfl, h0, (Led.nil H).alloc nD _⟩
theorem ints_push {H H2 : Hp} {D : Addr} {ns : List Int} {x : Int} (h : Led H [(D, ilst ns)] H2) : Led H [(D, ilst (ns ++ [x]))] (upd H2 D (.lst (ns.map V.int ++ [V.int x]))) := by
  have z := h.set (i := 0) rfl (.lst (ns.map V.int ++ [V.int x]))
  have e2 : ilst (ns ++ [x]) = .lst (ns.map V.int ++ [V.int x]) := by rw [ilst, List.map_append]; rfl
  rw [e2]
  exact z
theorem IntsUp.step {P : List Int → Prop} {D : Addr} {k : Nat} {ns : List Int} {x : Int} {H2 : Hp} (e : ns.length = k) (hk : k < 100000) (p : P (ns ++ [x])) (l : Led H [(D, ilst ns)] H2) :
    ∃ acc, H2 D = some (.lst acc) ∧ acc.length < sizeLine ∧ IntsUp H P D (k + 1) (upd H2 D (.lst (acc ++ [V.int x]))) :=
  ⟨ns.map V.int, l.get 0 rfl, by rw [List.length_map]; exact Nat.lt_of_lt_of_le (show ns.length < 100000 by omega) (by decide), ns ++ [x], by rw [List.length_append, e]; rfl, p, ints_push l⟩
theorem lcRI {lo : Int} {n : Nat} (P : List Int → Prop) (h0 : P []) (hn : n ≤ 100000) (hw : ∀ x : Int, wipe ((wipe σ vs).set i (some (.int x))) vs = wipe σ vs)
    (hs : ∀ D k ns H1 (R : VK), k < n → ns.length = k → P ns → Led H [(D, ilst ns)] H1 → (∀ x H2, P (ns ++ [x]) → Led H [(D, ilst ns)] H2 → R (.int x) H2) → te ((wipe σ vs).set i (some (.int (lo + k)))) H1 R)
    (hd : ∀ D ns H1, H D = none → ns.length = n → P ns → Same H H1 → H1 D = some (ilst ns) → Q (.ref D) H1) : LcR lo n i tYes te vs σ H Q :=
  lcR (IntsUp H P) (fun D nD => IntsUp.start h0 D nD) hw (fun D k H1 nD hk ⟨ns, e, p1, l1⟩ => hs D k ns H1 _ hk e p1 l1 fun x H2 p2 l2 => IntsUp.step e (by omega) p2 l2)
    (fun D H1 nD ⟨ns, e, p1, l1⟩ => hd D ns H1 nD e p1 l1.same (l1.get 0 rfl))
theorem lcLI {a : Addr} {xs : List V} (P : List Int → Prop) (h0 : P []) (hn : xs.length ≤ 100000) (s : SqL K H a xs) (hw : ∀ x : V, wipe ((wipe σ vs).set i (some x)) vs = wipe σ vs)
    (hs : ∀ D k v ns H1 (R : VK), xs[k]? = some v → ns.length = k → P ns → Led H [(D, ilst ns)] H1 → (∀ x H2, P (ns ++ [x]) → Led H [(D, ilst ns)] H2 → R (.int x) H2) → te ((wipe σ vs).set i (some v)) H1 R)
    (hd : ∀ D ns H1, H D = none → ns.length = xs.length → P ns → Same H H1 → H1 D = some (ilst ns) → Q (.ref D) H1) : LcL K a i tYes te vs σ H Q :=
  lcL (xs := xs) (IntsUp H P) (fun D nD => IntsUp.start h0 D nD) (fun D k H1 _ ⟨ns, e, p1, l1⟩ => l1.base s) hw
    (fun D k v H1 nD hx ⟨ns, e, p1, l1⟩ => hs D k v ns H1 _ hx e p1 l1 fun x H2 p2 l2 => IntsUp.step e (by have := (List.getElem?_eq_some_iff.mp hx).1; omega) p2 l2)
    (fun D H1 nD ⟨ns, e, p1, l1⟩ => hd D ns H1 nD e p1 l1.same (l1.get 0 rfl))
/-- noughts, one for each item -/
theorem lcL0 {a : Addr} {xs : List V} (z : Int) (hn : xs.length ≤ 100000) (s : SqL K H a xs) (hw : ∀ x : V, wipe ((wipe σ vs).set i (some x)) vs = wipe σ vs)
    (hd : ∀ D H1, H D = none → Same H H1 → H1 D = some (ilst (List.replicate xs.length z)) → Q (.ref D) H1) : LcL K a i tYes (tC (.int z)) vs σ H Q :=
  lcLI (fun ns => ns = List.replicate ns.length z) rfl hn s hw (fun D k v ns H1 R hx e p l q => q z H1 (by rw [List.length_append, p, ← List.replicate_append_replicate, List.length_replicate]; rfl) l)
    (fun D ns H1 nD e p sm hh => hd D H1 nD sm (by rw [← e, ← p]; exact hh))

/-! ### lists of rows -/
def rowLed (D : Addr) (as : List Addr) (rows : List (List Int)) : List (Addr × HO) := (D, .lst (as.map V.ref)) :: List.zipWith (fun a row => (a, ilst row)) as rows
theorem zip_at {as : List Addr} {rows : List (List Int)} {j : Nat} {a : Addr} {row : List Int} (e1 : as[j]? = some a) (e2 : rows[j]? = some row) : (List.zipWith (fun a row => (a, ilst row)) as rows)[j]? = some (a, ilst row) := by
  rw [List.getElem?_zipWith, e1, e2]
theorem Led.rowAt {B H1 : Hp} {D : Addr} {as : List Addr} {rows : List (List Int)} (l : Led B (rowLed D as rows) H1) (e : as.length = rows.length) : RowsAt H1 D rows :=
  ⟨as, l.get 0 rfl, e, fun j a row e1 e2 => l.get (j + 1) (show (rowLed D as rows)[j + 1]? = some (a, ilst row) from zip_at e1 e2)⟩
theorem Led.rowNew {H1 : Hp} {D : Addr} {as : List Addr} {rows : List (List Int)} (l : Led H (rowLed D as rows) H1) (e : as.length = rows.length) : NewRows H H1 D rows :=
  ⟨as, l.get 0 rfl, l.new D (key_at (i := 0) (o := .lst (as.map V.ref)) rfl), e, fun j a row e1 e2 => ⟨l.get (j + 1) (show (rowLed D as rows)[j + 1]? = some (a, ilst row) from zip_at e1 e2), l.new a (key_at (i := j + 1) (o := ilst row) (show (rowLed D as rows)[j + 1]? = some (a, ilst row) from zip_at e1 e2))⟩⟩
theorem rowLed_push {D r : Addr} {as : List Addr} {rows : List (List Int)} {row : List Int} (h : as.length = rows.length) :
    (rowLed D as rows ++ [(r, ilst row)]).set 0 (D, .lst (as.map V.ref ++ [V.ref r])) = rowLed D (as ++ [r]) (rows ++ [row]) := by
  show (D, HO.lst (as.map V.ref ++ [V.ref r])) :: (List.zipWith (fun a row => (a, ilst row)) as rows ++ [(r, ilst row)]) = _
  rw [rowLed, List.zipWith_append h, List.map_append]
  rfl
def RowsUp (H : Hp) (P : List (List Int) → Prop) (D : Addr) (k : Nat) (H1 : Hp) : Prop := ∃ (as : List Addr) (rows : List (List Int)), as.length = rows.length ∧ rows.length = k ∧ P rows ∧ Led H (rowLed D as rows) H1
theorem RowsUp.start {P : List (List Int) → Prop} (h0 : P []) (D : Addr) (nD : H D = none) : RowsUp H P D 0 (upd H D (.lst [])) := ⟨[], [], rfl, rfl, h0, (Led.nil H).alloc nD _⟩
theorem RowsUp.step {P : List (List Int) → Prop} {D r : Addr} {k : Nat} {as : List Addr} {rows : List (List Int)} {row : List Int} {H2 : Hp} (e0 : as.length = rows.length) (e : rows.length = k) (hk : k < 100000) (p : P (rows ++ [row])) (l : Led H (rowLed D as rows ++ [(r, ilst row)]) H2) :
    ∃ acc, H2 D = some (.lst acc) ∧ acc.length < sizeLine ∧ RowsUp H P D (k + 1) (upd H2 D (.lst (acc ++ [V.ref r]))) := by
  refine ⟨as.map V.ref, l.get 0 rfl, by rw [List.length_map]; exact Nat.lt_of_lt_of_le (show as.length < 100000 by omega) (by decide), as ++ [r], rows ++ [row], by simp [e0], by simp [e], p, ?_⟩
  rw [← rowLed_push e0]
  exact l.set (i := 0) rfl _
theorem lcRRows {lo : Int} {n : Nat} (P : List (List Int) → Prop) (h0 : P []) (hn : n ≤ 100000) (hw : ∀ x : Int, wipe ((wipe σ vs).set i (some (.int x))) vs = wipe σ vs)
    (hs : ∀ D k as rows H1 (R : VK), k < n → rows.length = k → P rows → Led H (rowLed D as rows) H1 → (∀ r row H2, P (rows ++ [row]) → Led H (rowLed D as rows ++ [(r, ilst row)]) H2 → R (.ref r) H2) → te ((wipe σ vs).set i (some (.int (lo + k)))) H1 R)
    (hd : ∀ D rows H1, rows.length = n → P rows → Same H H1 → NewRows H H1 D rows → Q (.ref D) H1) : LcR lo n i tYes te vs σ H Q :=
  lcR (RowsUp H P) (fun D nD => RowsUp.start h0 D nD) hw (fun D k H1 nD hk ⟨as, rows, e0, e, p1, l1⟩ => hs D k as rows H1 _ hk e p1 l1 fun r row H2 p2 l2 => RowsUp.step e0 e (by omega) p2 l2)
    (fun D H1 nD ⟨as, rows, e0, e, p1, l1⟩ => hd D rows H1 e p1 l1.same (l1.rowNew e0))
theorem lcLRows {a : Addr} {xs : List V} (P : List (List Int) → Prop) (h0 : P []) (hn : xs.length ≤ 100000) (s : SqL K H a xs) (hw : ∀ x : V, wipe ((wipe σ vs).set i (some x)) vs = wipe σ vs)
    (hs : ∀ D k v as rows H1 (R : VK), xs[k]? = some v → rows.length = k → P rows → Led H (rowLed D as rows) H1 → (∀ r row H2, P (rows ++ [row]) → Led H (rowLed D as rows ++ [(r, ilst row)]) H2 → R (.ref r) H2) → te ((wipe σ vs).set i (some v)) H1 R)
    (hd : ∀ D rows H1, rows.length = xs.length → P rows → Same H H1 → NewRows H H1 D rows → Q (.ref D) H1) : LcL K a i tYes te vs σ H Q :=
  lcL (xs := xs) (RowsUp H P) (fun D nD => RowsUp.start h0 D nD) (fun D k H1 _ ⟨as, rows, e0, e, p1, l1⟩ => l1.base s) hw
    (fun D k v H1 nD hx ⟨as, rows, e0, e, p1, l1⟩ => hs D k v as rows H1 _ hx e p1 l1 fun r row H2 p2 l2 => RowsUp.step e0 e (by have := (List.getElem?_eq_some_iff.mp hx).1; omega) p2 l2)
    (fun D H1 nD ⟨as, rows, e0, e, p1, l1⟩ => hd D rows H1 e p1 l1.same (l1.rowNew e0))
theorem lcVRows {a : Addr} {xs : List V} (P : List (List Int) → Prop) (h0 : P []) (hn : xs.length ≤ 100000) (s : SqL K H a xs) (hw : ∀ x : V, wipe ((wipe σ vs).set i (some x)) vs = wipe σ vs)
    (hs : ∀ D k v as rows H1 (R : VK), k < xs.length → xs[xs.length - 1 - k]? = some v → rows.length = k → P rows → Led H (rowLed D as rows) H1 → (∀ r row H2, P (rows ++ [row]) → Led H (rowLed D as rows ++ [(r, ilst row)]) H2 → R (.ref r) H2) → te ((wipe σ vs).set i (some v)) H1 R)
    (hd : ∀ D rows H1, rows.length = xs.length → P rows → Same H H1 → NewRows H H1 D rows → Q (.ref D) H1) : LcV K a xs.length i tYes te vs σ H Q :=
  lcV (xs := xs) (RowsUp H P) (fun D nD => RowsUp.start h0 D nD) (fun D k H1 ⟨as, rows, e0, e, p1, l1⟩ => l1.base s) hw
    (fun D k v H1 nD hk hx ⟨as, rows, e0, e, p1, l1⟩ => hs D k v as rows H1 _ hk hx e p1 l1 fun r row H2 p2 l2 => RowsUp.step e0 e (by omega) p2 l2)
    (fun D H1 nD ⟨as, rows, e0, e, p1, l1⟩ => hd D rows H1 e p1 l1.same (l1.rowNew e0))
/-- an item of rows, by its address -/
theorem RowsAt.sq {p : Addr} {rows : List (List Int)} (R : RowsAt H p rows) : ∃ as : List Addr, SqL K H p (as.map V.ref) ∧ as.length = rows.length ∧ ∀ (k : Nat) (v : V), (as.map V.ref)[k]? = some v → ∃ r, v = .ref r ∧ k < rows.length ∧ SqL K H r ((rows.getD k []).map V.int) := by
  obtain ⟨as, e1, e2, e3⟩ := R
  refine ⟨as, SqL.of e1, e2, fun k v hv => ?_⟩
  have hk : k < as.length := by
    have := (List.getElem?_eq_some_iff.mp hv).1
    simpa using this
  have hk2 : k < rows.length := by omega
  rw [List.getElem?_map, List.getElem?_eq_getElem hk] at hv
  cases hv
  refine ⟨_, rfl, hk2, SqL.of ?_⟩
  rw [List.getD_eq_getElem?_getD, List.getElem?_eq_getElem hk2]
  exact e3 k _ _ (List.getElem?_eq_getElem hk) (List.getElem?_eq_getElem hk2)
theorem RowsAt.sql {p : Addr} {rows : List (List Int)} (R : RowsAt H p rows) : ∃ xs, SqL K H p xs := by
  obtain ⟨as, e1, _⟩ := R
  exact ⟨_, SqL.of e1⟩
theorem g_lstwR {a : Addr} {rows : List (List Int)} {R : Addr → Prop} (s : RowsAt H a rows) (h : R a) : ∃ b, V.ref a = .ref b ∧ (∃ xs, SqL K H b xs) ∧ R b := ⟨a, rfl, s.sql, h⟩
theorem g_list {p : Addr} {xs : List V} (s : SqL K H p xs) (h : ∀ l, H l = none → Q (.ref l) (upd H l (.lst xs))) : mList K [.ref p] H Q := ⟨p, xs, rfl, .inl s, h⟩
theorem lcRows0 {a : Addr} {rows : List (List Int)} {z : Int} (R : RowsAt H a rows) (hn : rows.length ≤ 100000) (hw : ∀ x : V, wipe ((wipe σ vs).set i (some x)) vs = wipe σ vs)
    (hd : ∀ D H1, H D = none → Same H H1 → H1 D = some (ilst (List.replicate rows.length z)) → Q (.ref D) H1) : LcL K a i tYes (tC (.int z)) vs σ H Q := by
  obtain ⟨as, e1, e2, _⟩ := R.sq (K := K)
  refine lcL0 z (by rw [List.length_map, e2]; exact hn) e1 hw fun D H1 nD s e => hd D H1 nD s ?_
  rw [List.length_map, e2] at e
  exact e
/-- each row copied -/
theorem lcCopy {a : Addr} {rows : List (List Int)} (R : RowsAt H a rows) (hn : rows.length ≤ 100000) (hw : ∀ x : V, wipe ((wipe σ vs).set i (some x)) vs = wipe σ vs) (hi : ∀ x : V, ((wipe σ vs).set i (some x))[i]? = some (some x))
    (hd : ∀ D H1, Same H H1 → NewRows H H1 D rows → Q (.ref D) H1) : LcL K a i tYes (tCB (mList K) (tCons (tVar i) tNil)) vs σ H Q := by
  obtain ⟨as, e1, e2, e3⟩ := R.sq (K := K)
  refine lcLRows (fun rs => rs = rows.take rs.length) rfl (by rw [List.length_map, e2]; exact hn) e1 hw (fun D k v bs rs H1 S hx e p l q => ?_) (fun D rs H1 e p s n => hd D H1 s ?_)
  · obtain ⟨r, rfl, hk, hr⟩ := e3 k v hx
    refine g_cb (g_cons (g_var (hi _) (g_nil (g_list (l.base hr) fun m nm => q m (rows.getD k []) _ ?_ (l.alloc nm _)))))
    rw [List.length_append, e]
    show rs ++ [rows.getD k []] = rows.take (k + 1)
    rw [p, e, List.take_add_one, List.getD_eq_getElem?_getD, List.getElem?_eq_getElem hk]
    rfl
  · rw [List.length_map, e2] at e
    rw [e, List.take_length] at p
    rw [← p]
    exact n
end

/-! ### stores, methods of lists -/
section
variable {K : PySem.W.Frag} {σ : L2.St} {H : Hp} {Q : VK} {B : Hp} {L : List (Addr × HO)}
theorem g_sub {to ti : TE} {t : TSet} {v : V} {R : L2.St → Hp → Prop} (h : to σ H fun o H1 => ti σ H1 fun i H2 => t o i v H2 fun H3 => R σ H3) : gSub to ti t v σ H R := h
theorem g_bm {T : String} {r : V → List V → Hp → VK → Prop} {to : TE} {t : TA} (h : to σ H fun x H1 => tyV K T x H1 ∧ t σ H1 fun xs H2 => r x xs H2 Q) : tBM K T r to t σ H Q := h
theorem g_ty {p : Addr} {xs : List V} {R : Prop} (s : SqL K H p xs) (h : R) : tyV K "list" (.ref p) H ∧ R := ⟨.inl ⟨rfl, xs, s⟩, h⟩
theorem ixN_of {n : Nat} {i : Int} (h0 : 0 ≤ i) (h1 : i < n) : ixN n i = some i.toNat := by
  unfold ixN
  rw [if_pos h0, if_pos h1]
theorem set_map {ns : List Int} {j : Nat} {x : Int} : (ns.map V.int).set j (V.int x) = (ns.set j x).map V.int := List.map_set.symm
/-- xs[i] = x, a list of ints of the ledger -/
theorem g_setL (led : Led B L H) (j : Nat) {p : Addr} {ns : List Int} {i x : Int} {R : Hp → Prop} (e : L[j]? = some (p, ilst ns)) (h0 : 0 ≤ i) (h1 : i < ns.length) (q : ∀ H', Led B (L.set j (p, ilst (ns.set i.toNat x))) H' → R H') :
    rSetL (.ref p) (.int i) (.int x) H R := by
  refine ⟨p, ns.map V.int, i, i.toNat, rfl, rfl, led.get j e, ?_, ?_⟩
  · rw [List.length_map]
    exact ixN_of h0 h1
  · rw [set_map]
    exact q _ (led.set e _)
theorem g_setM (led : Led B L H) (j : Nat) {p : Addr} {ns : List Int} {i x : Int} {R : Hp → Prop} (e : L[j]? = some (p, ilst ns)) (h0 : i < 0) (h1 : 0 ≤ ns.length + i) (q : ∀ H', Led B (L.set j (p, ilst (ns.set ((ns.length : Int) + i).toNat x))) H' → R H') :
    rSetL (.ref p) (.int i) (.int x) H R := by
  refine ⟨p, ns.map V.int, i, ((ns.length : Int) + i).toNat, rfl, rfl, led.get j e, ?_, ?_⟩
  · unfold ixN
    rw [List.length_map, if_neg (by omega), if_pos (by omega), Int.add_comm]
  · rw [set_map]
    exact q _ (led.set e _)
/-- the same of any items -/
theorem g_setV (led : Led B L H) (j : Nat) {p : Addr} {xs : List V} {i : Int} {x : V} {R : Hp → Prop} (e : L[j]? = some (p, .lst xs)) (h0 : 0 ≤ i) (h1 : i < xs.length) (q : ∀ H', Led B (L.set j (p, .lst (xs.set i.toNat x))) H' → R H') :
    rSetL (.ref p) (.int i) x H R := ⟨p, xs, i, i.toNat, rfl, rfl, led.get j e, ixN_of h0 h1, q _ (led.set e _)⟩
theorem g_app (led : Led B L H) (j : Nat) {p : Addr} {xs : List V} {x : V} (e : L[j]? = some (p, .lst xs)) (hl : xs.length < 100000) (q : ∀ H', Led B (L.set j (p, .lst (xs ++ [x]))) H' → Q .non H') :
    rAppend (.ref p) [x] H Q := ⟨p, xs, x, rfl, rfl, led.get j e, Nat.lt_of_lt_of_le hl (by decide), q _ (led.set e _)⟩
theorem g_appI (led : Led B L H) (j : Nat) {p : Addr} {ns : List Int} {x : Int} (e : L[j]? = some (p, ilst ns)) (hl : ns.length < 100000) (q : ∀ H', Led B (L.set j (p, ilst (ns ++ [x]))) H' → Q .non H') :
    rAppend (.ref p) [.int x] H Q := by
  refine g_app led j e (by rw [List.length_map]; exact hl) ?_
  have e2 : ilst (ns ++ [x]) = .lst (ns.map V.int ++ [V.int x]) := by rw [ilst, List.map_append]; rfl
  rw [← e2]
  exact q
theorem g_ins (led : Led B L H) (j : Nat) {p : Addr} {ns : List Int} {i x : Int} (e : L[j]? = some (p, ilst ns)) (hl : ns.length < 100000) (h0 : 0 ≤ i) (h1 : i < 2 ^ 63) (q : ∀ H', Led B (L.set j (p, ilst (ns.take i.toNat ++ [x] ++ ns.drop i.toNat))) H' → Q .non H') :
    rInsert (.ref p) [.int i, .int x] H Q := by
  refine ⟨p, ns.map V.int, i, .int x, rfl, rfl, led.get j e, by rw [List.length_map]; exact Nat.lt_of_lt_of_le hl (by decide), h0, h1, ?_⟩
  have e2 : (.lst ((ns.map V.int).take i.toNat ++ [V.int x] ++ (ns.map V.int).drop i.toNat) : HO) = ilst (ns.take i.toNat ++ [x] ++ ns.drop i.toNat) := by
    rw [ilst, List.map_append, List.map_append, List.map_take, List.map_drop]
    rfl
  rw [e2]
  exact q _ (led.set e _)
end

/-! ### instances: calls of methods, makings, fields -/
section
variable {K : PySem.W.Frag} {G : Ads} {σ : L2.St} {H : Hp} {Q : VK} {B : Hp} {L : List (Addr × HO)} {D : Ends}
theorem app_nil_fun {R : List V → Hp → Prop} : (fun (vs : List V) H1 => R (vs ++ []) H1) = R := by
  funext vs H1
  rw [List.append_nil]
theorem g_make {C : Addr} {sp : Sp} {E : XK} {ta : TA} (h : ta σ H fun vs H1 => ∀ x dx, H1 x = none → H1 dx = none → dx ≠ x → sp (.ref x :: vs) (upd (upd H1 dx (.own x)) x (.ins C dx [])) (fun v H2 => v = .non ∧ Q (.ref x) H2) E) : tMake C sp [] E ta σ H Q := by
  have e := app_nil_fun (R := fun vs H1 => ∀ x dx, H1 x = none → H1 dx = none → dx ≠ x → sp (.ref x :: vs) (upd (upd H1 dx (.own x)) x (.ins C dx [])) (fun v H2 => v = .non ∧ Q (.ref x) H2) E)
  show ta σ H _
  rw [← e] at h
  exact h
theorem g_meth {C : Addr} {m : Str} {sp : Sp} {E : XK} {to : TE} {ta : TA} (h : to σ H fun x H1 => ∃ a dx fs, x = .ref a ∧ H1 a = some (.ins C dx fs) ∧ fs.lookup m = none ∧ ta σ H1 fun vs H2 => sp (x :: vs) H2 Q E) : tMeth C m sp [] E to ta σ H Q := by
  have e : ∀ x : V, (fun (vs : List V) H2 => sp (x :: (vs ++ [])) H2 Q E) = fun vs H2 => sp (x :: vs) H2 Q E := fun x => by
    funext vs H2
    rw [List.append_nil]
  show to σ H fun x H1 => ∃ a dx fs, x = .ref a ∧ H1 a = some (.ins C dx fs) ∧ fs.lookup m = none ∧ ta σ H1 fun vs H2 => sp (x :: (vs ++ [])) H2 Q E
  simp only [e]
  exact h
theorem g_self {C a dx : Addr} {fs : List (Str × V)} {m : Str} {R : Prop} (e : H a = some (.ins C dx fs)) (l : fs.lookup m = none) (h : R) : ∃ a' dx' fs', V.ref a = .ref a' ∧ H a' = some (.ins C dx' fs') ∧ fs'.lookup m = none ∧ R := ⟨a, dx, fs, rfl, e, l, h⟩
theorem g_methT {C : Addr} {m : Str} {sp : Sp} {E : L2.St → XK} {to : TE} {ta : TA} (h : to σ H fun x H1 => ∃ a dx fs, x = .ref a ∧ H1 a = some (.ins C dx fs) ∧ fs.lookup m = none ∧ ta σ H1 fun vs H2 => sp (x :: vs) H2 Q (E σ)) : tMethT C m sp E to ta σ H Q := h
theorem g_makeT {C : Addr} {sp : Sp} {E : L2.St → XK} {ta : TA} (h : ta σ H fun vs H1 => ∀ x dx, H1 x = none → H1 dx = none → dx ≠ x → sp (.ref x :: vs) (upd (upd H1 dx (.own x)) x (.ins C dx [])) (fun v H2 => v = .non ∧ Q (.ref x) H2) (E σ)) : tMakeT C sp E ta σ H Q := h
theorem g_callS {sp : Sp} {E : L2.St → XK} {ta : TA} (h : ta σ H fun vs H1 => sp vs H1 Q (E σ)) : tCallS sp E ta σ H Q := h
theorem g_sfld {ta tv : TE} {f : Str} (h : tv σ H fun y H1 => ta σ H1 fun x H2 => ∃ a C dx fs, x = .ref a ∧ H2 a = some (.ins C dx fs) ∧ Cls K C ∧ NoAttr K C f ∧ fs.length < 1000 ∧ D.nx σ (upd H2 a (.ins C dx (putF f y fs)))) : sFld K ta tv f D σ H := h
/-- self.f = v, the instance in the ledger -/
theorem g_put (led : Led B L H) (j : Nat) {C a dx : Addr} {fs fs' : List (Str × V)} {f : Str} {v : V} {R : Hp → Prop} (e : L[j]? = some (a, .ins C dx fs)) (c : Cls K C) (n : NoAttr K C f) (hl : fs.length < 1000) (ep : putF f v fs = fs') (q : ∀ H', Led B (L.set j (a, .ins C dx fs')) H' → R H') :
    ∃ a' C' dx' gs, V.ref a = .ref a' ∧ H a' = some (.ins C' dx' gs) ∧ Cls K C' ∧ NoAttr K C' f ∧ gs.length < 1000 ∧ R (upd H a' (.ins C' dx' (putF f v gs))) := by
  subst ep
  exact ⟨a, C, dx, fs, rfl, led.get j e, c, n, hl, q _ (led.set e _)⟩
/-- one object taken out of what stands -/
theorem Led.one {b : Addr} {o : HO} (h : H b = some o) : ∃ B, Led B [(b, o)] H ∧ ∀ q u, H q = some u → q ≠ b → B q = some u := by
  classical
  refine ⟨fun a => if a = b then none else H a, ⟨fun a u e => ?_, fun i p u e => ?_, by simp, fun p hp => ?_⟩, fun q u e n => ?_⟩
  · by_cases z : a = b
    · rw [show (if a = b then none else H a) = none from if_pos z] at e
      cases e
    · rw [show (if a = b then none else H a) = H a from if_neg z] at e
      exact e
  · cases i with
    | zero =>
      cases e
      exact h
    | succ i => simp at e
  · simp at hp
    subst hp
    exact if_pos rfl
  · show (if q = b then none else H q) = some u
    rw [if_neg n]
    exact e
/-- reading a board's fields -/
theorem g_bfld {b dx : Addr} {fs : List (Str × V)} {f : Str} {v : V} {R : V → Prop} (e : H b = some (.ins G.Board dx fs)) (c : Cls K G.Board) (n : NoAttr K G.Board f) (l : fs.lookup f = some v) (h : R v) :
    ∃ a' C' dx' fs' v', V.ref b = .ref a' ∧ H a' = some (.ins C' dx' fs') ∧ Cls K C' ∧ NoAttr K C' f ∧ fs'.lookup f = some v' ∧ R v' := ⟨b, G.Board, dx, fs, v, rfl, e, c, n, l, h⟩
end
/-! ### isinstance, indices from the end -/
section
variable {K : PySem.W.Frag} {H : Hp} {Q : VK}
theorem isi_int {i : Int} {c : String} {b : Bool} (e : kitB "int" c = some b) (h : Q (.bl b) H) : rIsi K [.int i, .ty c] H Q := ⟨.int i, .ty c, .type "int", .type c, b, rfl, .ty c, .base (.int i), kit_ty e, h⟩
theorem isi_bl {i : Bool} {c : String} {b : Bool} (e : kitB "bool" c = some b) (h : Q (.bl b) H) : rIsi K [.bl i, .ty c] H Q := ⟨.bl i, .ty c, .type "bool", .type c, b, rfl, .ty c, .base (.bl i), kit_ty e, h⟩
theorem isi_lst {p : Addr} {xs : List V} {c : String} {b : Bool} (s : H p = some (.lst xs)) (e : kitB "list" c = some b) (h : Q (.bl b) H) : rIsi K [.ref p, .ty c] H Q := ⟨.ref p, .ty c, .type "list", .type c, b, rfl, .ty c, .base (.lst s), kit_ty e, h⟩
theorem atI_neg {ns : List Int} {i : Int} (h0 : i < 0) (h1 : 0 ≤ ns.length + i) : atI (ns.map V.int) i = some (.int (ns.getD (ns.length + i).toNat 0)) := by
  have hl : ((ns.length : Int) + i).toNat < ns.length := by omega
  have e : ixN (ns.map V.int).length i = some ((ns.length : Int) + i).toNat := by
    unfold ixN
    rw [List.length_map, if_neg (by omega), if_pos (by omega), Int.add_comm]
  unfold atI
  rw [e]
  show (ns.map V.int)[((ns.length : Int) + i).toNat]? = _
  rw [List.getElem?_map, List.getElem?_eq_getElem hl, List.getD_eq_getElem?_getD, List.getElem?_eq_getElem hl]
  rfl
theorem g_ixM {p : Addr} {ns : List Int} {i : Int} (s : SqL K H p (ns.map V.int)) (h0 : i < 0) (h1 : 0 ≤ ns.length + i) (h : Q (.int (ns.getD (ns.length + i).toNat 0)) H) : rIxL K (.ref p) (.int i) H Q :=
  ⟨p, _, i, _, rfl, rfl, s, atI_neg h0 h1, h⟩
end
section
variable {K : PySem.W.Frag} {σ : L2.St} {H : Hp} {Q : VK}
theorem g_sl {r : V → Option Int → Option Int → Hp → VK → Prop} {te : TE} {tl th : TO} (h : te σ H fun x H1 => tl σ H1 fun l H2 => th σ H2 fun u H3 => r x l u H3 Q) : tSl r te tl th σ H Q := h
theorem g_noPart {R : Option Int → Hp → Prop} (h : R none H) : tNoPart σ H R := h
theorem g_part {t : TE} {R : Option Int → Hp → Prop} (h : t σ H fun x H1 => ∃ i, x = .int i ∧ R (some i) H1) : tPart t σ H R := h
theorem g_partI {i : Int} {R : Int → Prop} (h : R i) : ∃ j, V.int i = .int j ∧ R j := ⟨i, rfl, h⟩
/-- xs[:-1] of ints -/
theorem cut_init {ns : List Int} {x : Int} : cutV ((ns ++ [x]).map V.int) none (some (-1)) = ns.map V.int := by
  have e0 : ((ns ++ [x]).map V.int).length = ns.length + 1 := by simp
  have e1 : HT.sIx (ns.length + 1) (ns.length + 1) (some (-1)) = ns.length := by
    show (if (-1 : Int) < 0 then ((-1 : Int) + ((ns.length + 1 : Nat) : Int)).toNat else min (-1 : Int).toNat (ns.length + 1)) = _
    rw [if_pos (by decide)]
    omega
  unfold cutV
  rw [e0, e1]
  show List.take (ns.length - 0) ((ns ++ [x]).map V.int) = ns.map V.int
  rw [Nat.sub_zero, List.map_append, List.take_append_of_le_length (by simp), List.take_of_length_le (by simp)]
theorem g_slInit {p : Addr} {ns : List Int} {x : Int} (s : SqL K H p ((ns ++ [x]).map V.int)) (h : ∀ q, H q = none → Q (.ref q) (upd H q (ilst ns))) : rSlL K (.ref p) none (some (-1)) H Q :=
  ⟨p, _, rfl, s, fun q nq => by rw [cut_init]; exact h q nq⟩
/-- xs + ys of ints -/
theorem g_catI {p q : Addr} {ns ms : List Int} (e1 : H p = some (ilst ns)) (e2 : H q = some (ilst ms)) (hl : ns.length + ms.length ≤ 100000) (h : ∀ c, H c = none → Q (.ref c) (upd H c (ilst (ns ++ ms)))) : rCat (.ref p) (.ref q) H Q :=
  ⟨p, q, _, _, rfl, rfl, e1, e2, by rw [List.length_map, List.length_map]; exact Nat.le_trans hl (by decide), fun c nc => by
    have z := h c nc
    rw [ilst, List.map_append] at z
    exact z⟩
end
section
variable {K : PySem.W.Frag} {H : Hp} {Q : VK}
theorem isi_ii {i : Int} (h : Q (.bl true) H) : rIsi K [.int i, .ty "int"] H Q := isi_int (b := true) (by decide +kernel) h
theorem isi_ib {i : Int} (h : Q (.bl false) H) : rIsi K [.int i, .ty "bool"] H Q := isi_int (b := false) (by decide +kernel) h
theorem isi_ll {p : Addr} {xs : List V} (s : H p = some (.lst xs)) (h : Q (.bl true) H) : rIsi K [.ref p, .ty "list"] H Q := isi_lst (b := true) s (by decide +kernel) h
end
theorem ifNT {A B : Prop} (h : B) : if (!true) = true then A else B := h
theorem ifNF {A B : Prop} (h : A) : if (!false) = true then A else B := h
/-- the item ahead of place t, around -/
theorem g_ixLast {K : PySem.W.Frag} {H : Hp} {Q : VK} {p : Addr} {ns : List Int} {t : Int} (s : SqL K H p (ns.map V.int)) (h0 : 0 ≤ t) (h1 : t < ns.length) (h : Q (.int (ns.getD ((t - 1) % (ns.length : Int)).toNat 0)) H) : rIxL K (.ref p) (.int (t - 1)) H Q := by
  by_cases z : t = 0
  · subst z
    refine g_ixM s (by omega) (by omega) ?_
    have e : ((0 : Int) - 1) % (ns.length : Int) = ns.length + (0 - 1) := by
      rw [← Int.add_emod_right, Int.emod_eq_of_lt (by omega) (by omega)]
      omega
    rw [e] at h
    exact h
  · refine g_ixI s (by omega) (by omega) ?_
    rw [Int.emod_eq_of_lt (by omega) (by omega)] at h
    exact h

theorem g_try1 {K : PySem.W.Frag} {c : Value} {tb : WX → TS} {ts : Addr → Value → Option Addr → TS} {Wout : WX} {D : Ends} {σ : L2.St} {H : Hp} (h : tb (wOnly K c ts Wout D) D σ H) : tTry1 K c tb ts Wout D σ H := h
theorem g_tryAs {K : PySem.W.Frag} {c : Value} {i : Nat} {tb : WX → TS} {ts : Addr → Value → Option Addr → TS} {Wout : WX} {D : Ends} {σ : L2.St} {H : Hp} (h : tb (wAs K c i ts Wout D) D σ H) : tTryAs K c i tb ts Wout D σ H := h
theorem g_tryN {K : PySem.W.Frag} {tb : WX → TS} {l : List (Value × (Addr → Value → Option Addr → TS))} {Wout : WX} {D : Ends} {σ : L2.St} {H : Hp} (h : tb (wMany K Wout D l) D σ H) : tTryN K tb l Wout D σ H := h
/-- an item of rows that stood before -/
theorem g_rowB {K : PySem.W.Frag} {B H : Hp} {Q : VK} {p : Addr} {rows : List (List Int)} {i : Int} (s : Same B H) (R : RowsAt B p rows) (h0 : 0 ≤ i) (h1 : i < rows.length) (h : ∀ r, SqL K B r ((rows.getD i.toNat []).map V.int) → Q (.ref r) H) : rIxL K (.ref p) (.int i) H Q := by
  obtain ⟨as, e1, e2, e3⟩ := R
  have hl : i.toNat < rows.length := by omega
  have ha : i.toNat < as.length := by omega
  refine ⟨p, _, i, .ref as[i.toNat], rfl, rfl, SqL.of (s _ _ e1), at_of (j := i.toNat) (by omega) ?_, h _ (SqL.of ?_)⟩
  · rw [List.getElem?_map, List.getElem?_eq_getElem ha]
    rfl
  · have q := e3 i.toNat as[i.toNat] rows[i.toNat] (List.getElem?_eq_getElem ha) (List.getElem?_eq_getElem hl)
    rw [List.getD_eq_getElem?_getD, List.getElem?_eq_getElem hl]
    exact q
theorem take_getD {α : Type} {l : List α} {j : Nat} {d : α} (h : j < l.length) : l.take (j + 1) = l.take j ++ [l.getD j d] := by
  rw [List.getD_eq_getElem?_getD, List.take_add_one, List.getElem?_eq_getElem h]
  rfl
/-- an item of a new list of rows, with its place in the ledger -/
theorem g_rowLed {K : PySem.W.Frag} {B H : Hp} {Q : VK} {D : Addr} {as : List Addr} {rows : List (List Int)} {i : Int} (led : Led B (rowLed D as rows) H) (e : as.length = rows.length) (h0 : 0 ≤ i) (h1 : i < rows.length)
    (q : ∀ r, (rowLed D as rows)[i.toNat + 1]? = some (r, ilst (rows.getD i.toNat [])) → Q (.ref r) H) : rIxL K (.ref D) (.int i) H Q := by
  have hl : i.toNat < rows.length := by omega
  have ha : i.toNat < as.length := by omega
  refine ⟨D, _, i, .ref as[i.toNat], rfl, rfl, SqL.of (led.get 0 rfl), at_of (j := i.toNat) (by omega) ?_, q _ ?_⟩
  · rw [List.getElem?_map, List.getElem?_eq_getElem ha]
    rfl
  · rw [List.getD_eq_getElem?_getD, List.getElem?_eq_getElem hl]
    exact zip_at (List.getElem?_eq_getElem ha) (List.getElem?_eq_getElem hl)
theorem Led.rebaseN {B H H' : Hp} {L : List (Addr × HO)} (h : Led B L H) (s : Same H H') : ∃ B', Same B B' ∧ Led B' L H' ∧ ∀ p o, H' p = some o → H p = none → B' p = some o := by
  obtain ⟨B', s1, l1, k⟩ := (h.ext s).rebase
  exact ⟨B', s1, l1, fun p o e n => k p o e (h.out n)⟩
theorem NewRows.into {H H' B : Hp} {q : Addr} {rows : List (List Int)} (n : NewRows H H' q rows) (k : ∀ p o, H' p = some o → H p = none → B p = some o) : RowsAt B q rows := by
  obtain ⟨as, e1, e0, e2, e3⟩ := n
  exact ⟨as, k _ _ e1 e0, e2, fun i r row h1 h2 => k _ _ (e3 i r row h1 h2).1 (e3 i r row h1 h2).2⟩
theorem NewB.into {C : Addr} {H H' B : Hp} {b dx r t l s : Addr} {rows : List (List Int)} {turns loads steps : List Int} {taken : Int} (n : NewB C H H' b dx r t l s rows turns loads steps taken) (k : ∀ p o, H' p = some o → H p = none → B p = some o) : BdAt C B b dx r t l s rows turns loads steps taken := by
  obtain ⟨B1, s1, nr, l1⟩ := n
  have f : ∀ x, x ∈ (bl C b dx r t l s turns loads steps taken).map Prod.fst → H x = none := fun x hx => s1.free (l1.new x hx)
  exact ⟨k _ _ (l1.get 0 rfl) (f _ (by simp)), (nr.mono l1.same).into k, k _ _ (l1.get 1 rfl) (f _ (by simp)), k _ _ (l1.get 2 rfl) (f _ (by simp)), k _ _ (l1.get 3 rfl) (f _ (by simp))⟩
theorem isi_bb {K : PySem.W.Frag} {H : Hp} {Q : VK} {i : Bool} (h : Q (.bl true) H) : rIsi K [.bl i, .ty "bool"] H Q := isi_bl (b := true) (by decide +kernel) h
theorem g_eqB1 {H : Hp} {Q : VK} {i j : Bool} (e : i = j) (h : Q (.bl true) H) : rEq (.bl i) (.bl j) H Q := g_eqB (by rw [decide_eq_true e]; exact h)
/-- [[x]], just laid -/
theorem rowsOne {H : Hp} {p q : Addr} {x : Int} (np : H p = none) (nq : upd H p (.lst [V.int x]) q = none) : NewRows H (upd (upd H p (.lst [V.int x])) q (.lst [V.ref p])) q [[x]] := by
  have ne : q ≠ p := fun z => by
    subst z
    rw [upd_same] at nq
    cases nq
  refine ⟨[p], upd_same, (same_upd (o := .lst [V.int x]) np).free nq, rfl, fun i r row h1 h2 => ?_⟩
  cases i with
  | zero =>
    cases h1
    cases h2
    exact ⟨by rw [upd_ne ne.symm]; exact upd_same, np⟩
  | succ i => simp at h1
theorem Led.back {B B' H : Hp} {L : List (Addr × HO)} (h : Led B' L H) (s : Same B B') : Led B L H := ⟨s.trans h.same, h.at_, h.nd, fun p hp => s.free (h.new p hp)⟩
theorem g_notNn {H : Hp} {Q : VK} (h : Q (.bl false) H) : rNotN .non .non H Q := ⟨rfl, h⟩
theorem g_notNi {H : Hp} {Q : VK} {i : Int} (h : Q (.bl true) H) : rNotN (.int i) .non H Q := ⟨rfl, h⟩
theorem g_isNn {H : Hp} {Q : VK} (h : Q (.bl true) H) : rIsN .non .non H Q := ⟨rfl, h⟩
theorem g_isNi {H : Hp} {Q : VK} {i : Int} (h : Q (.bl false) H) : rIsN (.int i) .non H Q := ⟨rfl, h⟩
/-- isinstance(board, Board) -/
structure BdIs (K : PySem.W.Frag) (G : Ads) : Prop where
  ha : PySem.W.findIn K (.ref G.Board) "__class__" = some (some (.builtin "object.__class__"))
  hn : PySem.W.specialIn K (.builtin "object.__class__") "__get__" = some (some (.builtin "getset_descriptor.__get__"))
  ht : PySem.W.takesIn K (.builtin "object.__class__") = some true
  hm : PySem.W.mroIn K G.Board (.type "object") = some true
  ki : PySem.W.kitOne K (.ref G.Board) (.ref G.Board) = some true
theorem isi_board {K : PySem.W.Frag} {G : Ads} {H : Hp} {Q : VK} {b dx : Addr} {fs : List (Str × V)} (bi : BdIs K G) (bd : BdOk K G) (e : H b = some (.ins G.Board dx fs)) (h : Q (.bl true) H) : rIsi K [.ref b, .ref G.Board] H Q :=
  ⟨.ref b, .ref G.Board, .ref G.Board, .ref G.Board, true, rfl, .own _, .base (.ins e bd.cl bi.ha bi.hn bi.ht bi.hm), bi.ki, h⟩
/-- an item of any list -/
theorem g_ixV {K : PySem.W.Frag} {H : Hp} {Q : VK} {p : Addr} {xs : List V} {i : Int} {v : V} (s : SqL K H p xs) (h0 : 0 ≤ i) (e : xs[i.toNat]? = some v) (h : Q v H) : rIxL K (.ref p) (.int i) H Q :=
  ⟨p, _, i, _, rfl, rfl, s, at_of (j := i.toNat) (by omega) e, h⟩

/-! methods and makings inside a try body; isinstance of a caught error -/
section
variable {X : Cx} {CX : CXT} {k : Nat} {f C : Addr} {fd : FuncData} {ps : List Str} {sp : Sp} {E : L2.St → XK} {x m : Str} {p pos apos : Pos} {e o : Expr} {es : List Expr} {ta : TE} {t : TA}
theorem pe_methT {pl : Sem Bool} (he : PE X o ta) (c : Cls X.K C) (hm : Meth X.K C m f) (F : FnOk X.prog X.w X.K X.mg X.base CX k f fd ps sp) (hr : Room k X.A) (hb : Binds X.K fd ps []) (hx : ∀ σ, PassesAt CX X σ (E σ)) (ha : PA X (e :: es) t)
    (hst : starEach (e :: es) X.env = (false, eval e X.env) :: starEach es X.env := by rfl) (hpl : (backTo pos (starEach es X.env)).any (·.1) = false := by rfl)
    (ht : eval (.Call (.Attribute o m apos) (e :: es) [] pos) X.env = (do
      let ov ← eval o X.env
      standAt apos.atName
      let (f, first) ← holding [ov] (getMethod ov m pl)
      callWith pos f first (backTo pos (starEach (e :: es) X.env)) (backToKw pos (keywordEach [] X.env))) := by rfl) :
    PE X (.Call (.Attribute o m apos) (e :: es) [] pos) (tMethT C m sp E ta t) := by
  refine ⟨fun pins s σ H Q I h => ?_⟩
  refine PySem.W.methodCall_KW (pl := pl) (thn (he.run pins s σ H _ I h) fun u s1 ⟨x, H1, I1, rx, a, dx, fs, ex, ea, l, q⟩ => ?_) ht
  subst ex
  obtain rfl : u = Value.ref a := rx
  refine getmeth_ok I1 ea c hm l ?_
  refine PySem.W.callWith_K (first := [.ref a]) (h₀ := X.base) I.ok.mod.kin hm.kp (thn (ha.run pos pins s1 σ H1 _ I1 q) fun us s2 ⟨vs, H2, I2, r, q2⟩ => ⟨I2.kIn, ?_⟩) hst hpl
  exact run_fnS (us := .ref a :: us) (vs := .ref a :: vs) F hr hb (hx σ) I2 (.cons rfl r) q2
theorem run_makeS {pins : List (Addr × Obj)} {σ : L2.St} {H : Hp} {s : Shared} {Q : VK} {us : List Value} {vs : List V} (M : Mk X.K C f) (F : FnOk X.prog X.w X.K X.mg X.base CX k f fd ps sp) (hr : Room (k + 1) X.A) (hb : Binds X.K fd ps [])
    (hx : PassesAt CX X σ (E σ)) (I : Inv X pins σ H s) (r : Vals vs us)
    (h : ∀ x dx, H x = none → H dx = none → dx ≠ x → sp (.ref x :: vs) (upd (upd H dx (.own x)) x (.ins C dx [])) (fun v H2 => v = .non ∧ Q (.ref x) H2) (E σ)) :
    wpAny (model X.prog X.w) X.A (call (.ref C) us) (EP X pins σ Q) X.xe s := by
  have hq := h (s.heap.objs.size + 1) s.heap.objs.size (I.hok.fresh (Nat.le_succ _)) (I.hok.fresh (Nat.le_refl _)) (Nat.ne_of_lt (Nat.lt_succ_self _))
  have I2 := Inv.made (C := C) I
  have r2 : Vals (V.ref (s.heap.objs.size + 1) :: vs) (Value.ref (s.heap.objs.size + 1) :: us) := .cons rfl r
  have hl : (Value.ref (s.heap.objs.size + 1) :: us).length = ps.length := by
    have e := r2.length
    rw [F.len _ _ _ _ hq] at e
    exact e.symm
  have b := hb { s with heap := _ } (Value.ref (s.heap.objs.size + 1) :: us) I2.kIn (by rw [List.append_nil]; exact hl)
  rw [List.append_nil] at b
  refine wpAny_call (make_map (f := f) I.kIn M.makes M.init (beq_iff_eq.mp M.fn) (codeAny_mono (F.run _ X.stack _ _ ⟨Value.ref (s.heap.objs.size + 1) :: us, []⟩ (Value.ref (s.heap.objs.size + 1) :: us) _ _ (E σ) (hr.make C us [])
    (I2.env0.make C us []) b r2 hq) fun r s' hq' => ?_))
  cases r with
  | error e => exact hx pins _ _ e s' I2 hq'
  | ok fl =>
    cases fl with
    | ret u =>
      obtain ⟨v, H', I3, rv, ev, q3⟩ := I2.after hq'
      subst ev
      exact ⟨rv, ⟨V.ref (s.heap.objs.size + 1), H', I3, rfl, q3⟩⟩
    | next => exact False.elim hq'
    | brk => exact False.elim hq'
    | cont => exact False.elim hq'
theorem pe_makeT (M : Mk X.K C f) (F : FnOk X.prog X.w X.K X.mg X.base CX k f fd ps sp) (hr : Room (k + 1) X.A) (hg : Gl X x) (hm : X.mg x = some (.ref C)) (hb : Binds X.K fd ps []) (hx : ∀ σ, PassesAt CX X σ (E σ))
    (ha : PA X (e :: es) t) (hdb : (x == ("__debug__" : Str)) = false := by decide) (he : starEach (e :: es) X.env = (false, eval e X.env) :: starEach es X.env := by rfl) (hpl : (backTo pos (starEach es X.env)).any (·.1) = false := by rfl) :
    PE X (.Call (.Name x p) (e :: es) [] pos) (tMakeT C sp E t) := by
  refine ⟨fun pins s σ H Q I h => ?_⟩
  refine wpAny_Call_Name_kw (ld_glob I hg hm ?_ hdb)
  refine PySem.W.callWith_K (h₀ := X.base) I.ok.mod.kin M.kp (thn (ha.run pos pins s σ H _ I h) fun us s1 ⟨vs, H1, I1, r, q⟩ => ⟨I1.kIn, ?_⟩) he hpl
  exact run_makeS M F hr hb (hx σ) I1 r q
end
def rIsX (K : PySem.W.Frag) (a : Addr) (cls : Value) (d : Option Addr) : List V → Hp → VK → Prop := fun xs H Q => ∃ D, cls = .ref D ∧ d = none ∧ ExcC K D ∧ rIsE K D a xs H Q
theorem call_isX {X : Cx} {a : Addr} {cls : Value} {d : Option Addr} {oe : Obj} {pn : List (Addr × Obj)} (hz : Zc cls d oe) (hf : ∃ vs, oe.data = .fields vs) : CallR (X.suite a ((a, oe) :: pn)) (.builtin "isinstance") (rIsX X.K a cls d) := by
  intro pins s σ H xs us Q I r h
  obtain ⟨D, rfl, rfl, C, h⟩ := h
  exact call_isE C hz hf pins s σ H xs us Q I r h
/-- isinstance of the caught error of class D -/
theorem g_isX {K : PySem.W.Frag} {a D c : Addr} {b : Bool} {H : Hp} {Q : VK} (C : ExcC K D) (e : PySem.W.kitOne K (.ref D) (.ref c) = some b) (q : Q (.bl b) H) : rIsX K a (.ref D) none [.ref a, .ref c] H Q :=
  ⟨D, rfl, rfl, C, .ref c, .ref c, b, rfl, fun _ h => h, e, q⟩
theorem g_isXt {K : PySem.W.Frag} {a D : Addr} {c : String} {b : Bool} {H : Hp} {Q : VK} (C : ExcC K D) (e : PySem.W.kitOne K (.ref D) (.type c) = some b) (q : Q (.bl b) H) : rIsX K a (.ref D) none [.ref a, .ty c] H Q :=
  ⟨D, rfl, rfl, C, .ty c, .type c, b, rfl, fun _ h => h, e, q⟩

local macro_rules | `(tactic| walk_at "sq") => `(tactic| first | assumption | exact SqL.of (by assumption) | exact Led.base (by assumption) (by assumption) | exact Led.sq (by assumption) 0 rfl | exact Led.sq (by assumption) 1 rfl | exact Led.sq (by assumption) 2 rfl | exact Led.sq (by assumption) 3 rfl | exact Led.sq (by assumption) 4 rfl | exact Led.sq (by assumption) 5 rfl | exact Led.sq (by assumption) 6 rfl | exact Led.sq (by assumption) 7 rfl | exact Led.sq (by assumption) 8 rfl | exact Led.sq (by assumption) 9 rfl)
local macro_rules | `(tactic| walk_at "ar") => `(tactic| first | omega | assumption | ((with_reducible show (0 : Int) ≤ (_ : Int) % (_ : Int)); exact Int.emod_nonneg _ (by omega)) | ((with_reducible show (_ : Int) % (_ : Int) < (_ : Int)); exact Int.emod_lt_of_pos _ (by omega)) | decide)
local macro_rules | `(tactic| walk_at "g1") => `(tactic| with_reducible first | refine g_seq ?_ | refine g_asg ?_ | refine g_name ?_ | refine g_c ?_ | refine g_op ?_ | refine g_un ?_ | refine g_call ?_ | refine g_cons ?_ | refine g_nil ?_ | refine g_I0 ?_ | refine g_tTest ?_ | refine g_tB ?_ | refine g_bl ?_ | refine g_blV ?_ | refine g_and ?_ | refine g_or ?_ | refine g_not ?_ | refine g_andV ?_ | refine g_orV ?_ | refine g_notV ?_ | refine g_ifE ?_ | refine g_ifS ?_ | refine g_next ?_ | refine g_ret ?_ | refine g_retN ?_ | refine g_drop ?_ | refine g_raise ?_ | refine g_cb ?_ | refine g_lst ?_ | refine g_tFld ?_ | refine g_for1 ?_ | refine g_for2 ?_ | refine g_forL ?_ | refine g_lc1 ?_ | refine g_lcL ?_ | refine g_lcV ?_ | refine g_yes ?_ | refine g_make ?_ | refine g_meth ?_ | refine g_methT ?_ | refine g_makeT ?_ | refine g_callS ?_ | refine g_sfld ?_ | refine g_sub ?_ | refine g_bm ?_ | refine g_try1 ?_ | refine g_tryAs ?_ | refine g_tryN ?_ | refine g_sl ?_ | refine g_noPart ?_ | refine g_part ?_ | refine g_partI ?_ | refine g_eqI ?_ | refine g_neI ?_ | refine g_eqB ?_ | refine g_neB ?_ | refine g_eqS ?_ | refine g_neS ?_ | refine g_U ?_ | refine g_notNn ?_ | refine g_notNi ?_ | refine g_isNn ?_ | refine g_isNi ?_)
local macro_rules | `(tactic| walk_at "ra") => `(tactic| first | assumption | exact Led.ra (by assumption) (by assumption) | exact NewRows.at_ (by assumption))
local macro_rules | `(tactic| walk_at "gif") => `(tactic| ((with_reducible show @ite _ _ _ _ _); first | refine iteT ?_ | refine iteF ?_ | refine ifNT ?_ | refine ifNF ?_ | ((with_reducible show @ite _ (@decide _ _ = true) _ _ _); first | refine ifPt (by walk_at "ar") ?_ | refine ifPf (by walk_at "ar") ?_) | refine ifNt (by walk_at "ar") ?_ | refine ifNf (by walk_at "ar") ?_))
local macro_rules | `(tactic| walk_at "g2") => `(tactic| with_reducible first | ((show Exists _); first | refine g_rng1 (by walk_at "ar") (by walk_at "ar") ?_ | refine g_rng2 (by walk_at "ar") (by walk_at "ar") (by walk_at "ar") (by walk_at "ar") ?_ | refine g_lstwR (by walk_at "ra") ?_ | refine g_lstw (by walk_at "sq") ?_) | ((show mLen _ _ _ _); first | refine g_lenR (by walk_at "ra") ?_ | refine g_lenI (by walk_at "sq") ?_ | refine g_len (by walk_at "sq") ?_) | ((show rIxL _ _ _ _ _); refine g_ixI (by walk_at "sq") (by walk_at "ar") (by walk_at "ar") ?_) | ((show mMod _ _ _ _); refine g_mod (by walk_at "ar") ?_) | ((show mFdiv _ _ _ _); refine g_fdiv (by walk_at "ar") (by walk_at "ar") ?_) | ((show mMul _ _ _ _); first | refine g_mulL (by walk_at "ar") ?_ | refine g_mulR (by walk_at "ar") ?_) | ((show And _ _); refine g_ty (by walk_at "sq") ?_) | ((show rSum _ _ _ _); refine g_sum (by walk_at "sq") ?_) | refine isi_ii ?_ | refine isi_ib ?_ | refine isi_bb ?_ | walk_at "gif")
local macro_rules | `(tactic| walk_at "g") => `(tactic| repeat (first | walk_at "g1" | ((with_reducible show tVar _ _ _ _); refine g_var rfl ?_) | walk_at "g2"))
local macro_rules | `(tactic| walk_at "row") => `(tactic| with_reducible refine g_row (by walk_at "ra") (by walk_at "ar") (by walk_at "ar") ?_)
/-! The rows that a law draws: what is known of them -/
def other (g many : Int) : Int := if g < 0 then g else many - 1 - g
def flipRows (rows : List (List Int)) : List (List Int) := (rows.map (fun row => row.map (fun g => other g rows.length))).reverse
/-- how many exits of a row, the k-th, do not lead downwards -/
def ups (k : Nat) (row : List Int) : Nat := row.countP (fun g => decide ((k : Int) ≤ g))
def upsFrom : Nat → List (List Int) → Nat
  | _, [] => 0
  | k, row :: r => ups k row + upsFrom (k + 1) r
def Down (rows : List (List Int)) : Prop := ∀ k : Nat, k < rows.length → ∃ g, g ∈ rows.getD k [] ∧ g < k
def K0 (rows : List (List Int)) : Prop := OkRows rows ∧ Down rows ∧ ((rows.length ≤ 4 ∧ ∀ row, row ∈ rows → row.length ≤ 3) ∨ upsFrom 0 rows ≤ 3)
def Shape (rows : List (List Int)) : Prop := ∃ r0, K0 r0 ∧ (rows = r0 ∨ rows = flipRows r0)
theorem flip_length (rows : List (List Int)) : (flipRows rows).length = rows.length := by simp [flipRows]
theorem other_range {g many : Int} (h1 : -1 ≤ g) (h2 : g < many) : -1 ≤ other g many ∧ other g many < many := by
  unfold other
  split <;> omega
theorem other_other {g many : Int} (h2 : g < many) : other (other g many) many = g := by
  by_cases h : g < 0
  · simp only [other, h, if_true]
  · have q : ¬ (many - 1 - g < 0) := by omega
    simp only [other, h, q, if_false]
    omega
theorem flip_at {rows : List (List Int)} {k : Nat} (hk : k < rows.length) : (flipRows rows).getD k [] = (rows.getD (rows.length - 1 - k) []).map (fun g => other g rows.length) := by
  unfold flipRows
  have h1 : k < (rows.map (fun row => row.map (fun g => other g rows.length))).length := by simpa using hk
  have h2 : rows.length - 1 - k < rows.length := by omega
  rw [List.getD_eq_getElem?_getD, List.getElem?_reverse h1, List.length_map, List.getElem?_map, List.getElem?_eq_getElem h2, List.getD_eq_getElem?_getD, List.getElem?_eq_getElem h2]
  rfl
theorem rows_ext {r1 r2 : List (List Int)} (hl : r1.length = r2.length) (h : ∀ k, k < r1.length → r1.getD k [] = r2.getD k []) : r1 = r2 := by
  apply List.ext_getElem hl
  intro k h1 h2
  have q := h k h1
  rw [List.getD_eq_getElem?_getD, List.getD_eq_getElem?_getD, List.getElem?_eq_getElem h1, List.getElem?_eq_getElem h2] at q
  exact q
theorem flip_flip {rows : List (List Int)} (h : ∀ row, row ∈ rows → ∀ g, g ∈ row → g < rows.length) : flipRows (flipRows rows) = rows := by
  refine rows_ext (by rw [flip_length, flip_length]) fun k hk => ?_
  rw [flip_length, flip_length] at hk
  rw [flip_at (by rw [flip_length]; exact hk), flip_length, flip_at (by omega), List.map_map]
  have e : rows.length - 1 - (rows.length - 1 - k) = k := by omega
  rw [e]
  refine (List.map_congr_left fun g hg => ?_).trans (List.map_id _)
  exact other_other (h _ (getD_mem hk) g hg)
theorem flip_ok {rows : List (List Int)} (h : OkRows rows) : OkRows (flipRows rows) := by
  refine ⟨by rw [flip_length]; exact h.1, by rw [flip_length]; exact h.2.1, fun row hr => ?_⟩
  rw [flip_length]
  unfold flipRows at hr
  rw [List.mem_reverse] at hr
  obtain ⟨row', hm, rfl⟩ := List.mem_map.mp hr
  obtain ⟨h1, h2, h3⟩ := h.2.2 row' hm
  refine ⟨by rw [List.length_map]; exact h1, by rw [List.length_map]; exact h2, fun g hg => ?_⟩
  obtain ⟨g', hg', rfl⟩ := List.mem_map.mp hg
  exact other_range (h3 g' hg').1 (h3 g' hg').2
theorem Shape.ok {rows : List (List Int)} (h : Shape rows) : OkRows rows := by
  obtain ⟨r0, h, rfl | rfl⟩ := h
  · exact h.1
  · exact flip_ok h.1
theorem upsFrom_append : ∀ (k : Nat) (a b : List (List Int)), upsFrom k (a ++ b) = upsFrom k a + upsFrom (k + a.length) b
  | k, [], b => by simp [upsFrom]
  | k, x :: a, b => by
    show ups k x + upsFrom (k + 1) (a ++ b) = ups k x + upsFrom (k + 1) a + upsFrom (k + (a.length + 1)) b
    rw [upsFrom_append (k + 1) a b, Nat.add_assoc, Nat.add_assoc, Nat.add_comm 1 a.length]
theorem upsFrom_set : ∀ (k : Nat) (a : List (List Int)) (i : Nat) (row : List Int), i < a.length → upsFrom k (a.set i row) + ups (k + i) (a.getD i []) = upsFrom k a + ups (k + i) row
  | k, [], i, row, h => by simp at h
  | k, x :: a, 0, row, h => by
    show ups k row + upsFrom (k + 1) a + ups (k + 0) x = ups k x + upsFrom (k + 1) a + ups (k + 0) row
    simp only [Nat.add_zero]
    omega
  | k, x :: a, i + 1, row, h => by
    have ih := upsFrom_set (k + 1) a i row (by simpa using h)
    show ups k x + upsFrom (k + 1) (a.set i row) + ups (k + (i + 1)) (a.getD i []) = ups k x + upsFrom (k + 1) a + ups (k + (i + 1)) row
    have e : k + 1 + i = k + (i + 1) := by omega
    have ih2 : upsFrom (k + 1) (a.set i row) + ups (k + (i + 1)) (a.getD i []) = upsFrom (k + 1) a + ups (k + (i + 1)) row := by rw [← e]; exact ih
    rw [Nat.add_assoc, ih2, Nat.add_assoc]
theorem ups_insert {k : Nat} (row : List Int) (i : Nat) (x : Int) : ups k (row.take i ++ [x] ++ row.drop i) ≤ ups k row + 1 := by
  have e : ups k row = ups k (row.take i) + ups k (row.drop i) := by
    unfold ups
    rw [← List.countP_append, List.take_append_drop]
  unfold ups at e ⊢
  rw [List.countP_append, List.countP_append]
  have : List.countP (fun g => decide ((k : Int) ≤ g)) [x] ≤ 1 := by simpa using List.countP_le_length (p := fun g => decide ((k : Int) ≤ g)) (l := [x])
  omega
theorem ups_zero {k : Nat} {row : List Int} (h : ∀ g, g ∈ row → g < k) : ups k row = 0 := by
  unfold ups
  rw [List.countP_eq_zero]
  intro g hg
  have := h g hg
  simp
  omega

/-! A board's state on paper, and one step of it -/
structure Sta where
  turns : List Int
  loads : List Int
  steps : List Int
  taken : Int
def exitOf (rows : List (List Int)) (turns : List Int) (k : Nat) : Int := (rows.getD k []).getD (turns.getD k 0).toNat 0
def gone (g : Int) (loads : List Int) : List Int := if g = -1 then loads else loads.set g.toNat (loads.getD g.toNat 0 + 1)
def stepS (rows : List (List Int)) (S : Sta) (k : Nat) : Sta where
  turns := S.turns.set k ((S.turns.getD k 0 + 1) % ((rows.getD k []).length : Int))
  loads := gone (exitOf rows S.turns k) (S.loads.set k (S.loads.getD k 0 - 1))
  steps := S.steps.set k (S.steps.getD k 0 + 1)
  taken := if exitOf rows S.turns k = -1 then S.taken + 1 else S.taken
/-- a state that goes with rows -/
structure SOk (rows : List (List Int)) (S : Sta) : Prop where
  tk : TurnsOk rows S.turns
  ll : S.loads.length = rows.length
  ls : S.steps.length = rows.length
theorem gone_len (g : Int) (loads : List Int) : (gone g loads).length = loads.length := by
  unfold gone
  split <;> simp
theorem TurnsOk.on {rows : List (List Int)} {turns : List Int} (h : TurnsOk rows turns) (k : Nat) {x : Int} (hx : k < rows.length → 0 ≤ x ∧ x < (rows.getD k []).length) : TurnsOk rows (turns.set k x) := by
  refine ⟨by rw [List.length_set]; exact h.1, fun j hj => ?_⟩
  by_cases hk : k < turns.length
  · rw [getD_set hk]
    by_cases e : k = j
    · subst e
      rw [if_pos rfl]
      exact hx hj
    · rw [if_neg e]
      exact h.2 j hj
  · rw [List.set_eq_of_length_le (by omega)]
    exact h.2 j hj
theorem SOk.step {rows : List (List Int)} {S : Sta} (h : SOk rows S) (ok : OkRows rows) (k : Nat) : SOk rows (stepS rows S k) where
  tk := h.tk.on k fun hk => by
    have := (ok.row hk).1
    exact ⟨Int.emod_nonneg _ (by omega), Int.emod_lt_of_pos _ (by omega)⟩
  ll := by
    show (gone _ _).length = _
    rw [gone_len, List.length_set]
    exact h.ll
  ls := by
    show (List.set _ _ _).length = _
    rw [List.length_set]
    exact h.ls
theorem exitOf_range {rows : List (List Int)} {turns : List Int} {k : Nat} (ok : OkRows rows) (tk : TurnsOk rows turns) (hk : k < rows.length) : -1 ≤ exitOf rows turns k ∧ exitOf rows turns k < rows.length := by
  have := tk.2 k hk
  exact ok.exit hk (by omega)
theorem exitOf_mem {rows : List (List Int)} {turns : List Int} {k : Nat} (tk : TurnsOk rows turns) (hk : k < rows.length) : exitOf rows turns k ∈ rows.getD k [] := by
  have := tk.2 k hk
  exact getD_mem (by omega)
/-- the same on lists with the pit's number behind -/
theorem gone_lying {g : Int} {loads : List Int} {taken : Int} (h0 : -1 ≤ g) (h1 : g < loads.length) :
    (if g = -1 then (loads ++ [taken]).set loads.length ((loads ++ [taken]).getD loads.length 0 + 1) else (loads ++ [taken]).set g.toNat ((loads ++ [taken]).getD g.toNat 0 + 1)) = gone g loads ++ [if g = -1 then taken + 1 else taken] := by
  unfold gone
  by_cases e : g = -1
  · rw [if_pos e, if_pos e, if_pos e]
    rw [List.getD_eq_getElem?_getD, List.getElem?_append_right (Nat.le_refl _), Nat.sub_self]
    rw [List.set_append_right _ _ (Nat.le_refl _), Nat.sub_self]
    rfl
  · rw [if_neg e, if_neg e, if_neg e]
    have hl : g.toNat < loads.length := by omega
    rw [List.getD_eq_getElem?_getD, List.getElem?_append_left hl, ← List.getD_eq_getElem?_getD, List.set_append_left _ _ hl]
theorem set_nonneg {xs : List Int} {k : Nat} {x : Int} (h : ∀ y, y ∈ xs → 0 ≤ y) (hx : 0 ≤ x) : ∀ y, y ∈ xs.set k x → 0 ≤ y := fun y hy => by
  rcases List.mem_or_eq_of_mem_set hy with h1 | h1
  · exact h y h1
  · rw [h1]
    exact hx
theorem getD_nonneg {xs : List Int} (h : ∀ y, y ∈ xs → 0 ≤ y) (k : Nat) : 0 ≤ xs.getD k 0 := by
  by_cases hk : k < xs.length
  · exact h _ (getD_mem hk)
  · rw [List.getD_eq_getElem?_getD, List.getElem?_eq_none (by omega)]
    exact Int.le_refl 0
theorem sum_setD {xs : List Int} {k : Nat} (hk : k < xs.length) (x : Int) : (xs.set k x).sum = xs.sum - xs.getD k 0 + x := by
  rw [List.getD_eq_getElem?_getD, List.getElem?_eq_getElem hk]
  exact sum_set (List.getElem?_eq_getElem hk)
theorem lying_getD {loads : List Int} {taken : Int} {k : Nat} (hk : k < loads.length) : (loads ++ [taken]).getD k 0 = loads.getD k 0 := by
  rw [List.getD_eq_getElem?_getD, List.getElem?_append_left hk, ← List.getD_eq_getElem?_getD]
theorem OkRows.exits {rows : List (List Int)} (ok : OkRows rows) : ∀ k : Nat, k < rows.length → ∀ g, g ∈ rows.getD k [] → -1 ≤ g ∧ g < rows.length := fun _ hk => (ok.row hk).2.2

/-! Texts of boards -/
def mCatS : R2 := fun x y H Q => ∃ i j, x = .str i ∧ y = .str j ∧ i.length + j.length ≤ sizeLine ∧ Q (.str (i ++ j)) H
def tJoin (K : PySem.W.Frag) (to te : TE) : TE := tM1 (fun x xs H Q => ∃ a p, ∃ ys : List Str, x = .str a ∧ xs = [.ref p] ∧ (SqL K H p (ys.map V.str) ∨ SqT K H p (ys.map V.str)) ∧ (ys.map (·.length)).sum + ys.length * a.length ≤ 16777216 ∧ Q (.str (Txt.join a ys)) H) to te
abbrev slst (xs : List Str) : HO := .lst (xs.map V.str)
section
variable {K : PySem.W.Frag} {H : Hp} {Q : VK} {σ : L2.St}
theorem g_cat {i j : Str} (h : i.length + j.length ≤ sizeLine) (q : Q (.str (i ++ j)) H) : mCatS (.str i) (.str j) H Q := ⟨i, j, rfl, rfl, h, q⟩
theorem g_str {i : Int} (h0 : -1 ≤ i) (h1 : i < 100000000000000000000) (q : Q (.str (toString i)) H) : mStr [.int i] H Q := by
  refine ⟨i, rfl, ?_, q⟩
  have h : i.natAbs < 100000000000000000000 := by omega
  by_cases z : i.natAbs = 0
  · rw [z]
    decide
  · have : i.natAbs.log2 < 67 := (Nat.log2_lt z).mpr (Nat.lt_of_lt_of_le h (by decide))
    omega
theorem g_join {to te : TE} (h : to σ H fun x H1 => (∃ a, x = .str a) ∧ te σ H1 fun y H2 => ∃ a p, ∃ ys : List Str, x = .str a ∧ [y] = [.ref p] ∧ (SqL K H2 p (ys.map V.str) ∨ SqT K H2 p (ys.map V.str)) ∧ (ys.map (·.length)).sum + ys.length * a.length ≤ 16777216 ∧ Q (.str (Txt.join a ys)) H2) : tJoin K to te σ H Q := h
theorem isi_ss {x : Str} (h : Q (.bl true) H) : rIsi K [.str x, .ty "str"] H Q := ⟨.str x, .ty "str", .type "str", .type "str", true, rfl, .ty "str", .base (.str x), kit_ty (by decide +kernel), h⟩
end
def exS (g : Int) : Str := if g < 0 then "pit" else toString g
def joinS (sep : Str) (x : Str) (xs : List Str) : Str := xs.foldl (fun acc p => acc ++ sep ++ p) x
theorem join_cons (sep x : Str) (xs : List Str) : Txt.join sep (x :: xs) = joinS sep x xs := by
  have gen : ∀ (xs : List Str) (x : Str), (⟨xs.foldl (fun acc p => acc ++ sep.cps ++ p.cps) x.cps⟩ : Str) = joinS sep x xs := by
    intro xs
    induction xs with
    | nil => intro x; rfl
    | cons y ys ih =>
      intro x
      show (⟨ys.foldl (fun acc p => acc ++ sep.cps ++ p.cps) (x.cps ++ sep.cps ++ y.cps)⟩ : Str) = joinS sep (x ++ sep ++ y) ys
      rw [← ih]
      rfl
  exact gen xs x
theorem joinS_pre (sep a x : Str) (xs : List Str) : a ++ joinS sep x xs = joinS sep (a ++ x) xs := by
  induction xs generalizing x with
  | nil => rfl
  | cons y ys ih =>
    show a ++ joinS sep (x ++ sep ++ y) ys = joinS sep (a ++ x ++ sep ++ y) ys
    rw [ih, PySem.Str.append_assoc a x sep, PySem.Str.append_assoc a (x ++ sep) y]
theorem joinS_push (sep x y : Str) (xs : List Str) : joinS sep x (xs ++ [y]) = joinS sep x xs ++ sep ++ y := by
  unfold joinS
  rw [List.foldl_append]
  rfl
/-- a site's line -/
def siteH (t l s : Int) : Str := joinS " " (toString t) [toString l, toString s, ">"]
def siteT (t l s : Int) (row : List Int) : Str := joinS " " (siteH t l s) (row.map exS)
def textT (rows : List (List Int)) (C : Sta) (k : Nat) : Str := joinS "\n" ("board " ++ toString C.taken) ((List.range k).map fun j => siteT (C.turns.getD j 0) (C.loads.getD j 0) (C.steps.getD j 0) (rows.getD j []))
theorem textT_next (rows : List (List Int)) (C : Sta) (k : Nat) : textT rows C (k + 1) = textT rows C k ++ "\n" ++ siteT (C.turns.getD k 0) (C.loads.getD k 0) (C.steps.getD k 0) (rows.getD k []) := by
  unfold textT
  rw [List.range_succ, List.map_append]
  exact joinS_push _ _ _ _
theorem site_line (t l s : Int) (row : List Int) : Txt.join " " (([toString t, toString l, toString s, ">"] : List Str) ++ row.map exS) = siteT t l s row := by
  show Txt.join " " ((toString t : Str) :: (([toString l, toString s, ">"] : List Str) ++ row.map exS)) = _
  rw [join_cons]
  unfold siteT siteH joinS
  rw [List.foldl_append]
theorem ts_len : ∀ n : Nat, n < 100 → (toString (n : Int) : Str).length ≤ 2 := by decide +kernel
theorem ts_len2 {i : Int} (h0 : 0 ≤ i) (h1 : i < 100) : (toString i : Str).length ≤ 2 := by
  have := ts_len i.toNat (by omega)
  rw [show ((i.toNat : Nat) : Int) = i by omega] at this
  exact this
theorem ts_len' {i : Int} (h0 : 0 ≤ i) (h1 : i < 100000000000000000000) : (toString i : Str).length ≤ 20 := by
  obtain ⟨n, rfl⟩ : ∃ n : Nat, i = n := ⟨i.toNat, by omega⟩
  have e : (toString (n : Int) : Str).cps.toList = TL.numL n := TL.tl_num n
  have l : (toString (n : Int) : Str).length = (toString (n : Int) : Str).cps.toList.length := TL.len_tl _
  rw [l, e]
  exact TL.numL_len (n := n) (k := 20) (by decide) (by omega)
theorem lenA (a b : Str) : (a ++ b).length = a.length + b.length := PySem.Str.length_append a b
theorem exS_len {g : Int} (h0 : -1 ≤ g) (h1 : g < 100) : (exS g).length ≤ 3 := by
  unfold exS
  split
  · decide +kernel
  · have := ts_len2 (i := g) (by omega) h1
    omega
theorem joinS_len {sep : Str} {b : Nat} : ∀ (xs : List Str) (x : Str), (∀ y, y ∈ xs → y.length ≤ b) → (joinS sep x xs).length ≤ x.length + xs.length * (sep.length + b)
  | [], x, _ => by show x.length ≤ _; omega
  | y :: ys, x, h => by
    have ih := joinS_len (sep := sep) ys (x ++ sep ++ y) fun z hz => h z (by simp [hz])
    have hy := h y (by simp)
    rw [lenA, lenA] at ih
    show (joinS sep (x ++ sep ++ y) ys).length ≤ _
    rw [List.length_cons, Nat.add_mul, Nat.one_mul]
    omega
structure Small (rows : List (List Int)) (C : Sta) : Prop where
  t : ∀ k, k < rows.length → 0 ≤ C.turns.getD k 0 ∧ C.turns.getD k 0 < 100000000000000000000
  l : ∀ k, k < rows.length → 0 ≤ C.loads.getD k 0 ∧ C.loads.getD k 0 < 100000000000000000000
  s : ∀ k, k < rows.length → 0 ≤ C.steps.getD k 0 ∧ C.steps.getD k 0 < 100000000000000000000
  n : 0 ≤ C.taken ∧ C.taken < 100000000000000000000
theorem siteH_len {t l s : Int} (ht : 0 ≤ t ∧ t < 100000000000000000000) (hl : 0 ≤ l ∧ l < 100000000000000000000) (hs : 0 ≤ s ∧ s < 100000000000000000000) : (siteH t l s).length ≤ 64 := by
  have a := ts_len' ht.1 ht.2
  have b := ts_len' hl.1 hl.2
  have c := ts_len' hs.1 hs.2
  show ((toString t : Str) ++ " " ++ (toString l : Str) ++ " " ++ (toString s : Str) ++ " " ++ (">" : Str)).length ≤ 64
  rw [lenA, lenA, lenA, lenA, lenA, lenA]
  have e1 : (" " : Str).length = 1 := by decide +kernel
  have e2 : (">" : Str).length = 1 := by decide +kernel
  omega
theorem siteT_len {t l s : Int} {row : List Int} (ht : 0 ≤ t ∧ t < 100000000000000000000) (hl : 0 ≤ l ∧ l < 100000000000000000000) (hs : 0 ≤ s ∧ s < 100000000000000000000) (hr : row.length ≤ 8) (hg : ∀ g, g ∈ row → -1 ≤ g ∧ g < 100) : (siteT t l s row).length ≤ 96 := by
  have a := siteH_len ht hl hs
  have b := joinS_len (sep := " ") (b := 3) (row.map exS) (siteH t l s) fun y hy => by
    obtain ⟨g, hg1, rfl⟩ := List.mem_map.mp hy
    exact exS_len (hg g hg1).1 (hg g hg1).2
  have e1 : (" " : Str).length = 1 := by decide +kernel
  rw [e1, List.length_map] at b
  unfold siteT
  omega
theorem head_len {n : Int} (h : 0 ≤ n ∧ n < 100000000000000000000) : (("board " : Str) ++ (toString n : Str)).length ≤ 26 := by
  have := ts_len' h.1 h.2
  have e : ("board " : Str).length = 6 := by decide +kernel
  rw [lenA, e]
  omega
theorem textT_len {rows : List (List Int)} {C : Sta} (ok : OkRows rows) (sm : Small rows C) : ∀ k, k ≤ rows.length → (textT rows C k).length ≤ 26 + 97 * k
  | 0, _ => head_len sm.n
  | k + 1, h => by
    have ih := textT_len ok sm k (by omega)
    have hk : k < rows.length := by omega
    have s := siteT_len (row := rows.getD k []) (sm.t k hk) (sm.l k hk) (sm.s k hk) (ok.row hk).2.1 fun g hg => by
      have := (ok.row hk).2.2 g hg
      have := ok.2.1
      omega
    have e1 : ("\n" : Str).length = 1 := by decide +kernel
    rw [textT_next, lenA, lenA, e1]
    omega
theorem sum_len : ∀ (ys : List Str) (b : Nat), (∀ y, y ∈ ys → y.length ≤ b) → (ys.map (·.length)).sum ≤ ys.length * b
  | [], b, _ => by show 0 ≤ _; omega
  | y :: ys, b, h => by
    have ih := sum_len ys b fun z hz => h z (by simp [hz])
    have hy := h y (by simp)
    rw [List.map_cons, List.sum_cons, List.length_cons, Nat.add_mul, Nat.one_mul]
    omega
theorem g_ext {K : PySem.W.Frag} {B H : Hp} {Q : VK} {L : List (Addr × HO)} (led : Led B L H) (j : Nat) {p b : Addr} {xs zs : List V} (e : L[j]? = some (p, .lst xs)) (e2 : H b = some (.lst zs)) (hl : xs.length + zs.length ≤ 100000) (q : ∀ H', Led B (L.set j (p, .lst (xs ++ zs))) H' → Q .non H') :
    rExtend (.ref p) [.ref b] H Q := ⟨p, b, xs, zs, rfl, rfl, led.get j e, e2, Nat.le_trans hl (by decide), q _ (led.set e _)⟩
/-- texts of a list of ints -/
theorem lcIS {K : PySem.W.Frag} {σ : L2.St} {H : Hp} {Q : VK} {te : TE} {i : Nat} {vs : List Nat} {a : Addr} {ns : List Int} (f : Int → Str) (hn : ns.length ≤ 100000) (s : SqL K H a (ns.map V.int)) (hw : ∀ x : V, wipe ((wipe σ vs).set i (some x)) vs = wipe σ vs)
    (hs : ∀ k H1 (R : VK), k < ns.length → Same H H1 → R (.str (f (ns.getD k 0))) H1 → te ((wipe σ vs).set i (some (.int (ns.getD k 0)))) H1 R)
    (hd : ∀ D H1, H D = none → Same H H1 → H1 D = some (slst (ns.map f)) → Q (.ref D) H1) : LcL K a i tYes te vs σ H Q := by
  refine lcL (xs := ns.map V.int) (fun D k H1 => Led H [(D, slst ((ns.take k).map f))] H1) (fun D nD => (Led.nil H).alloc nD _) (fun D k H1 _ l => l.base s) hw ?_ ?_
  · intro D k x H1 nD hx l
    have hk : k < ns.length := by
      have := (List.getElem?_eq_some_iff.mp hx).1
      simpa using this
    have e : x = .int (ns.getD k 0) := by
      rw [List.getElem?_map, List.getElem?_eq_getElem hk] at hx
      rw [List.getD_eq_getElem?_getD, List.getElem?_eq_getElem hk]
      exact (Option.some.inj hx).symm
    rw [e]
    refine hs k H1 _ hk l.same ⟨((ns.take k).map f).map V.str, l.get 0 rfl, ?_, ?_⟩
    · rw [List.length_map, List.length_map, List.length_take]
      exact Nat.lt_of_lt_of_le (show min k ns.length < 100000 by omega) (by decide)
    · have z := l.set (i := 0) rfl (.lst (((ns.take k).map f).map V.str ++ [V.str (f (ns.getD k 0))]))
      have e2 : slst ((ns.take (k + 1)).map f) = .lst (((ns.take k).map f).map V.str ++ [V.str (f (ns.getD k 0))]) := by
        have tk1 : ns.take (k + 1) = ns.take k ++ [ns.getD k 0] := by
          rw [List.take_add_one, List.getD_eq_getElem?_getD, List.getElem?_eq_getElem hk]
          rfl
        rw [slst, tk1, List.map_append, List.map_append]
        rfl
      rw [e2]
      exact z
  · intro D H1 nD l
    rw [List.length_map, List.take_length] at l
    exact hd D H1 nD l.same (l.get 0 rfl)
def linesT (rows : List (List Int)) (C : Sta) (k : Nat) : List Str := ("board " ++ toString C.taken) :: (List.range k).map fun j => siteT (C.turns.getD j 0) (C.loads.getD j 0) (C.steps.getD j 0) (rows.getD j [])
theorem linesT_len (rows : List (List Int)) (C : Sta) (k : Nat) : (linesT rows C k).length = k + 1 := by
  unfold linesT
  rw [List.length_cons, List.length_map, List.length_range]
theorem linesT_next (rows : List (List Int)) (C : Sta) (k : Nat) : linesT rows C (k + 1) = linesT rows C k ++ [siteT (C.turns.getD k 0) (C.loads.getD k 0) (C.steps.getD k 0) (rows.getD k [])] := by
  unfold linesT
  rw [List.range_succ, List.map_append]
  rfl
theorem linesT_join (rows : List (List Int)) (C : Sta) (k : Nat) : Txt.join "\n" (linesT rows C k) = textT rows C k := join_cons _ _ _
theorem linesT_short {rows : List (List Int)} {C : Sta} (ok : OkRows rows) (sm : Small rows C) : ∀ y, y ∈ linesT rows C rows.length → y.length ≤ 96 := fun y hy => by
  unfold linesT at hy
  rcases List.mem_cons.mp hy with rfl | hy
  · have := head_len sm.n
    omega
  · obtain ⟨k, hk, rfl⟩ := List.mem_map.mp hy
    have hk : k < rows.length := List.mem_range.mp hk
    refine siteT_len (sm.t k hk) (sm.l k hk) (sm.s k hk) (ok.row hk).2.1 fun g hg => ?_
    have := (ok.row hk).2.2 g hg
    have := ok.2.1
    omega

/-! Words and numbers read -/
def tSplit (_ : PySem.W.Frag) (to te : TE) : TE := tM1 (fun x xs H Q => ∃ a b, x = .str a ∧ xs = [.str b] ∧ (b.length == 0) = false ∧ a.length + 2 ≤ sizeLine ∧ rNewStrs (Txt.split a b) H Q) to te
def mIntS : List V → Hp → VK → Prop := fun xs H Q => ∃ a n, xs = [.str a] ∧ PySem.intText? a = some n ∧ a.length ≤ 640 ∧ Q (.int n) H
section
variable {K : PySem.W.Frag} {H : Hp} {Q : VK} {σ : L2.St} {i : Nat} {tb : TS} {D : Ends}
theorem g_lenS {z : Str} (hl : z.length ≤ 100000) (h : Q (.int z.length) H) : mLenS [.str z] H Q := ⟨z, rfl, Nat.le_trans hl (by decide), h⟩
theorem g_ixS {z : Str} {i : Int} {c : Nat} (hl : z.length ≤ 100000) (h0 : 0 ≤ i) (e : z.cps.toList[i.toNat]? = some c) (h : Q (.str ⟨#[c]⟩) H) : rIxS (.str z) (.int i) H Q :=
  ⟨z, i, c, rfl, rfl, Nat.le_trans hl (by decide), by
    have hk : i.toNat < z.cps.toList.length := (List.getElem?_eq_some_iff.mp e).1
    unfold atI
    rw [ixN_of h0 (by omega)]
    exact e, h⟩
theorem g_intS {a : Str} {n : Int} (e : PySem.intText? a = some n) (hl : a.length ≤ 640) (h : Q (.int n) H) : mIntS [.str a] H Q := ⟨a, n, rfl, e, hl, h⟩
theorem g_split {to te : TE} (h : to σ H fun x H1 => (∃ a, x = .str a) ∧ te σ H1 fun y H2 => ∃ a b, x = .str a ∧ [y] = [.str b] ∧ (b.length == 0) = false ∧ a.length + 2 ≤ sizeLine ∧ rNewStrs (Txt.split a b) H2 Q) : tSplit K to te σ H Q := h
def LoopS (x : Str) (i : Nat) (tb : TS) (D : Ends) (σ : L2.St) (H : Hp) : Prop := ∃ W : Nat → Nat → L2.St → Hp → Prop, (∃ m, W 0 m σ H) ∧ ∀ k m σ H, W k m σ H →
  ((Its x).stop k H ∧ D.nx σ H) ∨ ((Its x).go k H ∧ ∃ N : L2.St → Hp → Prop, (∀ σ' H', N σ' H' → ∃ m', m' < m ∧ W (k + 1) m' σ' H') ∧ ∀ v H', (Its x).yld k H v H' → gName i v σ H' fun σ2 H2 => tb { D with nx := N, ct := N, bk := D.nx } σ2 H2)
theorem g_forS {te : TE} (h : te σ H fun v H1 => ∃ x, v = .str x ∧ LoopS x i tb D σ H1) : tFor (iStr te) (gName i) tb D σ H := h
theorem loopS {x : Str} (Pv : Nat → L2.St → Hp → Prop) (h0 : Pv 0 σ H)
    (hs : ∀ k c σ H, x.cps.toList[k]? = some c → Pv k σ H → tb { D with nx := Pv (k + 1), ct := Pv (k + 1), bk := D.nx } (σ.set i (some (.str ⟨#[c]⟩))) H) (hd : ∀ σ H, Pv x.cps.toList.length σ H → D.nx σ H) : LoopS x i tb D σ H := by
  have hsz : x.cps.toList.length = x.cps.size := Array.length_toList
  refine ⟨fun k m σ H => m = x.cps.size - k ∧ k ≤ x.cps.size ∧ Pv k σ H, ⟨_, rfl, Nat.zero_le _, h0⟩, ?_⟩
  rintro k m σ H ⟨rfl, hk, p⟩
  by_cases hlt : k < x.cps.size
  · refine .inr ⟨hlt, Pv (k + 1), fun σ' H' p' => ⟨x.cps.size - (k + 1), by omega, rfl, hlt, p'⟩, ?_⟩
    rintro v H' ⟨rfl, c, e, rfl⟩
    exact hs k c σ H' (by rw [← e]; exact Array.getElem?_toList) p
  · have e : k = x.cps.size := by omega
    refine .inl ⟨show x.cps.size ≤ k by omega, hd σ H ?_⟩
    rw [hsz, ← e]
    exact p
end
/-- a word that writes a number -/
def NumOk (w : Str) : Prop := w.cps.toList ≠ [] ∧ w.length ≤ 20 ∧ (w.cps.toList.head? = some 48 → w.length = 1) ∧ PySem.NumText.AllDigits w.cps.toList
def numOf (w : Str) : Int := (PySem.NumText.digitsVal w.cps.toList : Nat)
theorem len_cps (w : Str) : w.length = w.cps.toList.length := TL.len_tl w
theorem figs : ("0123456789" : Str).cps.toList = [48, 49, 50, 51, 52, 53, 54, 55, 56, 57] := by decide +kernel
theorem in_figs {c : Nat} : c ∈ ("0123456789" : Str).cps.toList ↔ 48 ≤ c ∧ c ≤ 57 := by
  rw [figs]
  simp only [List.mem_cons, List.not_mem_nil, or_false]
  omega
theorem empty_iff {w : Str} : w = "" ↔ w.cps.toList = [] := by
  constructor
  · rintro rfl
    decide +kernel
  · intro h
    exact TL.ext_tl (h.trans (by decide +kernel : [] = TL.tl ("" : Str)))
theorem zero_iff {c : Nat} : (⟨#[c]⟩ : Str) = "0" ↔ c = 48 := by
  have e : ("0" : Str) = ⟨#[48]⟩ := by decide +kernel
  rw [e]
  constructor
  · intro h
    have := congrArg (fun s : Str => s.cps.toList) h
    simpa using this
  · rintro rfl
    rfl
theorem NumOk.reads {w : Str} (h : NumOk w) : PySem.intText? w = some (numOf w) := PySem.intText_digits h.2.2.2 h.1 (by have := h.2.1; omega)
theorem num_cps {n : Nat} : (toString (n : Int) : Str).cps.toList = TL.numL n := TL.tl_num n
theorem num_head : ∀ n : Nat, n ≠ 0 → (TL.numL n).head? ≠ some 48 := fun n => by
  induction n using Nat.strongRecOn with
  | _ n ih =>
    intro h0
    by_cases h : n < 10
    · rw [TL.numL_lt h]
      intro e
      have := Option.some.inj e
      omega
    · have z := ih (n / 10) (by omega) (by omega)
      obtain ⟨c, cs, e⟩ := List.exists_cons_of_ne_nil (TL.numL_ne (n / 10))
      rw [TL.numL_step (by omega), e]
      rw [e] at z
      exact z
theorem num_ok {n : Nat} (h : n < 10 ^ 20) : NumOk (toString (n : Int)) ∧ numOf (toString (n : Int)) = n := by
  have hl := TL.numL_len (n := n) (k := 20) (by decide) h
  refine ⟨⟨?_, ?_, ?_, ?_⟩, ?_⟩
  · rw [num_cps]
    exact TL.numL_ne n
  · rw [len_cps, num_cps]
    exact hl
  · rw [len_cps, num_cps]
    intro z
    by_cases h0 : n = 0
    · subst h0
      rw [TL.numL_lt (by decide)]
      rfl
    · exact absurd z (num_head n h0)
  · rw [num_cps]
    exact TL.numL_digits n
  · unfold numOf
    rw [num_cps, TL.numL_val]
theorem num_free {n s : Nat} (h : s < 48 ∨ 57 < s) : s ∉ (toString (n : Int) : Str).cps.toList := by
  rw [num_cps]
  exact TL.numL_free h
theorem split1 {y : Str} {s : Nat} {S : List Nat} (ey : y.cps.toList = s :: S) (hk : y.cps.all (· < 256) = true) {parts : List Str} (hne : parts ≠ []) (hp : ∀ p ∈ parts, s ∉ p.cps.toList) : Txt.split (Txt.join y parts) y = parts := TL.split_join ey hk hne hp
theorem nl_cps : ("\n" : Str).cps.toList = [10] := by decide +kernel
theorem bl_cps : (" " : Str).cps.toList = [32] := by decide +kernel
theorem cps_app (a b : Str) : (a ++ b).cps.toList = a.cps.toList ++ b.cps.toList := TL.tl_append a b
theorem board_cps : ("board" : Str).cps.toList = [98, 111, 97, 114, 100] := by decide +kernel
theorem head_split (n : Nat) : Txt.split ("board " ++ (toString (n : Int) : Str)) " " = [("board" : Str), (toString (n : Int) : Str)] := by
  have e : ("board " ++ (toString (n : Int) : Str) : Str) = Txt.join " " [("board" : Str), (toString (n : Int) : Str)] := by
    rw [join_cons]
    show _ = "board" ++ " " ++ (toString (n : Int) : Str)
    have : ("board " : Str) = "board" ++ " " := by decide +kernel
    rw [this]
  rw [e]
  refine split1 bl_cps (by decide +kernel) (by simp) fun p hp => ?_
  simp only [List.mem_cons, List.not_mem_nil, or_false] at hp
  rcases hp with rfl | rfl
  · rw [board_cps]
    decide
  · exact num_free (by omega)
theorem head_line (n : Nat) : 10 ∉ ("board " ++ (toString (n : Int) : Str) : Str).cps.toList := by
  rw [cps_app]
  intro h
  rcases List.mem_append.mp h with h | h
  · have : ("board " : Str).cps.toList = [98, 111, 97, 114, 100, 32] := by decide +kernel
    rw [this] at h
    revert h
    decide
  · exact num_free (by omega) h

/-! Lines and sites read -/
theorem cut_take2 {xs : List V} {i : Nat} (h : i ≤ xs.length) : cutV xs none (some (i : Int)) = xs.take i := by
  have e1 : HT.sIx xs.length xs.length (some (i : Int)) = i := by
    show (if (i : Int) < 0 then ((i : Int) + ((xs.length : Nat) : Int)).toNat else min (i : Int).toNat xs.length) = i
    rw [if_neg (by omega)]
    omega
  unfold cutV
  rw [e1]
  show List.take (i - 0) (xs.drop 0) = _
  rw [Nat.sub_zero, List.drop_zero]
theorem cut_drop2 {xs : List V} {i : Nat} (h : i ≤ xs.length) : cutV xs (some (i : Int)) none = xs.drop i := by
  have e1 : HT.sIx xs.length 0 (some (i : Int)) = i := by
    show (if (i : Int) < 0 then ((i : Int) + ((xs.length : Nat) : Int)).toNat else min (i : Int).toNat xs.length) = i
    rw [if_neg (by omega)]
    omega
  unfold cutV
  rw [e1]
  show List.take (xs.length - i) (xs.drop i) = _
  rw [List.take_of_length_le (by rw [List.length_drop]; exact Nat.le_refl _)]
theorem joinS_free {sep : Str} {c : Nat} (hs : c ∉ sep.cps.toList) : ∀ (xs : List Str) (x : Str), c ∉ x.cps.toList → (∀ y, y ∈ xs → c ∉ y.cps.toList) → c ∉ (joinS sep x xs).cps.toList
  | [], x, hx, _ => hx
  | y :: ys, x, hx, h => by
    show c ∉ (joinS sep (x ++ sep ++ y) ys).cps.toList
    refine joinS_free hs ys _ ?_ fun z hz => h z (List.mem_cons_of_mem _ hz)
    rw [cps_app, cps_app]
    intro hm
    rcases List.mem_append.mp hm with hm | hm
    · rcases List.mem_append.mp hm with hm | hm
      · exact hx hm
      · exact hs hm
    · exact h y List.mem_cons_self hm
theorem num_free' {i : Int} (h0 : 0 ≤ i) {s : Nat} (h : s < 48 ∨ 57 < s) : s ∉ (toString i : Str).cps.toList := by
  obtain ⟨n, rfl⟩ : ∃ n : Nat, i = n := ⟨i.toNat, by omega⟩
  exact num_free h
theorem pit_cps : ("pit" : Str).cps.toList = [112, 105, 116] := by decide +kernel
theorem gt_cps : (">" : Str).cps.toList = [62] := by decide +kernel
theorem exS_free {g : Int} {s : Nat} (h : s < 48) : s ∉ (exS g).cps.toList := by
  unfold exS
  split
  · rw [pit_cps]
    simp
    omega
  · exact num_free' (by omega) (.inl h)
theorem site_free {t l s : Int} {row : List Int} (ht : 0 ≤ t) (hl : 0 ≤ l) (hs : 0 ≤ s) : 10 ∉ (siteT t l s row).cps.toList := by
  have b : 10 ∉ (" " : Str).cps.toList := by rw [bl_cps]; decide
  refine joinS_free b _ _ (joinS_free b _ _ (num_free' ht (.inl (by decide))) fun y hy => ?_) fun y hy => ?_
  · simp only [List.mem_cons, List.not_mem_nil, or_false] at hy
    rcases hy with rfl | rfl | rfl
    · exact num_free' hl (.inl (by decide))
    · exact num_free' hs (.inl (by decide))
    · rw [gt_cps]
      decide
  · obtain ⟨g, _, rfl⟩ := List.mem_map.mp hy
    exact exS_free (by decide)
def siteW (t l s : Int) (row : List Int) : List Str := ([toString t, toString l, toString s, ">"] : List Str) ++ row.map exS
theorem site_split {t l s : Int} {row : List Int} (ht : 0 ≤ t) (hl : 0 ≤ l) (hs : 0 ≤ s) : Txt.split (siteT t l s row) " " = siteW t l s row := by
  rw [← site_line]
  refine split1 bl_cps (by decide +kernel) (by simp) fun p hp => ?_
  rcases List.mem_append.mp hp with hp | hp
  · simp only [List.mem_cons, List.not_mem_nil, or_false] at hp
    rcases hp with rfl | rfl | rfl | rfl
    · exact num_free' ht (.inl (by decide))
    · exact num_free' hl (.inl (by decide))
    · exact num_free' hs (.inl (by decide))
    · rw [gt_cps]
      decide
  · obtain ⟨g, _, rfl⟩ := List.mem_map.mp hp
    exact exS_free (by decide)
theorem lines_split {rows : List (List Int)} {C : Sta} (sm : Small rows C) : Txt.split (textT rows C rows.length) "\n" = linesT rows C rows.length := by
  rw [← linesT_join]
  refine split1 nl_cps (by decide +kernel) (by simp [linesT]) fun p hp => ?_
  unfold linesT at hp
  rcases List.mem_cons.mp hp with rfl | hp
  · obtain ⟨n, hn⟩ : ∃ n : Nat, C.taken = n := ⟨C.taken.toNat, by have := sm.n.1; omega⟩
    rw [hn]
    exact head_line n
  · obtain ⟨k, hk, rfl⟩ := List.mem_map.mp hp
    have hk : k < rows.length := List.mem_range.mp hk
    exact site_free (sm.t k hk).1 (sm.l k hk).1 (sm.s k hk).1
theorem num_ok' {i : Int} (h0 : 0 ≤ i) (h1 : i < 100000000000000000000) : NumOk (toString i) ∧ numOf (toString i) = i := by
  obtain ⟨n, rfl⟩ : ∃ n : Nat, i = n := ⟨i.toNat, by omega⟩
  exact num_ok (by omega)
theorem head_split' {i : Int} (h0 : 0 ≤ i) : Txt.split ("board " ++ (toString i : Str)) " " = [("board" : Str), (toString i : Str)] := by
  obtain ⟨n, rfl⟩ : ∃ n : Nat, i = n := ⟨i.toNat, by omega⟩
  exact head_split n

/-! Texts split, joined, repeated; what a text must hold to be a board -/
section
open PySem
def rRepS : R2 := fun x y H Q => ∃ z k, x = .str z ∧ y = .int k ∧ z.length ≤ 1000 ∧ 0 ≤ k ∧ k ≤ 1000 ∧ Q (.str (Txt.mul z k)) H
theorem repOk {z : Str} {k : Int} (hz : z.length ≤ 1000) (h0 : 0 ≤ k) (h1 : k ≤ 1000) : MulOk z k := by
  refine ⟨?_, fun h _ => ?_, fun _ _ => ?_⟩
  · rw [Bool.or_eq_false_iff, decide_eq_false_iff_not, decide_eq_false_iff_not]
    omega
  · have : (z.length : Int) ≤ (2 ^ 63 - 1) / k := by
      refine Int.le_ediv_of_mul_le (by omega) ?_
      have : (z.length : Int) * k ≤ 1000 * 1000 := Int.mul_le_mul (by omega) h1 h0 (by decide)
      omega
    omega
  · have : z.length * k.toNat ≤ 1000 * 1000 := Nat.mul_le_mul hz (by omega)
    unfold PySem.Builtin.Str.tooLong
    simp only [decide_eq_false_iff_not]
    have : (1000000 : Nat) ≤ sizeLine := by decide
    omega
theorem op_repS {X : Cx} : OpR X (binaryOp .Mult) rRepS := by
  rintro pins s σ H x y v u Q I rx ry ⟨z, k, rfl, rfl, hz, h0, h1, q⟩
  obtain ⟨_, rfl⟩ := rx
  obtain ⟨_, rfl⟩ := ry
  exact SB.mul (repOk hz h0 h1) fun _ _ => ⟨.str (Txt.mul z k), H, I.tok _, ⟨_, rfl⟩, q⟩
theorem g_min {K : PySem.W.Frag} {H : Hp} {Q : VK} {p : Addr} {ns : List Int} (s : SqL K H p (ns.map V.int)) (h0 : 0 < ns.length) (h : ∀ m, m ∈ ns → (∀ y, y ∈ ns → m ≤ y) → Q (.int m) H) : rMin K [.ref p] H Q := ⟨p, ns, rfl, s, h0, h⟩
theorem g_max {K : PySem.W.Frag} {H : Hp} {Q : VK} {p : Addr} {ns : List Int} (s : SqL K H p (ns.map V.int)) (h0 : 0 < ns.length) (h : ∀ m, m ∈ ns → (∀ y, y ∈ ns → y ≤ m) → Q (.int m) H) : rMax K [.ref p] H Q := ⟨p, ns, rfl, s, h0, h⟩
theorem g_slS {H : Hp} {Q : VK} {z : Str} {lo hi : Option Int} (hl : z.length ≤ 100000) (h : Q (.str (cutS z lo hi)) H) : rSlS (.str z) lo hi H Q := ⟨z, rfl, Nat.le_trans hl (by decide), h⟩
theorem foldA (a : Array Nat) : ∀ (m : Nat) (b : Array Nat), ((List.replicate m a).foldl (· ++ ·) b).size = b.size + m * a.size
  | 0, b => by simp
  | m + 1, b => by
    rw [List.replicate_succ, List.foldl_cons, foldA a m, Array.size_append, Nat.add_mul]
    omega
theorem mul_len (z : Str) (k : Int) : (Txt.mul z k).length ≤ z.length * k.toNat := by
  unfold Txt.mul
  split
  · exact Nat.zero_le _
  · next h =>
    split
    · exact Nat.le_mul_of_pos_right _ (by omega)
    · have := foldA z.cps k.toNat #[]
      rw [Array.size_empty, Nat.zero_add, Nat.mul_comm] at this
      exact Nat.le_of_eq this
theorem cutS_len (z : Str) (lo hi : Option Int) : (cutS z lo hi).length ≤ z.length := by
  rw [len_cps, len_cps]
  show (((z.cps.toList.drop _).take _).toArray.toList).length ≤ _
  rw [List.length_take, List.length_drop]
  omega
theorem cutS_to (z : Str) {i : Nat} (h : i ≤ z.length) : (cutS z none (some (i : Int))).cps.toList = z.cps.toList.take i := by
  have e1 : HT.sIx z.length z.length (some (i : Int)) = i := by
    show (if (i : Int) < 0 then ((i : Int) + ((z.length : Nat) : Int)).toNat else min (i : Int).toNat z.length) = i
    rw [if_neg (by omega)]
    omega
  unfold cutS
  rw [e1]
  show List.take (i - 0) (z.cps.toList.drop 0) = _
  rw [Nat.sub_zero, List.drop_zero]
theorem cutS_from (z : Str) {i : Nat} (h : i ≤ z.length) : (cutS z (some (i : Int)) none).cps.toList = z.cps.toList.drop i := by
  have e1 : HT.sIx z.length 0 (some (i : Int)) = i := by
    show (if (i : Int) < 0 then ((i : Int) + ((z.length : Nat) : Int)).toNat else min (i : Int).toNat z.length) = i
    rw [if_neg (by omega)]
    omega
  unfold cutS
  rw [e1]
  show List.take (z.length - i) (z.cps.toList.drop i) = _
  rw [List.take_of_length_le (by rw [List.length_drop, len_cps]; exact Nat.le_refl _)]
/-! the splitting -/
theorem spl_one (s c : Nat) (acc r : List Nat) : TL.spl [s] 0 acc (c :: r) = if c = s then acc :: TL.spl [s] 0 [] r else TL.spl [s] 0 (acc ++ [c]) r := by
  by_cases h : c = s
  · subst h
    rw [if_pos rfl, TL.spl_hit (show TL.pre [c] (c :: r) = true from TL.pre_self [c] r)]
    rfl
  · rw [if_neg h, TL.spl_miss (TL.pre_of_head [] r h)]
theorem spl_some (s : Nat) : ∀ l acc : List Nat, ∃ p ps, TL.spl [s] 0 acc l = p :: ps
  | [], acc => ⟨acc, [], TL.spl_nil _ _ _⟩
  | c :: r, acc => by
    rw [spl_one]
    split
    · exact ⟨_, _, rfl⟩
    · exact spl_some s r _
theorem join_spl (s : Nat) : ∀ l acc : List Nat, TL.joinL [s] (TL.spl [s] 0 acc l) = acc ++ l
  | [], acc => by
    rw [TL.spl_nil, List.append_nil]
    rfl
  | c :: r, acc => by
    rw [spl_one]
    split
    · next h =>
      subst h
      have ih := join_spl c r []
      obtain ⟨p, ps, e⟩ := spl_some c r []
      rw [e] at ih ⊢
      show acc ++ ([c] ++ TL.joinL [c] (p :: ps)) = _
      rw [ih]
      rfl
    · rw [join_spl s r (acc ++ [c]), List.append_assoc]
      rfl
theorem spl_sum (s : Nat) : ∀ l acc : List Nat, ((TL.spl [s] 0 acc l).map List.length).sum + (TL.spl [s] 0 acc l).length = acc.length + l.length + 1
  | [], acc => by
    rw [TL.spl_nil]
    simp
  | c :: r, acc => by
    rw [spl_one]
    split
    · have ih := spl_sum s r []
      simp only [List.map_cons, List.sum_cons, List.length_cons, List.length_nil] at ih ⊢
      omega
    · have ih := spl_sum s r (acc ++ [c])
      simp only [List.length_append, List.length_cons, List.length_nil] at ih ⊢
      omega
section
variable {y : Str} {s : Nat} (ey : y.cps.toList = [s]) (hk : y.cps.all (· < 256) = true) (x : Str)
include ey hk
theorem split_cps : (Txt.split x y).map TL.tl = TL.spl [s] 0 [] x.cps.toList := by
  have z := TL.split_spl x y (by rw [show TL.tl y = [s] from ey]; simp) (TL.kind_ok hk)
  rw [show TL.tl y = [s] from ey] at z
  exact z
theorem split_join' : Txt.join y (Txt.split x y) = x := by
  refine TL.ext_tl ?_
  rw [TL.join_eq, TL.tl_join, split_cps ey hk x, show TL.tl y = [s] from ey, join_spl]
  rfl
theorem split_some : ∃ p ps, Txt.split x y = p :: ps := by
  obtain ⟨p, ps, e⟩ := spl_some s x.cps.toList []
  rw [← split_cps ey hk x] at e
  cases h : Txt.split x y with
  | nil => rw [h] at e; cases e
  | cons a b => exact ⟨a, b, rfl⟩
theorem split_sum : ((Txt.split x y).map (·.length)).sum + (Txt.split x y).length = x.length + 1 := by
  have z := spl_sum s x.cps.toList []
  rw [← split_cps ey hk x, List.map_map, List.length_map, List.length_nil, Nat.zero_add] at z
  rw [len_cps x, ← z]
  congr 2
end
theorem le_sum_len : ∀ {ys : List Str} {w : Str}, w ∈ ys → w.length ≤ (ys.map (·.length)).sum
  | z :: ys, w, h => by
    rw [List.map_cons, List.sum_cons]
    rcases List.mem_cons.mp h with rfl | h
    · omega
    · have := le_sum_len h
      omega
def lns (t : Str) : List Str := Txt.split t "\n"
def wds (l : Str) : List Str := Txt.split l " "
theorem nl_all : ("\n" : Str).cps.all (· < 256) = true := by decide +kernel
theorem bl_all : (" " : Str).cps.all (· < 256) = true := by decide +kernel
theorem lns_join (t : Str) : Txt.join "\n" (lns t) = t := split_join' nl_cps nl_all t
theorem wds_join (l : Str) : Txt.join " " (wds l) = l := split_join' bl_cps bl_all l
theorem lns_some (t : Str) : ∃ p ps, lns t = p :: ps := split_some nl_cps nl_all t
theorem wds_some (l : Str) : ∃ p ps, wds l = p :: ps := split_some bl_cps bl_all l
theorem lns_sum (t : Str) : ((lns t).map (·.length)).sum + (lns t).length = t.length + 1 := split_sum nl_cps nl_all t
theorem wds_sum (l : Str) : ((wds l).map (·.length)).sum + (wds l).length = l.length + 1 := split_sum bl_cps bl_all l
theorem lns_le {t l : Str} (h : l ∈ lns t) : l.length ≤ t.length := by
  have := lns_sum t
  have := le_sum_len h
  have := List.length_pos_of_mem h
  omega
theorem wds_le {l w : Str} (h : w ∈ wds l) : w.length ≤ l.length := by
  have := wds_sum l
  have := le_sum_len h
  have := List.length_pos_of_mem h
  omega
theorem lns_many (t : Str) : (lns t).length ≤ t.length + 1 := by
  have := lns_sum t
  omega
theorem wds_many (l : Str) : (wds l).length ≤ l.length + 1 := by
  have := wds_sum l
  omega
/-! lists of texts cut and joined -/
def cutA (A : List Str) (lo hi : Option Int) : List Str := (A.drop (HT.sIx A.length 0 lo)).take (HT.sIx A.length A.length hi - HT.sIx A.length 0 lo)
theorem cutV_strs (A : List Str) (lo hi : Option Int) : cutV (A.map V.str) lo hi = (cutA A lo hi).map V.str := by
  unfold cutV cutA
  rw [List.length_map, List.map_take, List.map_drop]
theorem cutA_sub (A : List Str) (lo hi : Option Int) : (cutA A lo hi).Sublist A := (List.take_sublist _ _).trans (List.drop_sublist _ _)
theorem sum_sub {A B : List Str} (h : A.Sublist B) : (A.map (·.length)).sum ≤ (B.map (·.length)).sum := by
  induction h with
  | slnil => exact Nat.le_refl _
  | cons a _ ih =>
    rw [List.map_cons, List.sum_cons]
    omega
  | cons_cons a _ ih =>
    rw [List.map_cons, List.map_cons, List.sum_cons, List.sum_cons]
    omega
theorem joinS_sum {sep : Str} : ∀ (xs : List Str) (x : Str), (joinS sep x xs).length = x.length + (xs.map (·.length)).sum + xs.length * sep.length
  | [], x => by simp [joinS]
  | y :: ys, x => by
    have ih := joinS_sum (sep := sep) ys (x ++ sep ++ y)
    rw [lenA, lenA] at ih
    show (joinS sep (x ++ sep ++ y) ys).length = _
    rw [ih, List.map_cons, List.sum_cons, List.length_cons, Nat.add_mul]
    omega
theorem join_le {sep : Str} (hs : sep.length = 1) : ∀ xs : List Str, (Txt.join sep xs).length ≤ (xs.map (·.length)).sum + xs.length
  | [] => Nat.le_refl 0
  | x :: xs => by
    rw [join_cons, joinS_sum, hs, List.map_cons, List.sum_cons, List.length_cons]
    omega
theorem g_catS {p q : Addr} {A B : List Str} {H : Hp} {Q : VK} (e1 : H p = some (slst A)) (e2 : H q = some (slst B)) (hl : A.length + B.length ≤ 100000) (h : ∀ c, H c = none → Q (.ref c) (upd H c (slst (A ++ B)))) : rCat (.ref p) (.ref q) H Q :=
  ⟨p, q, _, _, rfl, rfl, e1, e2, by
    rw [List.length_map, List.length_map]
    exact Nat.le_trans hl (by decide), fun c nc => by
    rw [← List.map_append]
    exact h c nc⟩
/-- two cuts of a text's lines, joined -/
theorem cuts_fit {z : Str} {A B : List Str} (hz : z.length ≤ 2000) (hA : A.Sublist (lns z)) (hB : B.Sublist (lns z)) : ((A ++ B).map (·.length)).sum + (A ++ B).length ≤ 8004 ∧ A.length + B.length ≤ 4002 := by
  have a := sum_sub hA
  have b := sum_sub hB
  have c := hA.length_le
  have d := hB.length_le
  have e := lns_sum z
  rw [List.map_append, List.sum_append, List.length_append]
  omega
/-! a number's own signs -/
theorem fold_up : ∀ (r : List Nat) (a : Nat), a ≤ r.foldl (fun acc c => acc * 10 + (c - 48)) a
  | [], a => Nat.le_refl a
  | c :: r, a => by
    refine Nat.le_trans ?_ (fold_up r _)
    show a ≤ a * 10 + (c - 48)
    omega
theorem fold_lt : ∀ (r : List Nat) (a : Nat), NumText.AllDigits r → r.foldl (fun acc c => acc * 10 + (c - 48)) a < (a + 1) * 10 ^ r.length
  | [], a, _ => by simp
  | c :: r, a, h => by
    have hc := h c List.mem_cons_self
    have ih := fold_lt r (a * 10 + (c - 48)) fun d hd => h d (List.mem_cons_of_mem _ hd)
    refine Nat.lt_of_lt_of_le ih ?_
    rw [List.length_cons, Nat.pow_succ]
    have : (a * 10 + (c - 48) + 1) ≤ (a + 1) * 10 := by omega
    refine Nat.le_trans (Nat.mul_le_mul_right _ this) ?_
    rw [Nat.mul_assoc, Nat.mul_comm 10]
    exact Nat.le_refl _
theorem num_pos {c : Nat} {r : List Nat} (h1 : 49 ≤ c) : 1 ≤ NumText.digitsVal (c :: r) :=
  Nat.le_trans (show 1 ≤ 0 * 10 + (c - 48) by omega) (fold_up r _)
theorem num_back : ∀ (n : Nat) (L : List Nat), L.length = n → NumText.AllDigits L → L ≠ [] → (L.head? = some 48 → L.length = 1) → TL.numL (NumText.digitsVal L) = L
  | 0, L, hl, _, hne, _ => absurd (List.length_eq_zero_iff.mp hl) hne
  | n + 1, L, hl, hd, hne, h0 => by
    obtain ⟨I, c, rfl⟩ : ∃ I c, L = I ++ [c] := ⟨L.dropLast, L.getLast hne, (List.dropLast_concat_getLast hne).symm⟩
    have hc := hd c (List.mem_append_right _ List.mem_cons_self)
    have ev : NumText.digitsVal (I ++ [c]) = NumText.digitsVal I * 10 + (c - 48) := by
      unfold NumText.digitsVal
      rw [List.foldl_append]
      rfl
    rw [List.length_append] at hl
    rw [ev]
    cases hI : I with
    | nil =>
      show TL.numL (0 * 10 + (c - 48)) = [c]
      rw [Nat.zero_mul, Nat.zero_add, TL.numL_lt (by omega)]
      congr 1
      omega
    | cons a r =>
      subst hI
      have ha := hd a (List.mem_append_left _ List.mem_cons_self)
      have ne : a ≠ 48 := fun z => by
        have := h0 (by rw [z]; rfl)
        rw [List.length_append] at this
        simp at this
      have ps := num_pos (r := r) (show 49 ≤ a by omega)
      have ih := num_back n (a :: r) (by simpa using hl) (fun d m => hd d (List.mem_append_left _ m)) (by simp) fun z => absurd (Option.some.inj z) ne
      rw [TL.numL_step (by omega), show (NumText.digitsVal (a :: r) * 10 + (c - 48)) / 10 = NumText.digitsVal (a :: r) by omega, ih, show 48 + (NumText.digitsVal (a :: r) * 10 + (c - 48)) % 10 = c by omega]
theorem NumOk.back {w : Str} (h : NumOk w) : (toString (numOf w) : Str) = w := by
  refine TL.ext_tl ?_
  show (toString ((NumText.digitsVal w.cps.toList : Nat) : Int) : Str).cps.toList = w.cps.toList
  rw [num_cps]
  exact num_back _ _ rfl h.2.2.2 h.1 fun z => by rw [← len_cps]; exact h.2.2.1 z
theorem NumOk.range {w : Str} (h : NumOk w) : 0 ≤ numOf w ∧ numOf w < 100000000000000000000 := by
  have z := fold_lt _ 0 h.2.2.2
  have hl := h.2.1
  rw [len_cps] at hl
  have p : 10 ^ w.cps.toList.length ≤ 10 ^ 20 := Nat.pow_le_pow_right (by decide) hl
  have z : NumText.digitsVal w.cps.toList < 1 * 10 ^ w.cps.toList.length := z
  unfold numOf
  omega
def ExW (w : Str) : Prop := w = "pit" ∨ NumOk w
def exW (w : Str) : Int := if w = "pit" then -1 else numOf w
theorem ExW.back {w : Str} (h : ExW w) : exS (exW w) = w := by
  unfold exW
  split
  · next e => exact (if_pos (by decide)).trans e.symm
  · next e =>
    have n := h.resolve_left e
    exact (if_neg (by have := n.range; omega)).trans n.back
theorem ExW.low {w : Str} (h : ExW w) : -1 ≤ exW w := by
  unfold exW
  split
  · decide
  · next e =>
    have := (h.resolve_left e).range
    omega
/-! what a loop over words has read -/
structure Upw (A : List Str) (ok : Str → Prop) (f : Str → Int) (ns : List Int) : Prop where
  eq : ns = (A.take ns.length).map f
  all : ∀ w, w ∈ A.take ns.length → ok w
theorem Upw.nil {A : List Str} {ok : Str → Prop} {f : Str → Int} : Upw A ok f [] := ⟨rfl, fun w h => by simp at h⟩
theorem Upw.push {A : List Str} {ok : Str → Prop} {f : Str → Int} {ns : List Int} {k : Nat} {w : Str} (h : Upw A ok f ns) (hk : ns.length = k) (hw : A[k]? = some w) (o : ok w) : Upw A ok f (ns ++ [f w]) := by
  have e : A.take (ns ++ [f w]).length = A.take ns.length ++ [w] := by
    rw [List.length_append]
    show A.take (ns.length + 1) = _
    rw [List.take_add_one, hk, hw]
    rfl
  refine ⟨?_, fun v hv => ?_⟩
  · rw [e, List.map_append, ← h.eq]
    rfl
  · rw [e] at hv
    rcases List.mem_append.mp hv with hv | hv
    · exact h.all v hv
    · rw [List.mem_singleton.mp hv]
      exact o
theorem Upw.done {A : List Str} {ok : Str → Prop} {f : Str → Int} {ns : List Int} (h : Upw A ok f ns) (e : ns.length = A.length) : ns = A.map f ∧ ∀ w, w ∈ A → ok w := by
  obtain ⟨a, b⟩ := h
  rw [e, List.take_length] at a b
  exact ⟨a, b⟩
/-- a word read or refused -/
def Rd (ok : Str → Prop) (f : Str → Int) (w : Str) (n : Int) : Prop := ok w ∧ n = f w ∨ ¬ ok w ∧ n = -2
def UpR (A : List Str) (R : Str → Int → Prop) (ns : List Int) : Prop := ∀ (j : Nat) (w : Str) (n : Int), A[j]? = some w → ns[j]? = some n → R w n
theorem UpR.nil {A : List Str} {R : Str → Int → Prop} : UpR A R [] := fun j w n _ h => by simp at h
theorem UpR.push {A : List Str} {R : Str → Int → Prop} {ns : List Int} {k : Nat} {w : Str} {n : Int} (h : UpR A R ns) (hk : ns.length = k) (hw : A[k]? = some w) (r : R w n) : UpR A R (ns ++ [n]) := fun j v m hv hm => by
  by_cases z : j < ns.length
  · rw [List.getElem?_append_left z] at hm
    exact h j v m hv hm
  · rw [List.getElem?_append_right (by omega)] at hm
    cases e : j - ns.length with
    | zero =>
      rw [e] at hm
      cases hm
      rw [show j = k by omega, hw] at hv
      cases hv
      exact r
    | succ i =>
      rw [e] at hm
      simp at hm
theorem UpR.all {A : List Str} {ok : Str → Prop} {f : Str → Int} {ns : List Int} (h : UpR A (Rd ok f) ns) (e : ns.length = A.length) (no : ∀ n, n ∈ ns → n ≠ -2) : (∀ w, w ∈ A → ok w) ∧ ns = A.map f := by
  have at_ : ∀ (j : Nat) (h1 : j < A.length) (h2 : j < ns.length), ok A[j] ∧ ns[j] = f A[j] := fun j h1 h2 => by
    rcases h j _ _ (List.getElem?_eq_getElem h1) (List.getElem?_eq_getElem h2) with z | z
    · exact z
    · exact absurd z.2 (no _ (List.getElem_mem h2))
  refine ⟨fun w hw => ?_, ?_⟩
  · obtain ⟨j, hj, rfl⟩ := List.getElem_of_mem hw
    exact (at_ j hj (by omega)).1
  · apply List.ext_getElem
    · rw [List.length_map, e]
    · intro j h1 h2
      rw [List.getElem_map]
      exact (at_ j (by omega) h1).2
theorem UpR.mem {A : List Str} {ok : Str → Prop} {f : Str → Int} {ns : List Int} {n : Int} (h : UpR A (Rd ok f) ns) (e : ns.length = A.length) (o : ∀ w, w ∈ A → ok w) (hn : n ∈ ns) : ∃ w, ok w ∧ n = f w := by
  obtain ⟨j, hj, rfl⟩ := List.getElem_of_mem hn
  have h1 : j < A.length := by omega
  rcases h j _ _ (List.getElem?_eq_getElem h1) (List.getElem?_eq_getElem hj) with z | z
  · exact ⟨_, z⟩
  · exact absurd (o _ (List.getElem_mem h1)) z.1
theorem str_at {A : List Str} {k : Nat} {v : V} (h : (A.map V.str)[k]? = some v) : ∃ w, A[k]? = some w ∧ v = .str w := by
  rw [List.getElem?_map] at h
  cases e : A[k]? with
  | none => rw [e] at h; cases h
  | some w => rw [e] at h; exact ⟨w, rfl, (Option.some.inj h).symm⟩
/-! a board's text -/
structure SiteOk (l : Str) : Prop where
  n : 5 ≤ (wds l).length
  gt : (wds l)[3]? = some (">" : Str)
  nums : ∀ w, w ∈ (wds l).take 3 → NumOk w
  exits : ∀ w, w ∈ (wds l).drop 4 → ExW w
def siteN (l : Str) : List Int := ((wds l).take 3).map numOf
def siteR (l : Str) : List Int := ((wds l).drop 4).map exW
theorem SiteOk.words {l : Str} (h : SiteOk l) : ∃ a b c r, wds l = a :: b :: c :: (">" : Str) :: r ∧ siteN l = [numOf a, numOf b, numOf c] ∧ siteR l = r.map exW ∧ r.length + 4 = (wds l).length ∧ NumOk a ∧ NumOk b ∧ NumOk c ∧ ∀ w, w ∈ r → ExW w := by
  obtain ⟨n, gt, nums, exits⟩ := h
  unfold siteN siteR
  match e : wds l, n, gt, nums, exits with
  | a :: b :: c :: d :: r, n, gt, nums, exits =>
    have : d = (">" : Str) := Option.some.inj gt
    subst this
    exact ⟨a, b, c, r, rfl, rfl, rfl, rfl, nums a (by simp), nums b (by simp), nums c (by simp), exits⟩
theorem SiteOk.line {l : Str} (h : SiteOk l) : siteT ((siteN l).getD 0 0) ((siteN l).getD 1 0) ((siteN l).getD 2 0) (siteR l) = l := by
  obtain ⟨a, b, c, r, e, e2, e3, _, na, nb, nc, hx⟩ := h.words
  rw [e2, e3, ← site_line]
  show Txt.join " " (([(toString (numOf a) : Str), (toString (numOf b) : Str), (toString (numOf c) : Str), ">"] : List Str) ++ (r.map exW).map exS) = l
  rw [na.back, nb.back, nc.back, List.map_map, List.map_congr_left (f := exS ∘ exW) (g := fun w => w) (fun w hw => (hx w hw).back), List.map_id']
  refine Eq.trans ?_ (wds_join l)
  rw [e]
  rfl
def HeadOk (l : Str) : Prop := ∃ w, wds l = [("board" : Str), w] ∧ NumOk w
def headN (l : Str) : Int := numOf ((wds l).getD 1 "")
theorem HeadOk.line {l : Str} (h : HeadOk l) : ("board " ++ (toString (headN l) : Str) : Str) = l := by
  obtain ⟨w, e, n⟩ := h
  have j := wds_join l
  rw [e, join_cons] at j
  have hd : headN l = numOf w := by
    unfold headN
    rw [e]
    rfl
  rw [hd, n.back]
  refine Eq.trans ?_ j
  show ("board " ++ w : Str) = "board" ++ " " ++ w
  rw [show ("board " : Str) = "board" ++ " " from by decide +kernel]
theorem HeadOk.range {l : Str} (h : HeadOk l) : 0 ≤ headN l ∧ headN l < 100000000000000000000 := by
  obtain ⟨w, e, n⟩ := h
  unfold headN
  rw [e]
  exact n.range
theorem boardB_cps : ("board " : Str).cps.toList = [98, 111, 97, 114, 100, 32] := by decide +kernel
theorem NumOk.free {w : Str} (h : NumOk w) {s : Nat} (hs : s < 48 ∨ 57 < s) : s ∉ w.cps.toList := fun m => by
  have := h.2.2.2 s m
  omega
theorem head_iff {l w : Str} (e : l = "board " ++ w) : HeadOk l ↔ NumOk w := by
  constructor
  · rintro ⟨v, ev, n⟩
    have j := wds_join l
    rw [ev, join_cons] at j
    have j : "board" ++ " " ++ v = l := j
    have z : v.cps.toList = w.cps.toList := by
      have q := congrArg (fun x : Str => x.cps.toList) (j.trans e)
      simp only [cps_app, board_cps, bl_cps, boardB_cps] at q
      exact List.append_cancel_left q
    exact TL.ext_tl z ▸ n
  · intro n
    refine ⟨w, ?_, n⟩
    have j : l = Txt.join " " [("board" : Str), w] := by
      rw [join_cons, e]
      show _ = "board" ++ " " ++ w
      rw [show ("board " : Str) = "board" ++ " " from by decide +kernel]
    unfold wds
    rw [j]
    refine split1 bl_cps bl_all (by simp) fun p hp => ?_
    simp only [List.mem_cons, List.not_mem_nil, or_false] at hp
    rcases hp with rfl | rfl
    · rw [board_cps]
      decide
    · exact n.free (.inl (by decide))
theorem head_pre {l : Str} (h : HeadOk l) : cutS l none (some (6 : Int)) = "board " ∧ l = "board " ++ cutS l (some (6 : Int)) none := by
  have e := h.line
  have e6 : ("board " : Str).length = 6 := by decide +kernel
  generalize (toString (headN l) : Str) = v at e
  have l6 : 6 ≤ l.length := by rw [← e, lenA]; omega
  have c1 := cutS_to l (i := 6) l6
  have c2 := cutS_from l (i := 6) l6
  have ec : l.cps.toList = [98, 111, 97, 114, 100, 32] ++ v.cps.toList := by rw [← e, cps_app, boardB_cps]
  refine ⟨TL.ext_tl ?_, TL.ext_tl ?_⟩
  · show (cutS l none (some (6 : Int))).cps.toList = ("board " : Str).cps.toList
    refine c1.trans ?_
    rw [ec, boardB_cps]
    rfl
  · show l.cps.toList = ("board " ++ cutS l (some (6 : Int)) none : Str).cps.toList
    rw [cps_app, boardB_cps]
    refine Eq.trans ?_ (congrArg (fun q => [98, 111, 97, 114, 100, 32] ++ q) c2.symm)
    rw [ec]
    rfl
theorem pre_head {l : Str} (h : cutS l none (some (6 : Int)) = "board ") : l = "board " ++ cutS l (some (6 : Int)) none := by
  have e6 : ("board " : Str).length = 6 := by decide +kernel
  have l6 : 6 ≤ l.length := by
    have := cutS_len l none (some (6 : Int))
    rw [h] at this
    omega
  have c1 : (cutS l none (some (6 : Int))).cps.toList = l.cps.toList.take 6 := cutS_to l (i := 6) l6
  have c2 : (cutS l (some (6 : Int)) none).cps.toList = l.cps.toList.drop 6 := cutS_from l (i := 6) l6
  refine TL.ext_tl ?_
  show l.cps.toList = ("board " ++ cutS l (some (6 : Int)) none : Str).cps.toList
  rw [cps_app, c2, ← h, c1, List.take_append_drop]
/-- a site's line among `many` -/
structure LineOk (many : Nat) (l : Str) : Prop where
  site : SiteOk l
  w12 : (wds l).length ≤ 12
  top : ∀ g, g ∈ siteR l → g < many
  turn : (siteN l).getD 0 0 < (siteR l).length
def tailL (t : Str) : List Str := (lns t).drop 1
def loadsL (t : Str) : List Int := (tailL t).map fun l => (siteN l).getD 1 0
structure ReadOk (t : Str) : Prop where
  head : HeadOk ((lns t).getD 0 "")
  m1 : 1 ≤ (tailL t).length
  m12 : (tailL t).length ≤ 12
  line : ∀ l, l ∈ tailL t → LineOk (tailL t).length l
  sum : (loadsL t).sum ≤ 400
def rowsT (t : Str) : List (List Int) := (tailL t).map siteR
def staT (t : Str) : Sta := ⟨(tailL t).map fun l => (siteN l).getD 0 0, loadsL t, (tailL t).map fun l => (siteN l).getD 2 0, headN ((lns t).getD 0 "")⟩
theorem rowsT_len (t : Str) : (rowsT t).length = (tailL t).length := List.length_map _
theorem map_getD {α β : Type} {f : α → β} {l : List α} {k : Nat} {d : α} {e : β} (h : k < l.length) : (l.map f).getD k e = f (l.getD k d) := by
  rw [List.getD_eq_getElem?_getD, List.getElem?_map, List.getElem?_eq_getElem h, List.getD_eq_getElem?_getD, List.getElem?_eq_getElem h]
  rfl
theorem siteR_len {l : Str} (h : SiteOk l) : (siteR l).length + 4 = (wds l).length ∧ 1 ≤ (siteR l).length := by
  obtain ⟨a, b, c, r, _, _, e3, e4, _⟩ := h.words
  have := h.n
  rw [e3, List.length_map]
  omega
theorem siteR_low {l : Str} (h : SiteOk l) : ∀ g, g ∈ siteR l → -1 ≤ g := fun g hg => by
  obtain ⟨w, hw, rfl⟩ := List.mem_map.mp hg
  exact (h.exits w hw).low
theorem siteN_range {l : Str} (h : SiteOk l) (k : Nat) (hk : k < 3) : 0 ≤ (siteN l).getD k 0 ∧ (siteN l).getD k 0 < 100000000000000000000 := by
  obtain ⟨a, b, c, r, _, e2, _, _, na, nb, nc, _⟩ := h.words
  rw [e2]
  match k, hk with
  | 0, _ => exact na.range
  | 1, _ => exact nb.range
  | 2, _ => exact nc.range
theorem ReadOk.rows {t : Str} (h : ReadOk t) : OkRows (rowsT t) := by
  refine ⟨by rw [rowsT_len]; exact h.m1, by rw [rowsT_len]; exact h.m12, fun row hr => ?_⟩
  obtain ⟨l, hl, rfl⟩ := List.mem_map.mp hr
  have L := h.line l hl
  have z := siteR_len L.site
  have := L.w12
  refine ⟨z.2, by omega, fun g hg => ⟨siteR_low L.site g hg, ?_⟩⟩
  rw [rowsT_len]
  exact L.top g hg
theorem ReadOk.small {t : Str} (h : ReadOk t) : Small (rowsT t) (staT t) := by
  have gen : ∀ j, j < 3 → ∀ k, k < (rowsT t).length → 0 ≤ ((tailL t).map fun l => (siteN l).getD j 0).getD k 0 ∧ ((tailL t).map fun l => (siteN l).getD j 0).getD k 0 < 100000000000000000000 := fun j hj k hk => by
    rw [rowsT_len] at hk
    rw [map_getD (d := ("" : Str)) hk]
    exact siteN_range (h.line _ (getD_mem hk)).site j hj
  exact ⟨gen 0 (by decide), gen 1 (by decide), gen 2 (by decide), h.head.range⟩
theorem ReadOk.sok {t : Str} (h : ReadOk t) : SOk (rowsT t) (staT t) := by
  refine ⟨⟨by rw [rowsT_len]; exact List.length_map _, fun k hk => ?_⟩, by rw [rowsT_len]; exact List.length_map _, by rw [rowsT_len]; exact List.length_map _⟩
  rw [rowsT_len] at hk
  have L := h.line _ (getD_mem (d := ("" : Str)) hk)
  have a : (staT t).turns.getD k 0 = (siteN ((tailL t).getD k "")).getD 0 0 := map_getD hk
  have b : (rowsT t).getD k [] = siteR ((tailL t).getD k "") := map_getD hk
  rw [a, b]
  exact ⟨(siteN_range L.site 0 (by decide)).1, L.turn⟩
theorem ReadOk.back {t : Str} (h : ReadOk t) : textT (rowsT t) (staT t) (rowsT t).length = t := by
  rw [← linesT_join]
  refine Eq.trans (congrArg _ ?_) (lns_join t)
  obtain ⟨p, ps, e⟩ := lns_some t
  have ht : tailL t = ps := by
    unfold tailL
    rw [e]
    rfl
  have hp : (lns t).getD 0 "" = p := by rw [e]; rfl
  have h1 := h.head
  rw [hp] at h1
  rw [e]
  unfold linesT
  congr 1
  · show ("board " ++ (toString (headN ((lns t).getD 0 "")) : Str) : Str) = p
    rw [hp]
    exact h1.line
  · apply List.ext_getElem
    · rw [List.length_map, List.length_range, rowsT_len, ht]
    · intro k k1 k2
      have hk : k < (tailL t).length := by rw [ht]; exact k2
      rw [List.getElem_map, List.getElem_range]
      have L := h.line _ (getD_mem (d := ("" : Str)) hk)
      have a : (staT t).turns.getD k 0 = (siteN ((tailL t).getD k "")).getD 0 0 := map_getD hk
      have b : (staT t).loads.getD k 0 = (siteN ((tailL t).getD k "")).getD 1 0 := map_getD hk
      have c : (staT t).steps.getD k 0 = (siteN ((tailL t).getD k "")).getD 2 0 := map_getD hk
      have d : (rowsT t).getD k [] = siteR ((tailL t).getD k "") := map_getD hk
      rw [a, b, c, d, L.site.line, ht, List.getD_eq_getElem?_getD, List.getElem?_eq_getElem k2]
      rfl
theorem loads_low {t : Str} (h : ∀ l, l ∈ tailL t → SiteOk l) : ∀ x, x ∈ loadsL t → 0 ≤ x := fun x hx => by
  obtain ⟨l, hl, rfl⟩ := List.mem_map.mp hx
  exact (siteN_range (h l hl) 1 (by decide)).1
theorem readOk_of {t : Str} (hd : HeadOk ((lns t).getD 0 "")) (all : ∀ l, l ∈ tailL t → SiteOk l) (ok : OkRows (rowsT t)) (tk : ∀ k, k < (rowsT t).length → 0 ≤ (staT t).turns.getD k 0 ∧ (staT t).turns.getD k 0 < ((rowsT t).getD k []).length) (sm : (staT t).loads.sum ≤ 400) : ReadOk t := by
  have rl := rowsT_len t
  refine ⟨hd, by rw [← rl]; exact ok.1, by rw [← rl]; exact ok.2.1, fun l hl => ?_, sm⟩
  have so := all l hl
  obtain ⟨k, hk, e⟩ := List.getElem_of_mem hl
  have gl : (tailL t).getD k "" = l := by rw [List.getD_eq_getElem?_getD, List.getElem?_eq_getElem hk, e]; rfl
  have hk2 : k < (rowsT t).length := by rw [rl]; exact hk
  have b : (rowsT t).getD k [] = siteR l := by rw [← gl]; exact map_getD hk
  have a : (staT t).turns.getD k 0 = (siteN l).getD 0 0 := by rw [← gl]; exact map_getD hk
  have row := ok.row hk2
  rw [b, rl] at row
  have z := siteR_len so
  have := row.2.1
  refine ⟨so, by omega, fun g hg => (row.2.2 g hg).2, ?_⟩
  have q := (tk k hk2).2
  rw [a, b] at q
  exact q
end

/-! CompX: a list comprehension whose step may raise (an error whose context is None) -/
section
open PySem.Spec PyProof.Rows

/-- a step's callee has let an exception out: the block's state ahead of the call, and what the call leaves -/
def StepX (X : Cx) (E : XK) (t : Shared) (J : Hp) (scope : Scope) (ce : Env) (its : List Addr) : Value → Shared → Prop := fun u z =>
  ∃ (pl : List (Addr × Obj)) (τ : L2.St) (J' : Hp) (t0 : Shared), Inv (X.blk t J scope ce its) pl τ J' t0 ∧ L2N.CX X.prog X.w X.stack J' t0 E u z
/-- the block's context, exceptions wanted so -/
abbrev Cx.blkX (X : Cx) (E : XK) (t : Shared) (J : Hp) (scope : Scope) (ce : Env) (its : List Addr) : Cx :=
  { X with s_0 := t, H_0 := J, env := ce, outer := X.stack, ex := its, fn := fun x => scope.names.lookup x == some .cell, pn := [], xe := StepX X E t J scope ce its }
theorem invIn {X : Cx} {E : XK} {t z : Shared} {J J' : Hp} {scope : Scope} {ce : Env} {its : List Addr} {pl : List (Addr × Obj)} {τ : L2.St} (I : Inv (X.blk t J scope ce its) pl τ J' z) : Inv (Cx.blkX X E t J scope ce its) pl τ J' z :=
  Inv.wish (X := X.blk t J scope ce its) I (StepX X E t J scope ce its)
theorem invOut {X : Cx} {E : XK} {t z : Shared} {J J' : Hp} {scope : Scope} {ce : Env} {its : List Addr} {pl : List (Addr × Obj)} {τ : L2.St} (I : Inv (Cx.blkX X E t J scope ce its) pl τ J' z) : Inv (X.blk t J scope ce its) pl τ J' z :=
  Inv.unwish (X := X.blk t J scope ce its) (E := StepX X E t J scope ce its) I
/-- a callee in a step -/
theorem passB {X : Cx} {E : XK} {t : Shared} {J : Hp} {scope : Scope} {ce : Env} {its : List Addr} : Passes (L2N.CX X.prog X.w) (Cx.blkX X E t J scope ce its) E :=
  fun pl τ J' t0 _ _ I c => ⟨pl, τ, J', t0, invOut I, c⟩

theorem framesBut {g g' B B' : Heap} {C : Addr} (k : ∀ b, b ≠ C → g'.get? b = g.get? b) (kB : ∀ b, B.get? b = none → B'.get? b = none) : ∀ {l : List Env}, C ∉ frs l → g.FunFrames B l → g'.FunFrames B' l
  | [], _, _ => trivial
  | e :: l, hC, ⟨hk, ⟨a, o, hf, hn, ho, hd⟩, hr⟩ => by
    have inl : ∀ b, b ∈ frs l → b ∈ frs (e :: l) := fun b hb => by
      obtain ⟨e', he, q⟩ := List.mem_filterMap.mp hb
      exact List.mem_filterMap.mpr ⟨e', List.mem_cons_of_mem _ he, q⟩
    have ain : a ∈ frs (e :: l) := List.mem_filterMap.mpr ⟨e, List.mem_cons_self, hf⟩
    exact ⟨hk, ⟨a, o, hf, kB a hn, (k a fun z => hC (z ▸ ain)).trans ho, hd⟩, framesBut k kB (fun z => hC (inl _ z)) hr⟩

/-- it leaves the block: the block's frame is the def's -/
theorem StepX.out {X : Cx} {pins : List (Addr × Obj)} {σ : L2.St} {E : XK} {t z : Shared} {J : Hp} {scope : Scope} {ce : Env} {its : List Addr} {u : Value} {E1 : Value → Shared → Prop}
    (hs : X.stack = X.env :: X.outer) (hf : X.env.frame = some X.env.locals) (tk : L2N.Takes X fun cls d _ H => E cls d H) (I : Inv X pins σ J t) (hits : ∀ b ∈ its, FpOk X pins J b)
    (hce : ce.frame = X.env.frame) (hC : t.heap.objs.size ≤ ce.locals) (x : StepX X E t J scope ce its u z) :
    wpAny (model X.prog X.w) X.A (noteFrame u ce) (fun _ z' => CompFails (model X.prog X.w) X.A X.xe ce u z') E1 z := by
  obtain ⟨pl, τ, J', t0, IB, c⟩ := x
  have ID : Inv X pins σ J' t0 := by
    refine I.call' (ch := its) IB.os IB.base IB.hok IB.bare ?_
    intro b hb
    obtain ⟨_, b1, b2, b3, b4, b5⟩ := hits b hb
    exact ⟨b3, b1, b4, b5⟩
  obtain ⟨m, hn, _⟩ := IB.loc
  have hn : t0.heap.Ns ce.locals m := hn
  have noC : J' ce.locals = none := IB.free
  obtain ⟨_, c1, c2, c3, c4, c5⟩ := I.fpOk (H' := J') hC noC
  have cfr : ce.locals ∉ frs X.stack := fun h => (List.mem_cons.mp (I.stkSub _ h)).elim c1 c2
  obtain ⟨oC, esC, epC, getC, datC, restC⟩ := id hn
  obtain ⟨a, B0, J1, cls0, d0, rfl, fl0, hok0, ub0, na0, os0, ag0, hE0⟩ := c
  have nsz : z.heap.Ns ce.locals m := ⟨oC, esC, epC, fl0.1 _ _ (ub0.keep _ _ getC noC cfr), datC, restC⟩
  have noC1 : J1 ce.locals = none := ub0.free _ _ getC noC
  obtain ⟨a', B, sI, pl1, τ1, J2, cls, d, ea, IS, nb, up, sky, na, os, ag, hE, noC2⟩ :=
    L2N.XE.of_call (X := X) (W := fun cls d _ H => E cls d H ∧ H ce.locals = none) (E := fun cls d H => E cls d H ∧ H ce.locals = none) ID (fun _ _ _ h => h)
      (show L2N.CX X.prog X.w X.stack J' t0 _ (.ref a) z from ⟨a, B0, J1, cls0, d0, rfl, fl0, hok0, ub0, na0, os0, ag0, hE0, noC1⟩)
  cases ea
  have hfr : X.A.frames = some (X.env :: X.outer) := by rw [I.ok.frames, hs]
  rw [hs] at sky cfr
  have same : noteFrame (.ref a) ce = noteFrame (.ref a) X.env := by
    unfold noteFrame PySem.frameOf
    rw [hce]
  rw [same]
  have noted : ∀ g1, HandSPX.HeldZ B (X.env :: X.outer) a (L2N.Zn cls d) X.env.locals g1 → z.heap.UpToSlots g1 → CompFails (model X.prog X.w) X.A X.xe ce (.ref a) { z with heap := g1 } := by
    intro g1 held up1
    have ns1 : g1.Ns ce.locals m := Heap.UpToSlots.ns up1 nsz
    refine ⟨m, ns1, fun g2 m2 ns2 sb => ?_⟩
    obtain ⟨oC1, es1, ep1, getC1, datC1, _⟩ := ns1
    obtain ⟨q1, q2, q3, oe, vs, T, oT, ts, he, hz, hd, h1, hnT, hTe, hT, hdT, h3⟩ := held
    have apart : ∀ {b : Addr} {o : Obj} {ws : Array Value}, g1.get? b = some o → o.data = .fields ws → b ≠ ce.locals := by
      intro b o ws e1 e2 e3
      rw [e3, getC1] at e1
      cases e1
      rw [datC1] at e2
      cases e2
    have aC := apart he hd
    have TC := apart hT hdT
    obtain ⟨B2, B2y, B2n⟩ := L2.restrict B fun b => decide (b ≠ ce.locals)
    obtain ⟨G2, G2y, G2n⟩ := L2.restrict sI.heap fun b => decide (b ≠ ce.locals)
    have inB : ∀ {b o}, B2.get? b = some o → b ≠ ce.locals ∧ B.get? b = some o := by
      intro b o e
      by_cases h : b = ce.locals
      · rw [B2n b (by simp [h])] at e
        cases e
      · exact ⟨h, by rw [← B2y b (by simp [h])]; exact e⟩
    have inG : ∀ {b o}, G2.get? b = some o → b ≠ ce.locals ∧ sI.heap.get? b = some o := by
      intro b o e
      by_cases h : b = ce.locals
      · rw [G2n b (by simp [h])] at e
        cases e
      · exact ⟨h, by rw [← G2y b (by simp [h])]; exact e⟩
    have outB : ∀ b, B.get? b = none → B2.get? b = none := by
      intro b e
      cases r : B2.get? b with
      | none => rfl
      | some o => rw [(inB r).2] at e; cases e
    have he2 : g2.get? a = some oe := (sb.2 a aC).trans he
    have held2 : HandSPX.HeldZ B2 (X.env :: X.outer) a (L2N.Zn cls d) X.env.locals g2 :=
      ⟨fun b o e => (sb.2 b (inB e).1).trans (q1 b o (inB e).2), outB a q2, framesBut (fun b hb => sb.2 b hb) outB cfr q3,
        oe, vs, T, oT, ts, he2, hz, hd, h1, outB T hnT, hTe, (sb.2 T TC).trans hT, hdT, h3⟩
    have IS0 : Inv X [] τ1 J2 sI := IS.pins_of fun p hp => nomatch hp
    have IS2 : Inv X [] τ1 J2 { sI with heap := G2 } := by
      refine IS0.turned (it := ce.locals) (t' := sI.toks) (fun b o hb e => ?_) noC2 c1 c3 c4 fun p hp => ?_
      · exact (G2y b (by simp [hb])).trans e
      · rw [List.append_nil] at hp
        exact c5 p (List.mem_append_left _ hp)
    have up2 : G2.UpToSlots g2 := by
      intro b o e hdat
      obtain ⟨sl, e1⟩ := (up.trans up1) b o (inG e).2 hdat
      exact ⟨sl, (sb.2 b (inG e).1).trans e1⟩
    have flies : wpAny (model X.prog X.w) X.A (setFlight (.ref a) ce.frame) (fun _ z3 => wpAny (model X.prog X.w) X.A (throw (.ref a) : Sem Value) (fun _ _ => False) X.xe z3) X.xe { z with heap := g2 } := by
      rw [hce, hf]
      refine HandSPX.setFlight_onZ held2 fun g3 held3 up3 => wpAny_throw (tk _ _ ?_)
      refine ⟨a, B2, { sI with heap := G2 }, [], τ1, J2, cls, d, rfl, IS2, fun b o e hb => ?_, up2.trans up3, .inr (.inr (by rw [hs]; exact held3)), na, os, ag, hE⟩
      obtain ⟨e1, e2⟩ := inG e
      exact (B2y b (by simp [e1])).trans (nb b o e2 hb)
    unfold PySem.passOn
    refine wpAny_bind (wpAny_field he2 hd h1 ?_)
    rw [if_neg (show ¬ ((Value.ref T == Value.none) = true) from by simp)]
    first
      | exact wpAny_bind (wpAny_pure (wpAny_bind flies))
      | exact wpAny_bind flies
  rcases sky with ⟨s1, s2, s3, oe, vs, s4, s5, s6, s7⟩ | fl | held
  · exact PXN.look_newZ L2N.Zn.steady hfr s3 hf s4 s1 s2 s6 s7 s5 noted
  · exact PXN.looks_onZ L2N.Zn.steady hfr hf fl noted
  · exact HandSPX.againZ hf held.2.2.2 (noted z.heap held (Heap.UpToSlots.refl _))

/-- the comprehension itself: its step may raise what the def lets out -/
theorem lc_coreX {X : Cx} {E : XK} {pins : List (Addr × Obj)} {z0 : Shared} {σ : L2.St} {J : Hp} {G : VK} {el tgt src : Expr} {tests : List Expr} {scope : Scope} {mine : List (Str × Nat)} {p1 p2 : Pos} {wi : TI} {tg : TG} {tt : TT} {te : TE} {use : Option (Value → Sem Unit)} {F : Value → Shared → Prop}
    (hst : X.stack = X.env :: X.outer) (hfr : X.env.frame = some X.env.locals) (tk : L2N.Takes X fun cls d _ K => E cls d K) (hcalm : X.calm = true) (hnd : X.N.Nodup) (I : Inv X pins σ J z0) (pi : PI X tgt src wi) (ok : BlkOk X.N X.env.scope scope mine)
    (hg : ∀ (t : Shared) (K : Hp) (C : Addr) (cl : List (Str × Addr)) (its : List Addr), PG (Cx.blkX X E t K scope (compEnvC scope cl C X.env) its) tgt tg)
    (ht : ∀ (t : Shared) (K : Hp) (C : Addr) (cl : List (Str × Addr)) (its : List Addr), PTs (Cx.blkX X E t K scope (compEnvC scope cl C X.env) its) tests tt)
    (he : ∀ (t : Shared) (K : Hp) (C : Addr) (cl : List (Str × Addr)) (its : List Addr), PE (Cx.blkX X E t K scope (compEnvC scope cl C X.env) its) el te)
    (hset : ∀ x, foldedSetIterable src X.env x = pure x)
    (h : tLc wi tg tt te (mine.map (·.2)) σ J G)
    (back : ∀ D ce z m K, Inv X pins σ K z → G (.ref D) K → z.heap.Ns ce.locals m → FpOk X pins K ce.locals → compEnds (model X.prog X.w) X.A X.xe use F (.ref D) ce (.ok .next) z) :
    wpAny (model X.prog X.w) X.A (comprehension (.ListComp el [⟨tgt, src, tests, 0⟩] scope p1) scope X.env p2 (newList []) false (eval src X.env) use) F X.xe z0 := by
  have free : ∀ y ∈ scope.names, y.2 = .free → ∃ c, X.env.cells.lookup y.1 = some c := fun y hy e =>
    (ok.free y hy e).elim (fun k => I.ok.has _ (.inl k)) (fun k => I.ok.has _ (.inr k))
  refine comprehension_at (use := use) rfl hset (closure_ok free) ok.kind (fun y hy e => (ok.uniq y hy).trans (e ▸ rfl)) (thn (pi.run pins z0 σ J _ I h) fun _ _ w1 => thn w1 fun itv z2 w2 => ?_)
  obtain ⟨it, its, tn, T0, K2, rfl, I2, T, stood, at2, q⟩ := w2
  refine wpAny_newObj_type (newEnv_comp ?_) (Nat.zero_le _)
  generalize hD : z2.heap.objs.size = D
  have hDn : K2 D = none := I2.hok.fresh (Nat.le_of_eq hD)
  obtain ⟨W, ⟨k0, w0⟩, step⟩ := q D hDn
  generalize hz3 : ({ z2 with heap := z2.heap.push { cls := .type "list", data := .seq ([] : List Value).toArray } } : Shared) = z3
  have e3 : z3.heap = z2.heap.push { cls := .type "list", data := .seq ([] : List Value).toArray } := by
    subst hz3
    rfl
  have older : ∀ b o, z2.heap.get? b = some o → z3.heap.get? b = some o := fun b o e => by
    rw [e3]
    exact Heap.get?_push_of_some _ e
  have I3 : Inv X pins σ (upd K2 D (.lst [])) z3 := by
    subst hz3
    refine I2.laid (t' := z2.toks) (fun _ _ e => Heap.get?_push_of_some _ e) (Nat.le_of_eq hD) ⟨Nat.zero_le _, [], 0, .nil, ?_⟩
    subst hD
    exact Heap.get?_push_size _ rfl
  have low : ∀ b ∈ its, b < z2.heap.objs.size := fun b hb => (T.obj _ _ stood b hb).elim fun _ e => Heap.lt_size e.1
  have at3 : ∀ b ∈ its, FpOk X pins (upd K2 D (.lst [])) b ∧ b < z3.heap.objs.size := fun b hb => by
    have l := low b hb
    refine ⟨⟨(upd_ne (hD ▸ Nat.ne_of_lt l)).trans (at2 b hb).1, (at2 b hb).2⟩, ?_⟩
    rw [e3, Heap.size_push]
    exact Nat.lt_succ_of_lt l
  have stood3 : tn 0 z3.heap := T.keep _ _ _ stood fun b _ o e => older b o e
  have I4 := invIn (E := E) (block_start I3 ok hnd at3)
  have pg := hg z3 (upd K2 D (.lst [])) z3.heap.objs.size (cellsFrom (z3.heap.objs.size + 1) scope.names (cloFrom X.env.cells scope.names [])) its
  have pt := ht z3 (upd K2 D (.lst [])) z3.heap.objs.size (cellsFrom (z3.heap.objs.size + 1) scope.names (cloFrom X.env.cells scope.names [])) its
  have pe := he z3 (upd K2 D (.lst [])) z3.heap.objs.size (cellsFrom (z3.heap.objs.size + 1) scope.names (cloFrom X.env.cells scope.names [])) its
  have ceF : (compEnvC scope (cellsFrom (z3.heap.objs.size + 1) scope.names (cloFrom X.env.cells scope.names [])) z3.heap.objs.size X.env).frame = X.env.frame := rfl
  have ceL : (compEnvC scope (cellsFrom (z3.heap.objs.size + 1) scope.names (cloFrom X.env.cells scope.names [])) z3.heap.objs.size X.env).locals = z3.heap.objs.size := rfl
  show codeAny _ _ (.compStart (.ListComp el [⟨tgt, src, tests, 0⟩] scope p1) 0 (.ref it) (.ref D) (compEnvC scope (cellsFrom (z3.heap.objs.size + 1) scope.names (cloFrom X.env.cells scope.names [])) z3.heap.objs.size X.env))
    (compEnds (model X.prog X.w) X.A X.xe use F (.ref D) (compEnvC scope (cellsFrom (z3.heap.objs.size + 1) scope.names (cloFrom X.env.cells scope.names [])) z3.heap.objs.size X.env)) { z3 with heap := pushCells (z3.heap.push { cls := .type "dict", data := .dict #[] }) scope.names }
  generalize hce : compEnvC scope (cellsFrom (z3.heap.objs.size + 1) scope.names (cloFrom X.env.cells scope.names [])) z3.heap.objs.size X.env = ce at I4 pg pt pe ceF ceL ⊢
  have none0 : ∀ b ∈ its, upd K2 D (.lst []) b = none := fun b hb => (at3 b hb).1.1
  have away : ∀ u z, StepX X E z3 (upd K2 D (.lst [])) scope ce its u z → notedBy (model X.prog X.w) X.A ce (fun e z' => compEnds (model X.prog X.w) X.A X.xe use F (.ref D) ce (.error e) z') u z := fun u z x =>
    wpAny_mono (StepX.out (E1 := fun e z' => compEnds (model X.prog X.w) X.A X.xe use F (.ref D) ce (.error e) z') hst hfr tk I3 (fun b hb => (at3 b hb).1) ceF (Nat.le_of_eq ceL.symm) x) (fun _ _ y => by cases use <;> exact y) fun _ _ y => y
  generalize hK3 : upd K2 D (.lst []) = K3 at I3 I4 pg pt pe w0 none0 at3 away
  generalize hz4 : ({ z3 with heap := pushCells (z3.heap.push { cls := .type "dict", data := .dict #[] }) scope.names } : Shared) = z4 at I4 ⊢
  have stood4 : tn 0 z4.heap := T.keep _ _ _ stood3 fun b _ o e => by
    subst hz4
    exact pushCells_keeps _ _ _ _ (Heap.get?_push_of_some _ e)
  have quiet : ∀ {τ : L2.St} {K : Hp} {z : Shared}, Inv (Cx.blkX X E z3 K3 scope ce its) [] τ K z → (∀ b ∈ its, K b = none) → ∀ b ∈ its, FpOk (Cx.blkX X E z3 K3 scope ce its) [] K b := fun {τ K z} I' hn b hb =>
    ⟨hn b hb, (I'.ok.exf b hb).1, I'.ok.exfs b hb, .inl hb, fun x c e => (I'.ok.exf b hb).2 x c e, fun p hp => nomatch (show p ∈ ([] : List (Addr × Obj)) ++ [] from hp)⟩
  have loop : codeAny (model X.prog X.w) X.A (.compLoop (.ListComp el [⟨tgt, src, tests, 0⟩] scope p1) 0 (.ref it) (.ref D) ce) (compEnds (model X.prog X.w) X.A X.xe use F (.ref D) ce) z4 := by
    refine compLoop_any (R := compEnds (model X.prog X.w) X.A X.xe use F (.ref D) ce) (fun n z => ∃ i K, Inv (Cx.blkX X E z3 K3 scope ce its) [] (wipe σ (mine.map (·.2))) K z ∧ tn i z.heap ∧ (∀ b ∈ its, K b = none) ∧ W i n K) ?_ k0 ⟨0, K3, I4, stood4, none0, w0⟩
    rintro n z5 ⟨i, K5, I5, stood5, none5, w5⟩
    rcases step i n K5 w5 with ⟨stop, gg⟩ | ⟨go, Nx, hNx, one⟩
    · refine thnF (T.done (Cx.blkX X E z3 K3 scope ce its) rfl rfl rfl hcalm i [] z5 _ K5 (fun _ _ => False) I5 (quiet I5 none5) stood5 stop) fun r z6 ⟨hr, I6⟩ => ?_
      subst hr
      have I7 : Inv X pins σ K5 z6 := I3.call' (ch := its) I6.os I6.base I6.hok I6.bare fun b hb =>
        have a := (at3 b hb).1.2
        ⟨a.2.2.1, a.1, a.2.2.2.1, a.2.2.2.2⟩
      have gone : K5 ce.locals = none := I6.free
      obtain ⟨m, ns, _⟩ := I6.loc
      exact back D ce z6 m K5 I7 gg ns (I3.fpOk (Nat.le_of_eq ceL.symm) gone)
    · refine thnF (T.item (Cx.blkX X E z3 K3 scope ce its) rfl rfl rfl hcalm i [] z5 _ K5 (fun _ _ => False) I5 (quiet I5 none5) stood5 go) fun r z6 ⟨u, hr, w6⟩ => ?_
      subst hr
      refine thnF w6 fun _ z7 ⟨x, K7, I7, r7, y7, stood7, none7⟩ => ?_
      have pinned := I7.pinned (quiet I7 none7) (T.obj _ _ stood7)
      refine wpAny_mono (pg.run _ z7 _ K7 x u _ pinned r7 (one x K7 y7)) (fun _ z8 ⟨τ8, K8, I8, len8, q8⟩ => ?_) away
      refine wpAny_mono (pt.run _ z8 τ8 K8 _ I8 q8) (fun b z9 ⟨K9, I9, q9⟩ => ?_) away
      have turned : ∀ {z : Shared} {K : Hp}, Inv (Cx.blkX X E z3 K3 scope ce its) ([] ++ pinsAt its z7.heap) τ8 K z → Nx K → ∃ m, m < n ∧ ∃ i K, Inv (Cx.blkX X E z3 K3 scope ce its) [] (wipe σ (mine.map (·.2))) K z ∧ tn i z.heap ∧ (∀ b ∈ its, K b = none) ∧ W i m K := fun {z K} I' nx => by
        obtain ⟨m, lt, w'⟩ := hNx K nx
        have still : ∀ b ∈ its, ∀ o, z7.heap.get? b = some o → z.heap.get? b = some o ∧ K b = none := fun b hb o e =>
          have y := I'.pin (b, o) (List.mem_append_right _ (List.mem_append_right _ (mem_pinsAt hb e)))
          ⟨y.1, y.2.1⟩
        have len : (wipe σ (mine.map (·.2))).length = τ8.length := by rw [← len8, wipe_length]
        refine ⟨m, lt, i + 1, K, (I'.unpinned (pins := [])).weak len (fun j v e => (wipe_some (len8 ▸ e)).1), T.keep _ _ _ stood7 fun b hb o e => (still b hb o e).1, fun b hb => ?_, w'⟩
        obtain ⟨o, e, _⟩ := T.obj _ _ stood7 b hb
        exact (still b hb o e).2
      cases b with
      | false => exact turned I9 q9
      | true =>
        refine wpAny_mono (pe.run _ z9 τ8 K9 _ I9 q9) (fun y z10 ⟨yv, K10, I10, r10, acc, got, small, nx⟩ => ?_) away
        exact app_ok (X := Cx.blkX X E z3 K3 scope ce its) I10 got small r10 fun z11 I11 => turned I11 nx
  exact codeAny_compStart_list loop (T.self X.A 0 _ _ _ stood4 loop)
/-- the list as a value -/
theorem pe_lcX {X : Cx} {E : XK} {el tgt src : Expr} {tests : List Expr} {scope : Scope} {mine : List (Str × Nat)} {p1 : Pos} {wi : TI} {tg : TG} {tt : TT} {te : TE}
    (up : X.stack = X.env :: X.outer ∧ X.env.frame = some X.env.locals ∧ L2N.Takes X fun cls d _ K => E cls d K) (hcalm : X.calm = true) (hnd : X.N.Nodup) (pi : PI X tgt src wi) (ok : BlkOk X.N X.env.scope scope mine)
    (hg : ∀ (t : Shared) (K : Hp) (C : Addr) (cl : List (Str × Addr)) (its : List Addr), PG (Cx.blkX X E t K scope (compEnvC scope cl C X.env) its) tgt tg)
    (ht : ∀ (t : Shared) (K : Hp) (C : Addr) (cl : List (Str × Addr)) (its : List Addr), PTs (Cx.blkX X E t K scope (compEnvC scope cl C X.env) its) tests tt)
    (he : ∀ (t : Shared) (K : Hp) (C : Addr) (cl : List (Str × Addr)) (its : List Addr), PE (Cx.blkX X E t K scope (compEnvC scope cl C X.env) its) el te)
    (hset : ∀ x, foldedSetIterable src X.env x = pure x := by intro _; rfl) :
    PE X (.ListComp el [⟨tgt, src, tests, 0⟩] scope p1) (tLc wi tg tt te (mine.map (·.2))) :=
  ⟨fun pins z σ J G I h => by
    rw [eval_ListComp]
    refine lc_coreX up.1 up.2.1 up.2.2 hcalm hnd I pi ok hg ht he hset h fun D ce z' m K I' g ns f => ⟨m, ns, fun hp same => ?_⟩
    exact ⟨.ref D, K, I'.turned (t' := z'.toks) (fun b o hb e => (same.2 b hb).trans e) f.1 f.2.1 f.2.2.2.1 f.2.2.2.2.1 f.2.2.2.2.2, rfl, g⟩⟩
/-- the list to a name, both on one line -/
theorem ps_setLcX {X : Cx} {E : XK} {i : Nat} {y : Str} {py p1 p3 : Pos} {el tgt src : Expr} {tests : List Expr} {scope : Scope} {mine : List (Str × Nat)} {wi : TI} {tg : TG} {tt : TT} {te : TE}
    (up : X.stack = X.env :: X.outer ∧ X.env.frame = some X.env.locals ∧ L2N.Takes X fun cls d _ K => E cls d K) (hcalm : X.calm = true) (hnd : X.N.Nodup) (hy : X.N[i]? = some y) (loc : X.env.scope.names.lookup y = some .local)
    (sw : swapsWith (.ListComp el [⟨tgt, src, tests, 0⟩] scope p1) (some (.Name y py)) p3.line X.env = pure true) (pi : PI X tgt src wi) (ok : BlkOk X.N X.env.scope scope mine)
    (hg : ∀ (t : Shared) (K : Hp) (C : Addr) (cl : List (Str × Addr)) (its : List Addr), PG (Cx.blkX X E t K scope (compEnvC scope cl C X.env) its) tgt tg)
    (ht : ∀ (t : Shared) (K : Hp) (C : Addr) (cl : List (Str × Addr)) (its : List Addr), PTs (Cx.blkX X E t K scope (compEnvC scope cl C X.env) its) tests tt)
    (he : ∀ (t : Shared) (K : Hp) (C : Addr) (cl : List (Str × Addr)) (its : List Addr), PE (Cx.blkX X E t K scope (compEnvC scope cl C X.env) its) el te)
    (hset : ∀ x, foldedSetIterable src X.env x = pure x := by intro _; rfl) :
    PS X (.Assign [.Name y py] (.ListComp el [⟨tgt, src, tests, 0⟩] scope p1) p3) (tAsg (tLc wi tg tt te (mine.map (·.2))) (gName i)) :=
  ⟨fun pins z σ J D I h => by
    rw [exec_Assign_Name_used _ _ _ _ sw]
    refine wpAny_bind (wpAny_standAt (wpAny_bind ?_))
    show wpAny _ X.A (do let _ ← comprehension (.ListComp el [⟨tgt, src, tests, 0⟩] scope p1) scope X.env (firstIterPos [⟨tgt, src, tests, 0⟩] p1) (newList []) false (eval src X.env) (some (assign (.Name y py) X.env))) _ _ z
    have h : tLc wi tg tt te (mine.map (·.2)) σ J (fun x K => gName i x σ K D.nx) := h
    refine wpAny_bind (thn (lc_coreX (F := fun _ z' => SP X pins D .next z') up.1 up.2.1 up.2.2 hcalm hnd I pi ok hg ht he hset h fun L ce z' m K I' g ns f => ?_) fun _ z' q => wpAny_pure (wpAny_pure q))
    refine show wpAny _ _ (assign (.Name y py) X.env (.ref L)) _ _ _ from ?_
    refine wpAny_assign_Name (store_ok2 (v := V.ref L) I' hnd hy (.inl loc) rfl (fun z2 I2 ⟨a, same, at1⟩ => ?_) (.inr loc))
    have other : ce.locals ≠ a := at1.elim (fun e => e ▸ f.2.1) fun e c => f.2.2.2.2.1 y a e c.symm
    refine ⟨m, ns.sameBut same other, fun hp same3 => ⟨_, K, ?_, g⟩⟩
    exact I2.turned (t' := z2.toks) (fun b o hb e => (same3.2 b hb).trans e) f.1 f.2.1 f.2.2.2.1 f.2.2.2.2.1 f.2.2.2.2.2⟩
end

/-! More comprehensions: with a test, of truths -/
section
variable {K : PySem.W.Frag} {σ : L2.St} {H : Hp} {Q : VK} {te : TE} {tt : TT} {i : Nat} {vs : List Nat}
theorem filter_push {α : Type} {l : List α} {x : α} {b : α → Bool} {β : Type} {f : α → β} (h : b x = true) : ((l ++ [x]).filter b).map f = (l.filter b).map f ++ [f x] := by
  rw [List.filter_append, List.map_append]
  simp [h]
theorem filter_skip {α : Type} {l : List α} {x : α} {b : α → Bool} {β : Type} {f : α → β} (h : b x = false) : ((l ++ [x]).filter b).map f = (l.filter b).map f := by
  rw [List.filter_append, List.map_append]
  simp [h]
/-- [f k for k in range(n) if b k] -/
theorem lcRF {n : Nat} (b : Nat → Bool) (f : Nat → Int) (hn : n ≤ 100000) (hw : ∀ x : Int, wipe ((wipe σ vs).set i (some (.int x))) vs = wipe σ vs)
    (ht : ∀ D k ns H1 (R : Bool → Hp → Prop), k < n → Led H [(D, ilst ns)] H1 → (∀ H2, Led H [(D, ilst ns)] H2 → R (b k) H2) → tt ((wipe σ vs).set i (some (.int (0 + k)))) H1 R)
    (he : ∀ D k ns H1 (R : VK), k < n → Led H [(D, ilst ns)] H1 → (∀ H2, Led H [(D, ilst ns)] H2 → R (.int (f k)) H2) → te ((wipe σ vs).set i (some (.int (0 + k)))) H1 R)
    (hd : ∀ D H1, H D = none → Same H H1 → H1 D = some (ilst (((List.range n).filter b).map f)) → Q (.ref D) H1) : LcR 0 n i tt te vs σ H Q := by
  refine lcRT (fun D k H1 => Led H [(D, ilst (((List.range k).filter b).map f))] H1) (fun D nD => (Led.nil H).alloc nD _) hw (fun D k H1 nD hk l1 => ?_) (fun D H1 nD l1 => hd D H1 nD l1.same (l1.get 0 rfl))
  refine ht D k _ H1 _ hk l1 fun H2 l2 => ?_
  cases hb : b k with
  | false =>
    refine iteF ?_
    show Led H [(D, ilst (((List.range (k + 1)).filter b).map f))] H2
    rw [List.range_succ, filter_skip hb]
    exact l2
  | true =>
    refine iteT ?_
    refine he D k _ H2 _ hk l2 fun H3 l3 => ?_
    refine ⟨_, l3.get 0 rfl, ?_, ?_⟩
    · have h1 := List.length_filter_le b (List.range k)
      rw [List.length_range] at h1
      rw [List.length_map, List.length_map]
      exact Nat.lt_of_lt_of_le (show _ < 100000 by omega) (by decide)
    · show Led H [(D, ilst (((List.range (k + 1)).filter b).map f))] _
      rw [List.range_succ, filter_push hb]
      exact ints_push l3
/-- [f x for x in xs if b x], xs ints -/
theorem lcLF {a : Addr} {xs : List Int} (b : Int → Bool) (f : Int → Int) (hn : xs.length ≤ 100000) (s : SqL K H a (xs.map V.int)) (hw : ∀ x : V, wipe ((wipe σ vs).set i (some x)) vs = wipe σ vs)
    (ht : ∀ D x ns H1 (R : Bool → Hp → Prop), x ∈ xs → Led H [(D, ilst ns)] H1 → (∀ H2, Led H [(D, ilst ns)] H2 → R (b x) H2) → tt ((wipe σ vs).set i (some (.int x))) H1 R)
    (he : ∀ D x ns H1 (R : VK), x ∈ xs → Led H [(D, ilst ns)] H1 → (∀ H2, Led H [(D, ilst ns)] H2 → R (.int (f x)) H2) → te ((wipe σ vs).set i (some (.int x))) H1 R)
    (hd : ∀ D H1, H D = none → Same H H1 → H1 D = some (ilst ((xs.filter b).map f)) → Q (.ref D) H1) : LcL K a i tt te vs σ H Q := by
  intro D nD
  refine lc_list (xs := xs.map V.int) (g := gName i) (fun k H1 => Led H [(D, ilst (((xs.take k).filter b).map f))] H1) ((Led.nil H).alloc nD _) (fun k H1 hk l1 => l1.base s) (fun k x H1 hx l1 => ⟨hw _, ?_⟩) (fun H1 l1 => hd D H1 nD l1.same (by
    have z := l1.get 0 rfl
    rw [List.length_map, List.take_length] at z
    exact z))
  have hk : k < xs.length := by
    have := (List.getElem?_eq_some_iff.mp hx).1
    simpa using this
  rw [List.getElem?_map, List.getElem?_eq_getElem hk] at hx
  cases hx
  have e : xs.take (k + 1) = xs.take k ++ [xs[k]] := by rw [List.take_add_one, List.getElem?_eq_getElem hk]; rfl
  refine ht D _ _ H1 _ (List.getElem_mem hk) l1 fun H2 l2 => ?_
  cases hb : b xs[k] with
  | false =>
    refine iteF ?_
    show Led H [(D, ilst (((xs.take (k + 1)).filter b).map f))] H2
    rw [e, filter_skip hb]
    exact l2
  | true =>
    refine iteT ?_
    refine he D _ _ H2 _ (List.getElem_mem hk) l2 fun H3 l3 => ?_
    refine ⟨_, l3.get 0 rfl, ?_, ?_⟩
    · have h1 := List.length_filter_le b (xs.take k)
      rw [List.length_take] at h1
      rw [List.length_map, List.length_map]
      exact Nat.lt_of_lt_of_le (show _ < 100000 by omega) (by decide)
    · show Led H [(D, ilst (((xs.take (k + 1)).filter b).map f))] _
      rw [e, filter_push hb]
      exact ints_push l3
theorem bls_push {H2 : Hp} {D : Addr} {ns : List Bool} {x : Bool} (h : Led H [(D, blst ns)] H2) : Led H [(D, blst (ns ++ [x]))] (upd H2 D (.lst (ns.map V.bl ++ [V.bl x]))) := by
  have z := h.set (i := 0) rfl (.lst (ns.map V.bl ++ [V.bl x]))
  have e2 : blst (ns ++ [x]) = .lst (ns.map V.bl ++ [V.bl x]) := by rw [blst, List.map_append]; rfl
  rw [e2]
  exact z
/-- [f k for k in range(n)], truths -/
theorem lcRB {n : Nat} (f : Nat → Bool) (hn : n ≤ 100000) (hw : ∀ x : Int, wipe ((wipe σ vs).set i (some (.int x))) vs = wipe σ vs)
    (he : ∀ D k ns H1 (R : VK), k < n → Led H [(D, blst ns)] H1 → (∀ H2, Led H [(D, blst ns)] H2 → R (.bl (f k)) H2) → te ((wipe σ vs).set i (some (.int (0 + k)))) H1 R)
    (hd : ∀ D H1, H D = none → Same H H1 → H1 D = some (blst ((List.range n).map f)) → Q (.ref D) H1) : LcR 0 n i tYes te vs σ H Q := by
  refine lcR (fun D k H1 => Led H [(D, blst ((List.range k).map f))] H1) (fun D nD => (Led.nil H).alloc nD _) hw (fun D k H1 nD hk l1 => ?_) (fun D H1 nD l1 => hd D H1 nD l1.same (l1.get 0 rfl))
  refine he D k _ H1 _ hk l1 fun H2 l2 => ⟨_, l2.get 0 rfl, ?_, ?_⟩
  · rw [List.length_map, List.length_map, List.length_range]
    exact Nat.lt_of_lt_of_le (show _ < 100000 by omega) (by decide)
  · show Led H [(D, blst ((List.range (k + 1)).map f))] _
    rw [List.range_succ, List.map_append]
    exact bls_push l2
/-- one and the same value for each item -/
theorem lcRowsV {a : Addr} {rows : List (List Int)} {v : V} (R : RowsAt H a rows) (hn : rows.length ≤ 100000) (hw : ∀ x : V, wipe ((wipe σ vs).set i (some x)) vs = wipe σ vs)
    (hd : ∀ D H1, H D = none → Same H H1 → H1 D = some (.lst (List.replicate rows.length v)) → Q (.ref D) H1) : LcL K a i tYes (tC v) vs σ H Q := by
  obtain ⟨as, e1, e2, _⟩ := R.sq (K := K)
  refine lcL (xs := as.map V.ref) (fun D k H1 => Led H [(D, .lst (List.replicate k v))] H1) (fun D nD => (Led.nil H).alloc nD _) (fun D k H1 _ l1 => l1.base e1) hw (fun D k x H1 nD hx l1 => ?_) (fun D H1 nD l1 => hd D H1 nD l1.same (by
    have z := l1.get 0 rfl
    rw [List.length_map, e2] at z
    exact z))
  have hk : k < rows.length := by
    have := (List.getElem?_eq_some_iff.mp hx).1
    rw [List.length_map, e2] at this
    exact this
  refine ⟨_, l1.get 0 rfl, ?_, ?_⟩
  · rw [List.length_replicate]
    exact Nat.lt_of_lt_of_le (show _ < 100000 by omega) (by decide)
  · have z := l1.set (i := 0) rfl (.lst (List.replicate k v ++ [v]))
    rw [← List.replicate_succ'] at z ⊢
    exact z
end
section
variable {K : PySem.W.Frag} {H : Hp} {Q : VK} {B : Hp} {L : List (Addr × HO)}
theorem g_setBl (led : Led B L H) (j : Nat) {p : Addr} {ns : List Bool} {i : Int} {x : Bool} {R : Hp → Prop} (e : L[j]? = some (p, blst ns)) (h0 : 0 ≤ i) (h1 : i < ns.length) (q : ∀ H', Led B (L.set j (p, blst (ns.set i.toNat x))) H' → R H') :
    rSetL (.ref p) (.int i) (.bl x) H R := by
  refine ⟨p, ns.map V.bl, i, i.toNat, rfl, rfl, led.get j e, ?_, ?_⟩
  · rw [List.length_map]
    exact ixN_of h0 h1
  · rw [show (ns.map V.bl).set i.toNat (V.bl x) = (ns.set i.toNat x).map V.bl from List.map_set.symm]
    exact q _ (led.set e _)
theorem g_all {p : Addr} {bs : List Bool} (s : SqL K H p (bs.map V.bl)) (h : Q (.bl (bs.all id)) H) : rAll K [.ref p] H Q := ⟨p, bs, rfl, s, h⟩
theorem g_any {p : Addr} {bs : List Bool} (s : SqL K H p (bs.map V.bl)) (h : Q (.bl (bs.any id)) H) : rAny K [.ref p] H Q := ⟨p, bs, rfl, s, h⟩
theorem inV_ints {x : Int} {ns : List Int} : inV (.int x) (ns.map V.int) = decide (x ∈ ns) := by
  unfold inV
  rw [List.any_map]
  induction ns with
  | nil => rfl
  | cons n ns ih =>
    rw [List.any_cons, ih]
    show ((n == x) || _) = _
    by_cases e : n = x
    · subst e
      simp
    · have e2 : ¬ x = n := fun z => e z.symm
      simp [e, e2]
theorem flat_ints : ∀ ns : List Int, (ns.map V.int).all flatV = true
  | [] => rfl
  | n :: ns => by
    rw [List.map_cons, List.all_cons, flat_ints ns]
    rfl
theorem g_inI {p : Addr} {ns : List Int} {x : Int} (s : SqL K H p (ns.map V.int)) (h : Q (.bl (decide (x ∈ ns))) H) : rIn K false (.int x) (.ref p) H Q :=
  ⟨p, _, rfl, .inl s, rfl, flat_ints ns, by rw [if_neg (by decide), inV_ints]; exact h⟩
theorem inV_bls {x : Bool} {ns : List Bool} : inV (.bl x) (ns.map V.bl) = decide (x ∈ ns) := by
  unfold inV
  rw [List.any_map]
  induction ns with
  | nil => rfl
  | cons n ns ih =>
    rw [List.any_cons, ih]
    show ((n == x) || _) = _
    cases n <;> cases x <;> simp
theorem flat_bls : ∀ ns : List Bool, (ns.map V.bl).all flatV = true
  | [] => rfl
  | n :: ns => by
    rw [List.map_cons, List.all_cons, flat_bls ns]
    rfl
theorem g_ninB {p : Addr} {ns : List Bool} {x : Bool} (s : SqL K H p (ns.map V.bl)) (h : Q (.bl (!decide (x ∈ ns))) H) : rIn K true (.bl x) (.ref p) H Q :=
  ⟨p, _, rfl, .inl s, rfl, flat_bls ns, by rw [if_pos rfl, inV_bls]; exact h⟩
end
theorem whileN {tt : TT} {tb : TS} {D : Ends} {σ : L2.St} {H : Hp} (W : Nat → L2.St → Hp → Prop) (m0 : Nat) (h0 : W m0 σ H)
    (hs : ∀ m σ H, W m σ H → tt σ H fun b H1 => if b = true then ∃ N : L2.St → Hp → Prop, (∀ σ' H', N σ' H' → ∃ m', m' < m ∧ W m' σ' H') ∧ tb { D with nx := N, ct := N, bk := D.nx } σ H1 else D.nx σ H1) : tWhile tt tb D σ H := ⟨W, ⟨m0, h0⟩, hs⟩
section
variable {K : PySem.W.Frag} {σ : L2.St} {H : Hp} {Q : VK} {te : TE} {tt : TT} {i : Nat} {vs : List Nat}
theorem lcLRowsL {a : Addr} {xs : List V} (P : List (List Int) → Prop) (h0 : P []) (hn : xs.length ≤ 100000) (s : SqL K H a xs) (hw : ∀ x : V, wipe ((wipe σ vs).set i (some x)) vs = wipe σ vs)
    (hs : ∀ D k v as rows H1 (R : VK), xs[k]? = some v → rows.length = k → P rows → Led H (rowLed D as rows) H1 → (∀ r row H2, P (rows ++ [row]) → Led H (rowLed D as rows ++ [(r, ilst row)]) H2 → R (.ref r) H2) → te ((wipe σ vs).set i (some v)) H1 R)
    (hd : ∀ D as rows H1, as.length = rows.length → rows.length = xs.length → P rows → Led H (rowLed D as rows) H1 → Q (.ref D) H1) : LcL K a i tYes te vs σ H Q :=
  lcL (xs := xs) (RowsUp H P) (fun D nD => RowsUp.start h0 D nD) (fun D k H1 _ ⟨as, rows, e0, e, p1, l1⟩ => l1.base s) hw
    (fun D k v H1 nD hx ⟨as, rows, e0, e, p1, l1⟩ => hs D k v as rows H1 _ hx e p1 l1 fun r row H2 p2 l2 => RowsUp.step e0 e (by have := (List.getElem?_eq_some_iff.mp hx).1; omega) p2 l2)
    (fun D H1 nD ⟨as, rows, e0, e, p1, l1⟩ => hd D as rows H1 e0 e p1 l1)
/-- each row copied, the copies in the ledger -/
theorem lcCopyL {a : Addr} {rows : List (List Int)} (R : RowsAt H a rows) (hn : rows.length ≤ 100000) (hw : ∀ x : V, wipe ((wipe σ vs).set i (some x)) vs = wipe σ vs) (hi : ∀ x : V, ((wipe σ vs).set i (some x))[i]? = some (some x))
    (hd : ∀ D as H1, as.length = rows.length → Led H (rowLed D as rows) H1 → Q (.ref D) H1) : LcL K a i tYes (tCB (mList K) (tCons (tVar i) tNil)) vs σ H Q := by
  obtain ⟨as, e1, e2, e3⟩ := R.sq (K := K)
  refine lcLRowsL (fun rs => rs = rows.take rs.length) rfl (by rw [List.length_map, e2]; exact hn) e1 hw (fun D k v bs rs H1 S hx e p l q => ?_) (fun D as' rs H1 e0 e p l => ?_)
  · obtain ⟨r, rfl, hk, hr⟩ := e3 k v hx
    refine g_cb (g_cons (g_var (hi _) (g_nil (g_list (l.base hr) fun m nm => q m (rows.getD k []) _ ?_ (l.alloc nm _)))))
    rw [List.length_append, e]
    show rs ++ [rows.getD k []] = rows.take (k + 1)
    rw [p, e, List.take_add_one, List.getD_eq_getElem?_getD, List.getElem?_eq_getElem hk]
    rfl
  · rw [List.length_map, e2] at e
    rw [e, List.take_length] at p
    subst p
    exact hd D as' H1 e0 l
end

/-! == and != over lists of ints, of rows, over told words -/
section
variable {K : PySem.W.Frag} {H : Hp} {Q : VK}
theorem dp_all_int : ∀ ns : List Int, DpAll K H (ns.map V.int) (ns.map PyData.int)
  | [] => .nil
  | n :: ns => .cons (.int n) (dp_all_int ns)
theorem dp_ints {p : Addr} {ns : List Int} (s : SqL K H p (ns.map V.int)) : Dp K H (.ref p) (.list (ns.map PyData.int)) := .lst s (dp_all_int ns)
theorem dp_all_bl : ∀ ns : List Bool, DpAll K H (ns.map V.bl) (ns.map PyData.bool)
  | [] => .nil
  | n :: ns => .cons (.bl n) (dp_all_bl ns)
theorem dp_bls {p : Addr} {ns : List Bool} (s : SqL K H p (ns.map V.bl)) : Dp K H (.ref p) (.list (ns.map PyData.bool)) := .lst s (dp_all_bl ns)
theorem dp_rows {p : Addr} {rows : List (List Int)} (R : RowsAt H p rows) : Dp K H (.ref p) (.list (rows.map fun r => .list (r.map PyData.int))) := by
  obtain ⟨as, e1, e2, e3⟩ := R
  refine .lst (SqL.of e1) ?_
  have gen : ∀ (as : List Addr) (rows : List (List Int)), as.length = rows.length → (∀ (i : Nat) (r : Addr) (row : List Int), as[i]? = some r → rows[i]? = some row → H r = some (ilst row)) → DpAll K H (as.map V.ref) (rows.map fun r => .list (r.map PyData.int)) := by
    intro as
    induction as with
    | nil =>
      intro rows hl _
      cases rows with
      | nil => exact .nil
      | cons r rs => simp at hl
    | cons a as ih =>
      intro rows hl h
      cases rows with
      | nil => simp at hl
      | cons r rs => exact .cons (dp_ints (SqL.of (h 0 a r rfl rfl))) (ih rs (by simpa using hl) fun i b row h1 h2 => h (i + 1) b row h1 h2)
  exact gen as rows e2 e3
theorem lay_ints : ∀ ns : List Int, PyData.canLayAll0 (ns.map PyData.int) = true
  | [] => by simp [PyData.canLayAll0]
  | n :: ns => by
    rw [List.map_cons, PyData.canLayAll0, lay_ints ns]
    simp [PyData.canLay0]
theorem lay_bls : ∀ ns : List Bool, PyData.canLayAll0 (ns.map PyData.bool) = true
  | [] => by simp [PyData.canLayAll0]
  | n :: ns => by
    rw [List.map_cons, PyData.canLayAll0, lay_bls ns]
    simp [PyData.canLay0]
theorem lay_rows : ∀ rows : List (List Int), PyData.canLayAll0 (rows.map fun r => .list (r.map PyData.int)) = true
  | [] => by simp [PyData.canLayAll0]
  | r :: rs => by
    rw [List.map_cons, PyData.canLayAll0, lay_rows rs, PyData.canLay0, lay_ints r]
    rfl
theorem deep_ints : ∀ ns : List Int, PyData.depthAll (ns.map PyData.int) = 0
  | [] => by simp [PyData.depthAll]
  | n :: ns => by
    rw [List.map_cons, PyData.depthAll, deep_ints ns]
    simp [PyData.depth]
theorem deep_bls : ∀ ns : List Bool, PyData.depthAll (ns.map PyData.bool) = 0
  | [] => by simp [PyData.depthAll]
  | n :: ns => by
    rw [List.map_cons, PyData.depthAll, deep_bls ns]
    simp [PyData.depth]
theorem deep_rows : ∀ rows : List (List Int), PyData.depthAll (rows.map fun r => .list (r.map PyData.int)) ≤ 1
  | [] => by simp [PyData.depthAll]
  | r :: rs => by
    rw [List.map_cons, PyData.depthAll, PyData.depth, deep_ints r]
    exact Nat.max_le.mpr ⟨Nat.le_refl _, deep_rows rs⟩
theorem sh_ints (ns : List Int) : SeqAt.shaped (.list (ns.map PyData.int)) = true := by
  unfold SeqAt.shaped
  rw [PyData.canLay0, lay_ints, PyData.depth, deep_ints]
  rfl
theorem sh_bls (ns : List Bool) : SeqAt.shaped (.list (ns.map PyData.bool)) = true := by
  unfold SeqAt.shaped
  rw [PyData.canLay0, lay_bls, PyData.depth, deep_bls]
  rfl
theorem sh_rows (rows : List (List Int)) : SeqAt.shaped (.list (rows.map fun r => .list (r.map PyData.int))) = true := by
  unfold SeqAt.shaped
  rw [PyData.canLay0, lay_rows, PyData.depth]
  have := deep_rows rows
  rw [decide_eq_true (by omega)]
  rfl
theorem eqv_ints : ∀ ns ms : List Int, PyData.eqvAll (ns.map PyData.int) (ms.map PyData.int) = decide (ns = ms)
  | [], [] => by simp [PyData.eqvAll]
  | [], _ :: _ => by simp [PyData.eqvAll]
  | _ :: _, [] => by simp [PyData.eqvAll]
  | n :: ns, m :: ms => by
    rw [List.map_cons, List.map_cons, PyData.eqvAll, eqv_ints ns ms, PyData.eqv]
    by_cases e : n = m <;> simp [e]
theorem eqv_bls : ∀ ns ms : List Bool, PyData.eqvAll (ns.map PyData.bool) (ms.map PyData.bool) = decide (ns = ms)
  | [], [] => by simp [PyData.eqvAll]
  | [], _ :: _ => by simp [PyData.eqvAll]
  | _ :: _, [] => by simp [PyData.eqvAll]
  | n :: ns, m :: ms => by
    rw [List.map_cons, List.map_cons, PyData.eqvAll, eqv_bls ns ms, PyData.eqv]
    by_cases e : n = m <;> simp [e]
theorem eqv_rows : ∀ ns ms : List (List Int), PyData.eqvAll (ns.map fun r => .list (r.map PyData.int)) (ms.map fun r => .list (r.map PyData.int)) = decide (ns = ms)
  | [], [] => by simp [PyData.eqvAll]
  | [], _ :: _ => by simp [PyData.eqvAll]
  | _ :: _, [] => by simp [PyData.eqvAll]
  | n :: ns, m :: ms => by
    rw [List.map_cons, List.map_cons, PyData.eqvAll, eqv_rows ns ms, PyData.eqv, eqv_ints]
    by_cases e : n = m <;> simp [e]
theorem g_neRows {p q : Addr} {r1 r2 : List (List Int)} (R1 : RowsAt H p r1) (R2 : RowsAt H q r2) (h : Q (.bl (!decide (r1 = r2))) H) : rNeD K (.ref p) (.ref q) H Q :=
  ⟨_, _, dp_rows R1, dp_rows R2, sh_rows r1, sh_rows r2, by rw [PyData.eqv, eqv_rows]; exact h⟩
theorem g_eqRows {p q : Addr} {r1 r2 : List (List Int)} (R1 : RowsAt H p r1) (R2 : RowsAt H q r2) (h : Q (.bl (decide (r1 = r2))) H) : rEqD K (.ref p) (.ref q) H Q :=
  ⟨_, _, dp_rows R1, dp_rows R2, sh_rows r1, sh_rows r2, by rw [PyData.eqv, eqv_rows]; exact h⟩
theorem g_neInts {p q : Addr} {r1 r2 : List Int} (R1 : SqL K H p (r1.map V.int)) (R2 : SqL K H q (r2.map V.int)) (h : Q (.bl (!decide (r1 = r2))) H) : rNeD K (.ref p) (.ref q) H Q :=
  ⟨_, _, dp_ints R1, dp_ints R2, sh_ints r1, sh_ints r2, by rw [PyData.eqv, eqv_ints]; exact h⟩
theorem g_eqInts {p q : Addr} {r1 r2 : List Int} (R1 : SqL K H p (r1.map V.int)) (R2 : SqL K H q (r2.map V.int)) (h : Q (.bl (decide (r1 = r2))) H) : rEqD K (.ref p) (.ref q) H Q :=
  ⟨_, _, dp_ints R1, dp_ints R2, sh_ints r1, sh_ints r2, by rw [PyData.eqv, eqv_ints]; exact h⟩
theorem g_eqBls {p q : Addr} {r1 r2 : List Bool} (R1 : SqL K H p (r1.map V.bl)) (R2 : SqL K H q (r2.map V.bl)) (h : Q (.bl (decide (r1 = r2))) H) : rEqD K (.ref p) (.ref q) H Q :=
  ⟨_, _, dp_bls R1, dp_bls R2, sh_bls r1, sh_bls r2, by rw [PyData.eqv, eqv_bls]; exact h⟩
theorem g_neBls {p q : Addr} {r1 r2 : List Bool} (R1 : SqL K H p (r1.map V.bl)) (R2 : SqL K H q (r2.map V.bl)) (h : Q (.bl (!decide (r1 = r2))) H) : rNeD K (.ref p) (.ref q) H Q :=
  ⟨_, _, dp_bls R1, dp_bls R2, sh_bls r1, sh_bls r2, by rw [PyData.eqv, eqv_bls]; exact h⟩
end
/-! ### (word, None) -/
section
variable {K : PySem.W.Frag} {H : Hp} {Q : VK} {σ : L2.St}
theorem g_tup {ta : TA} (h : ta σ H fun xs H1 => xs.length ≤ sizeLine ∧ ∀ p, H1 p = none → Q (.ref p) (upd H1 p (.tup xs))) : tTup ta σ H Q := h
theorem g_neWord {p q : Addr} {w : Str} (hw : PyData.strOk w = true) (e1 : H p = some (.tup [.str w, .non])) (e2 : H q = some (.tup [.str w, .non])) (h : Q (.bl false) H) : rNeD K (.ref p) (.ref q) H Q := by
  have d : ∀ p, H p = some (.tup [.str w, .non]) → Dp K H (.ref p) (.tuple [.str w, .none]) := fun p e => .tup (.inl (.inl e)) (.cons (.str w) (.cons .non .nil))
  have sh : SeqAt.shaped (.tuple [.str w, .none]) = true := by
    unfold SeqAt.shaped
    simp only [PyData.canLay0, PyData.canLayAll0, PyData.depth, PyData.depthAll]
    rw [hw]
    rfl
  refine ⟨_, _, d p e1, d q e2, sh, sh, ?_⟩
  have e : PyData.eqv (.tuple [.str w, .none]) (.tuple [.str w, .none]) = true := by
    simp [PyData.eqv, PyData.eqvAll]
  rw [e]
  exact h
end
theorem g_ixT {K : PySem.W.Frag} {H : Hp} {Q : VK} {p : Addr} {xs : List V} {i : Int} {v : V} (s : H p = some (.tup xs)) (h0 : 0 ≤ i) (e : xs[i.toNat]? = some v) (h : Q v H) : rIxT K (.ref p) (.int i) H Q :=
  ⟨p, xs, i, v, rfl, rfl, .inl (.inl s), at_of (j := i.toNat) (by omega) e, h⟩

/-! Defs that raise where nothing is handled (context None); a def that is handed the caught error -/
section
open PySem.Spec PyProof.Rows
theorem passLN {X : Cx} : Passes (L2N.CX X.prog X.w) X E0 := fun _ _ _ _ _ _ _ c => by
  obtain ⟨_, _, _, _, _, _, _, _, _, _, _, _, f⟩ := c
  exact f.elim
/-- a def whose errors have no context -/
theorem okXN {P : Program} {w : World} {K : PySem.W.Frag} {mg : Str → Option Value} {base : Heap} {nm qual : Str} {st : Stmt} {f : Addr} {fd : FuncData} {N ps : List Str} {k : Nat} {sp : Sp} (F : Fun K nm qual st f fd) (S : FnScope N ps (defScope st))
    (len : ∀ vs H Q E, sp vs H Q E → vs.length = ps.length)
    (body : ∀ (cdv : Value) (A : Around) (outer : List Env) (s : Shared) (H : Hp) (vs : List V) (Q : VK) (E : XK), Room k (A.deeper (envOfC qual (defScope st) s.heap.objs.size f cdv)) → sp vs H Q E →
      ∃ t, PSs (cxOf (L2N.CX P w) P w K mg base N qual (defScope st) f cdv A outer s H E) (defBody st) t ∧ t { nx := fun _ H' => Q .non H', rt := Q } (start N vs) H) : FnOk P w K mg base (L2N.CX P w) (k + 1) f fd ps sp := by
  obtain ⟨_, _, _, _, _, _, cdv, _, _, rfl, look, code⟩ := F.ex
  exact fn_of look code S len fun A outer s H vs Q E room h => body cdv A outer s H vs Q E room h
/-- what a def promises that is handed the error p in a suite -/
structure FnP (P : Program) (w : World) (K : PySem.W.Frag) (mg : Str → Option Value) (base : Heap) (k : Nat) (f : Addr) (fd : FuncData) (ps : List Str) (sp : Addr × Obj → Sp) : Prop where
  len : ∀ p vs H Q E, sp p vs H Q E → vs.length = ps.length
  run : ∀ (p : Addr × Obj) (A : Around) (outer : List Env) (s : Shared) (H : Hp) (args : Args) (us : List Value) (vs : List V) (Q : VK), L2H.RoomH k A → (∃ xs, p.2.data = .fields xs) → L2H.PinOk outer H s p → Env0 P w K mg base A outer s H → BindsTo s fd args (ps.zip us) → Vals vs us →
    sp p vs H Q E0 → codeAny (model P w) A (.call (.ref f) args) (CR CX0 outer P w H s Q E0) s
theorem okP {P : Program} {w : World} {K : PySem.W.Frag} {mg : Str → Option Value} {base : Heap} {nm qual : Str} {st : Stmt} {f : Addr} {fd : FuncData} {N ps : List Str} {k : Nat} {sp : Addr × Obj → Sp} (F : Fun K nm qual st f fd) (S : FnScope N ps (defScope st))
    (len : ∀ p vs H Q E, sp p vs H Q E → vs.length = ps.length)
    (body : ∀ (cdv : Value) (p : Addr × Obj) (A : Around) (outer : List Env) (s : Shared) (H : Hp) (vs : List V) (Q : VK), (∃ xs, p.2.data = .fields xs) → L2H.RoomH k (A.deeper (envOfC qual (defScope st) s.heap.objs.size f cdv)) → sp p vs H Q E0 →
      ∃ t, PSs (L2H.cxH CX0 P w K mg base N qual (defScope st) f cdv A outer s H E0 p) (defBody st) t ∧ t { nx := fun _ H' => Q .non H', rt := Q } (start N vs) H) : FnP P w K mg base (k + 1) f fd ps sp := by
  obtain ⟨_, _, _, _, _, _, cdv, _, _, rfl, look, code⟩ := F.ex
  refine ⟨len, fun p A outer s H args us vs Q room hf pin e0 bind rel h => ?_⟩
  have inK : K.In s.heap := e0.mod.kin.keeps fun b o q => (e0.bs b o q).1
  have noL : s.heap.NoLimit := e0.mod.nolimit.keeps fun b o q => (e0.bs b o q).1
  have kinds : ∀ y ∈ ps.zip us, (defScope st).names.lookup y.1 = some .local ∨ ((defScope st).names.lookup y.1 = some .cell ∧ ((cellsFrom (s.heap.objs.size + 1) (defScope st).names []).lookup y.1).isSome = true) := by
    rintro ⟨n, v⟩ hy
    refine (S.par n (List.of_mem_zip hy).1).imp id fun c => ⟨c, ?_⟩
    exact PySem.W.cellsFrom_some _ _ _ (.inl c)
  refine codeAny_call_function room.depth (inK _ _ look) rfl S.co S.gen rfl (PySem.W.codeRec_of inK code) (bind _ _ _ _ (wpAny_newFunctionEnv_cells S.kind kinds fun env he s1 x => ?_))
  subst he
  obtain ⟨t, ht, go⟩ := body cdv p A outer s H vs Q hf (room.deeper _) h
  have inv := L2H.inv_startH (CX := CX0) (E := E0) S pin e0 (len p vs H Q E0 h) rel x
  refine ⟨noL.keeps x.toInCall.keep, codeAny_func (wpAny_mono (ht.run [] s1 (start N vs) H _ inv go) (fun fl s2 hs => ?_) fun _ _ hs => hs)⟩
  cases fl with
  | next =>
    obtain ⟨_, H2, J, q⟩ := hs
    exact ⟨V.non, H2, J.os, J.bare, J.base, J.hok, rfl, q⟩
  | ret u =>
    obtain ⟨v, _, H2, J, rv, q⟩ := hs
    exact ⟨v, H2, J.os, J.bare, J.base, J.hok, rv, q⟩
  | brk => exact hs.elim fun _ ⟨_, _, q⟩ => q.elim
  | cont => exact hs.elim fun _ ⟨_, _, q⟩ => q.elim
/-- the call of such a def, the error its one argument -/
def tCallP (sp : Addr × Obj → Sp) (a : Addr) (cls : Value) (d : Option Addr) (ta : TA) : TE := fun σ H Q => ta σ H fun vs H1 => vs = [V.ref a] ∧ ∀ p : Addr × Obj, vs = [.ref p.1] → Zc cls d p.2 → (∃ xs, p.2.data = .fields xs) → sp p vs H1 Q E0
theorem g_callP {sp : Addr × Obj → Sp} {a : Addr} {cls : Value} {d : Option Addr} {ta : TA} {σ : L2.St} {H : Hp} {Q : VK} (h : ta σ H fun vs H1 => vs = [V.ref a] ∧ ∀ p : Addr × Obj, vs = [.ref p.1] → Zc cls d p.2 → (∃ xs, p.2.data = .fields xs) → sp p vs H1 Q E0) : tCallP sp a cls d ta σ H Q := h
theorem pe_callP {X : Cx} {k : Nat} {f a : Addr} {oe : Obj} {pn : List (Addr × Obj)} {cls : Value} {d : Option Addr} {fd : FuncData} {ps : List Str} {sp : Addr × Obj → Sp} {x : Str} {q pos : Pos} {e : Expr} {t : TA} (F : FnP X.prog X.w X.K X.mg X.base k f fd ps sp) (room : L2H.RoomH k (X.A.mark (some (.ref a))))
    (hz : Zc cls d oe) (hf : ∃ xs, oe.data = .fields xs) (hg : Gl (X.suite a ((a, oe) :: pn)) x) (hm : X.mg x = some (.ref f)) (hk : PySem.W.keepIn X.K (.ref f) = true) (hb : Binds X.K fd ps []) (ha : PA (X.suite a ((a, oe) :: pn)) [e] t)
    (hdb : (x == ("__debug__" : Str)) = false := by decide) (he : starEach [e] X.env = [(false, eval e X.env)] := by rfl) :
    PE (X.suite a ((a, oe) :: pn)) (.Call (.Name x q) [e] [] pos) (tCallP sp a cls d t) := by
  refine ⟨fun pins s σ H Q I h => wpAny_Call_Name_kw (ld_glob I hg hm ?_ hdb)⟩
  refine PySem.W.callWith_K (h₀ := X.base) I.ok.mod.kin hk (thn (ha.run pos pins s σ H _ I h) fun us s1 ⟨vs, H1, J, rel, ev, go⟩ => ⟨J.kIn, ?_⟩) he rfl
  obtain ⟨xs, hx⟩ := hf
  have sp1 := go (a, oe) ev hz ⟨xs, hx⟩
  have len := F.len _ _ _ _ _ sp1
  have at_ := J.pin (a, oe) (List.mem_append_left _ List.mem_cons_self)
  have pin : L2H.PinOk X.stack H1 s1 (a, oe) := ⟨at_.1, at_.2.1, fun m => ?_, at_.2.2.2.2⟩
  · have b := hb s1 us J.kIn (by rw [List.append_nil, ← rel.length]; exact len)
    rw [List.append_nil] at b
    refine wpAny_call (codeAny_mono (F.run (a, oe) (X.A.mark (some (.ref a))) X.stack s1 H1 ⟨us, []⟩ us vs Q room ⟨xs, hx⟩ pin J.env0 b rel sp1) fun r s2 hr => ?_)
    match r, hr with
    | .ok (.ret u), hr => exact J.after hr
    | .error u, hr => exact hr.elim
  · rcases List.mem_cons.mp (J.stkSub a m) with z | z
    · exact at_.2.2.1 z
    · exact at_.2.2.2.1 z
theorem roomMark {k : Nat} {A : Around} {v : Option Value} (r : Room k A) : L2H.RoomH k (A.mark v) := ⟨r.dp, r.un⟩
/-- isinstance of the error that the def was handed -/
theorem call_isP {X : Cx} {p : Addr × Obj} (hp : p ∈ X.pn) (hf : ∃ xs, p.2.data = .fields xs) : CallR X (.builtin "isinstance") (rIsX X.K p.1 p.2.cls p.2.dict) := by
  rintro pins s σ H xs us Q I r ⟨D, e1, e2, C, c, cv, b, rfl, same, e, q⟩
  obtain ⟨x, ⟨oc, od, oda, osl⟩⟩ := p
  obtain ⟨fs, hv⟩ := hf
  dsimp only at e1 e2 hv
  subst e1 e2 hv
  match us, r with
  | [u1, u2], .cons r1 (.cons r2 .nil) =>
    obtain rfl : u1 = Value.ref x := r1
    obtain rfl := same _ r2
    have inst : PySem.W.InstAt s.heap x ⟨.ref D, none, .fields fs, osl⟩ D none := ⟨(I.pin _ (List.mem_append_left _ hp)).1, rfl, rfl, trivial⟩
    exact PySem.W.kia_one (PySem.W.handS_kitx_exc C.hg C.hk C.hs C.hd C.ha C.hn C.ht C.hm) I.kIn inst e (fun z => nomatch z) fun tk => ⟨.bl b, H, I.kept (t' := tk) fun _ _ z => z, rfl, q⟩
end
def clsAt (G : Ads) (j : Nat) : Addr := [G.NoPlace, G.NoSite, G.NoExit, G.NoMarble, G.TooMany, G.NotOpen, G.NotBare, G.NotTree, G.TooLong, G.NoBoard].getD j 0
def marks (j : Nat) : List Bool := (List.range 11).map fun k => decide (k = j) || decide (k = 10)

/-! Parts of a text, line by line -/
section
/-- the first k of them, noughts behind -/
def upTo (k : Nat) (xs : List Int) : List Int := (List.range xs.length).map fun i => if i < k then xs.getD i 0 else 0
theorem upTo_len (k : Nat) (xs : List Int) : (upTo k xs).length = xs.length := by simp [upTo]
theorem upTo_get {k i : Nat} {xs : List Int} (h : i < xs.length) : (upTo k xs).getD i 0 = if i < k then xs.getD i 0 else 0 := by
  unfold upTo
  rw [List.getD_eq_getElem?_getD, List.getElem?_map, List.getElem?_range h]
  rfl
theorem ints_same {a b : List Int} (hl : a.length = b.length) (h : ∀ i, i < a.length → a.getD i 0 = b.getD i 0) : a = b := by
  apply List.ext_getElem hl
  intro k h1 h2
  have q := h k h1
  rw [List.getD_eq_getElem?_getD, List.getD_eq_getElem?_getD, List.getElem?_eq_getElem h1, List.getElem?_eq_getElem h2] at q
  exact q
theorem upTo_zero (xs : List Int) : upTo 0 xs = List.replicate xs.length 0 := by
  refine ints_same (by simp [upTo]) fun i hi => ?_
  rw [upTo_len] at hi
  rw [upTo_get hi, if_neg (by omega), List.getD_eq_getElem?_getD, List.getElem?_replicate, if_pos hi]
  rfl
theorem upTo_all (xs : List Int) : upTo xs.length xs = xs := by
  refine ints_same (by simp [upTo]) fun i hi => ?_
  rw [upTo_len] at hi
  rw [upTo_get hi, if_pos hi]
theorem upTo_set {k : Nat} {xs : List Int} (h : k < xs.length) : (upTo k xs).set k (xs.getD k 0) = upTo (k + 1) xs := by
  refine ints_same (by simp [upTo]) fun i hi => ?_
  rw [List.length_set, upTo_len] at hi
  rw [getD_set (by rw [upTo_len]; exact h), upTo_get hi, upTo_get hi]
  by_cases e : k = i
  · subst e
    rw [if_pos rfl, if_pos (by omega)]
  · rw [if_neg e]
    by_cases e2 : i < k
    · rw [if_pos e2, if_pos (by omega)]
    · rw [if_neg e2, if_neg (by omega)]
theorem upTo_sum {xs : List Int} (h : ∀ x, x ∈ xs → 0 ≤ x) : ∀ k, k < xs.length → (upTo k xs).sum + xs.getD k 0 ≤ xs.sum := by
  have nn : ∀ l : List Int, (∀ x, x ∈ l → 0 ≤ x) → 0 ≤ l.sum := by
    intro l
    induction l with
    | nil => intro _; exact Int.le_refl 0
    | cons x l ih =>
      intro h
      rw [List.sum_cons]
      have := h x (by simp)
      have := ih fun y hy => h y (by simp [hy])
      omega
  have gen : ∀ k, k ≤ xs.length → (upTo k xs).sum = (xs.take k).sum := by
    intro k
    induction k with
    | zero =>
      intro _
      rw [upTo_zero]
      simp
    | succ k ih =>
      intro hk
      rw [← upTo_set (by omega), sum_setD (by rw [upTo_len]; omega), upTo_get (by omega), if_neg (by omega), ih (by omega), take_getD (d := (0 : Int)) (by omega), List.sum_append]
      simp
  intro k hk
  have e := congrArg List.sum (List.take_append_drop (k + 1) xs)
  rw [List.sum_append, take_getD (d := (0 : Int)) hk, List.sum_append] at e
  have := nn (xs.drop (k + 1)) fun x hx => h x (List.mem_of_mem_drop hx)
  rw [gen k (by omega)]
  simp at e ⊢
  omega
/-- what the lines tell: tuples of two lists -/
structure Parts (rows : List (List Int)) (C : Sta) (H0 H : Hp) (ds ps qs : List Addr) : Prop where
  lp : ps.length = ds.length
  lq : qs.length = ds.length
  at_ : ∀ (i : Nat) (d p q : Addr), ds[i]? = some d → ps[i]? = some p → qs[i]? = some q → H d = some (.tup [.ref p, .ref q]) ∧ H p = some (ilst [C.turns.getD i 0, C.loads.getD i 0, C.steps.getD i 0]) ∧ H q = some (ilst (rows.getD i []))
theorem Parts.get {rows : List (List Int)} {C : Sta} {H0 H : Hp} {ds ps qs : List Addr} (P : Parts rows C H0 H ds ps qs) {i : Nat} (hi : i < ds.length) : ∃ d p q, ds[i]? = some d ∧ H d = some (.tup [.ref p, .ref q]) ∧ H p = some (ilst [C.turns.getD i 0, C.loads.getD i 0, C.steps.getD i 0]) ∧ qs[i]? = some q ∧ H q = some (ilst (rows.getD i [])) := by
  have h1 := P.lp
  have h2 := P.lq
  obtain ⟨a, b, c⟩ := P.at_ i _ _ _ (List.getElem?_eq_getElem hi) (List.getElem?_eq_getElem (show i < ps.length by omega)) (List.getElem?_eq_getElem (show i < qs.length by omega))
  exact ⟨_, _, _, List.getElem?_eq_getElem hi, a, b, List.getElem?_eq_getElem (show i < qs.length by omega), c⟩
theorem Parts.mono {rows : List (List Int)} {C : Sta} {H0 H H' : Hp} {ds ps qs : List Addr} (P : Parts rows C H0 H ds ps qs) (s : Same H H') : Parts rows C H0 H' ds ps qs :=
  ⟨P.lp, P.lq, fun i d p q h1 h2 h3 => by
    obtain ⟨a, b, c⟩ := P.at_ i d p q h1 h2 h3
    exact ⟨s _ _ a, s _ _ b, s _ _ c⟩⟩
end

/-! HotA: walks that end while an error is handled, at most one other behind it -/
section
open PySem PySem.Spec PyProof.Rows HotX
/-- what stands behind an error of fields v1: nothing, or one error with nothing behind -/
def Behind (v1 : Array Value) (get : Addr → Option Obj) (x1 : Addr) : Prop :=
  v1[2]? = some .none ∨ ∃ (x0 : Addr) (o0 : Obj) (v0 : Array Value), v1[2]? = some (.ref x0) ∧ get x0 = some o0 ∧ o0.data = .fields v0 ∧ v0[2]? = some .none ∧ x0 ≠ x1
def HotD (A : Around) (h : Heap) : Prop := ∃ (x1 : Addr) (o1 : Obj) (v1 : Array Value), A.handled = some (.ref x1) ∧ h.get? x1 = some o1 ∧ o1.data = .fields v1 ∧ Behind v1 h.get? x1
theorem HotD.but {A : Around} {h h' : Heap} {it : Addr} {oi : Obj} {vi : Array Value} (hot : HotD A h) (gi : h.get? it = some oi) (di : oi.data = .fields vi) (no : vi[2]? = none) (k : ∀ b o, b ≠ it → h.get? b = some o → h'.get? b = some o) : HotD A h' := by
  have apart : ∀ {x : Addr} {o : Obj} {v : Array Value} {c : Value}, h.get? x = some o → o.data = .fields v → v[2]? = some c → x ≠ it := by
    rintro x o v c g d e rfl
    rw [gi] at g
    cases g
    rw [di] at d
    cases d
    rw [no] at e
    cases e
  obtain ⟨x1, o1, v1, hh, g1, d1, b⟩ := hot
  rcases b with b | ⟨x0, o0, v0, c1, g0, d0, c0, ne⟩
  · exact ⟨x1, o1, v1, hh, k _ _ (apart g1 d1 b) g1, d1, .inl b⟩
  · exact ⟨x1, o1, v1, hh, k _ _ (apart g1 d1 c1) g1, d1, .inr ⟨x0, o0, v0, c1, k _ _ (apart g0 d0 c0) g0, d0, c0, ne⟩⟩
theorem HotD.keep {A : Around} {h h' : Heap} (hot : HotD A h) (k : ∀ b o, h.get? b = some o → h'.get? b = some o) : HotD A h' := by
  obtain ⟨x1, o1, v1, hh, g1, d1, b⟩ := hot
  rcases b with b | ⟨x0, o0, v0, c1, g0, d0, c0, ne⟩
  · exact ⟨x1, o1, v1, hh, k _ _ g1, d1, .inl b⟩
  · exact ⟨x1, o1, v1, hh, k _ _ g1, d1, .inr ⟨x0, o0, v0, c1, k _ _ g0, d0, c0, ne⟩⟩
section
variable {prog : Program} {w : World} {A : Around} {E : Value → Shared → Prop} {s : Shared}
theorem unchain_two {x1 x0 a : Addr} {o1 o0 : Obj} {v1 v0 : Array Value} {Q : Value → Shared → Prop} (g1 : s.heap.get? x1 = some o1) (d1 : o1.data = .fields v1) (c1 : v1[2]? = some (.ref x0)) (g0 : s.heap.get? x0 = some o0) (d0 : o0.data = .fields v0) (c0 : v0[2]? = some .none)
    (na : x0 ≠ a) (ne : x0 ≠ x1) (q : Q .none s) : wpAny (model prog w) A (holding [Value.ref a] (runValue (.builtin "proto.unchain" ⟨[.ref a, .ref x1, .ref x1, .bool false], []⟩))) Q E s := by
  refine wpAny_holding (wpAny_runValue (codeAny_builtin entry_unchain ?_))
  show wpAny _ _ (field (.ref x1) 2 >>= _) _ _ s
  refine wpAny_bind (wpAny_field g1 d1 c1 ?_)
  rw [if_neg (show ¬ ((Value.ref x0 == Value.none) = true) from by simp)]
  rw [if_neg (show ¬ ((Value.ref x0 == Value.ref a) = true) from by simp [na])]
  rw [if_neg (show ¬ ((Value.ref x0 == Value.ref x1) = true) from by simp [ne])]
  refine wpAny_bind (wpAny_pure (wpAny_pure ⟨Code.quiet_builtin _ (by decide +kernel), codeAny_builtin entry_unchain ?_⟩))
  show wpAny _ _ (field (.ref x0) 2 >>= _) _ _ s
  refine wpAny_bind (wpAny_field g0 d0 c0 ?_)
  rw [if_pos (show (Value.none == Value.none) = true from rfl)]
  first
  | exact wpAny_bind (wpAny_pure (wpAny_pure q))
  | exact wpAny_pure q
theorem raise_hotD {α : Type} {a : Addr} {h0 : Heap} {oe : Obj} {vs : Array Value} {Q : α → Shared → Prop} (hot : HotD A h0) (k : ∀ b o, h0.get? b = some o → s.heap.get? b = some o) (na : h0.get? a = none) (ga : s.heap.get? a = some oe) (da : oe.data = .fields vs) (hi : 2 < vs.size)
    (hE : ∀ x1, A.handled = some (.ref x1) → E (.ref a) { s with heap := s.heap.update a (Obj.mapFields (·.setIfInBounds 2 (.ref x1))) }) : wpAny (model prog w) A (raiseNew (.ref a) : Sem α) Q E s := by
  obtain ⟨x1, o1, v1, hh, g1, d1, b⟩ := hot
  have apart : ∀ {x : Addr} {o : Obj}, h0.get? x = some o → x ≠ a := by
    rintro x o g rfl
    rw [na] at g
    cases g
  rcases b with b | ⟨x0, o0, v0, c1, g0, d0, c0, ne⟩
  · exact raiseNew_hot ⟨hh, o1, v1, k _ _ g1, d1, b⟩ (apart g1) ga da hi (hE x1 hh)
  · have un : ∀ {Q' : Value → Shared → Prop} {E' : Value → Shared → Prop}, Q' .none s → wpAny (model prog w) A (holding [Value.ref a] (runValue (.builtin "proto.unchain" ⟨[.ref a, .ref x1, .ref x1, .bool false], []⟩))) Q' E' s := fun q => unchain_two (k _ _ g1) d1 c1 (k _ _ g0) d0 c0 (apart g0) ne q
    have hb : (Value.ref x1 != Value.ref a) = true := ref_bne (apart g1)
    unfold raiseNew
    refine wpAny_bind (wpAny_handled ?_)
    rw [hh]
    first
    | (show wpAny _ _ (if (Value.ref x1 != Value.ref a) = true then _ else _) _ _ _
       rw [if_pos hb]
       first
       | exact wpAny_bind (un (wpAny_bind (chained ga da hi (wpAny_throw (hE x1 hh)))))
       | exact wpAny_bind (wpAny_bind (un (chained ga da hi (wpAny_throw (hE x1 hh))))))
    | (refine wpAny_bind ?_
       show wpAny _ _ (if (Value.ref x1 != Value.ref a) = true then _ else _) _ _ _
       rw [if_pos hb]
       exact wpAny_bind (un (chained ga da hi (wpAny_throw (hE x1 hh)))))
/-- StopIteration is made and raised; h0: the heap ahead -/
theorem stop_hotD {α : Type} {h0 : Heap} {Q : α → Shared → Prop} (hot : HotD A h0) (k : ∀ b o, h0.get? b = some o → s.heap.get? b = some o)
    (hE : ∀ (e : Addr) (h' : Heap), (∀ b o, s.heap.get? b = some o → h'.get? b = some o) → (∃ o, h'.get? e = some o ∧ o.cls = .type "StopIteration") → E (.ref e) { s with heap := h' }) :
    wpAny (model prog w) A (newExc (.type "StopIteration") [] >>= fun e => (raiseNew e : Sem α)) Q E s := by
  refine wpAny_bind ?_
  simp only [newExc, newTuple]
  refine wpAny_bind (wpAny_newObj_type ?_ (by size_fits))
  refine wpAny_bind (m := firstArgMember _ _) (wpAny_of_eq (a := Value.none) (by first | rfl | (simp only [firstArgMember]; rfl)) ?_)
  refine wpAny_newObj_type ?_ (by size_fits)
  refine raise_hotD (h0 := h0) hot (fun b o e => Heap.get?_push_of_some _ (Heap.get?_push_of_some _ (k b o e))) ?_ (Heap.get?_push_size _ rfl) rfl (by first | (simp; done) | (simp; omega) | (simp only [Array.size_append]; simp; omega)) fun x1 _ => ?_
  · cases e : h0.get? (s.heap.push { cls := .type "tuple", data := .seq ([] : List Value).toArray }).objs.size with
    | none => rfl
    | some o => exact absurd (Heap.lt_size (Heap.get?_push_of_some _ (k _ _ e))) (Nat.lt_irrefl _)
  refine hE _ _ (fun b o e => ?_) ⟨_, Heap.get?_update_self _ (Heap.get?_push_size _ rfl) rfl, rfl⟩
  rw [Heap.get?_update_other _ _ (Nat.ne_of_gt (Heap.lt_size (Heap.get?_push_of_some _ e)))]
  exact Heap.get?_push_of_some _ (Heap.get?_push_of_some _ e)
theorem update_but {h : Heap} {it b : Addr} {o : Obj} {f : Obj → Obj} (nb : b ≠ it) (e : h.get? b = some o) : (h.update it f).get? b = some o := (Heap.get?_update_other _ _ (Ne.symm nb)).trans e
theorem told_stop {e : Addr} {Q : Option Value → Shared → Prop} (ho : ∃ o, s.heap.get? e = some o ∧ o.cls = .type "StopIteration") (q : Q none s) :
    wpAny (model prog w) A (do if ← isInstance (.ref e) (.type "StopIteration") then pure none else throw (.ref e) : Sem (Option Value)) Q E s :=
  wpAny_bind (wpAny_isInstance (T := "StopIteration") (b := true) ho isSubtype_stop (wpAny_pure q))
theorem listEnd_hot {it l : Addr} {i : Nat} {items : Array Value} {Q : Option Value → Shared → Prop} (hot : HotD A s.heap) (hit : s.heap.IsListIter it l i) (hl : s.heap.IsList l items) (hx : items[i]? = none)
    (hQ : ∀ h', (∀ b o, b ≠ it → s.heap.get? b = some o → h'.get? b = some o) → Q none { s with heap := h' }) : wpAny (model prog w) A (pyNext (.ref it)) Q E s := by
  obtain ⟨oi, gi, ci, di⟩ := id hit
  obtain ⟨ol, gl, _, nl, dl⟩ := hl
  unfold pyNext
  refine wpAny_bind (wpAny_attempt (wpAny_callSpecial?_slot (name := Str.ofString "__next__") hit.typeIs slot_listiter_next
    (wpAny_call_entry slot_listiter_next hit.typeIs entry_listiter_next ?_ (args_listiter_next _))))
  show wpAny _ _ (field (.ref it) 0 >>= _) _ _ s
  refine wpAny_bind (wpAny_field gi di (x := .ref l) rfl ?_)
  show wpAny _ _ (if (Value.ref l == Value.none) = true then _ else _) _ _ s
  rw [if_neg (show ¬ ((Value.ref l == Value.none) = true) from Bool.false_ne_true)]
  show wpAny _ _ (field (.ref it) 1 >>= _) _ _ s
  refine wpAny_bind (wpAny_field gi di (x := .int i 0) rfl ?_)
  show wpAny _ _ (seqItems? (.ref l) >>= _) _ _ s
  refine wpAny_bind (wpAny_seqItems gl dl ?_)
  simp only [Int.toNat_natCast, hx]
  refine wpAny_bind (wpAny_rule (wpAny_bind (wpAny_setField gi di (by simp) ?_)))
  exact stop_hotD (hot.but (h' := s.heap.update it _) gi di rfl fun b o nb e => update_but nb e) (fun _ _ e => e) fun e h' k ho => told_stop ho (hQ _ fun b o nb e => k _ _ (update_but nb e))
theorem asciiEnd_hot {it : Addr} {x : Str} {t : Tok} {i : Nat} {Q : Option Value → Shared → Prop} (hot : HotD A s.heap) (hit : s.heap.IsStrIter it "str_ascii_iterator" x t i) (hx : x.cps[i]? = none)
    (hQ : ∀ h', (∀ b o, b ≠ it → s.heap.get? b = some o → h'.get? b = some o) → Q none { s with heap := h' }) : wpAny (model prog w) A (pyNext (.ref it)) Q E s := by
  obtain ⟨oi, gi, ci, di⟩ := id hit
  unfold pyNext
  refine wpAny_bind (wpAny_attempt (wpAny_callSpecial?_slot (name := Str.ofString "__next__") hit.typeIs F.slot_str_ascii_iterator_next
    (wpAny_call_entry F.slot_str_ascii_iterator_next hit.typeIs F.entry_str_ascii_iterator_next ?_ (F.args_str_ascii_iterator_next_1 _))))
  show wpAny _ _ (field (.ref it) 0 >>= _) _ _ s
  refine wpAny_bind (wpAny_field gi di (x := .str x t) rfl ?_)
  show wpAny _ _ (field (.ref it) 1 >>= _) _ _ s
  refine wpAny_bind (wpAny_field gi di (x := .int i 0) rfl ?_)
  simp only [Int.toNat_natCast, hx]
  refine wpAny_bind (wpAny_rule (wpAny_bind (wpAny_setField gi di (by simp) (wpAny_bind (wpAny_letGo ?_)))))
  exact stop_hotD (hot.but (h' := s.heap.update it _) gi di rfl fun b o nb e => update_but nb e) (fun _ _ e => e) fun e h' k ho => told_stop ho (hQ _ fun b o nb e => k _ _ (update_but nb e))
theorem wideEnd_hot {it : Addr} {x : Str} {t : Tok} {i : Nat} {Q : Option Value → Shared → Prop} (hot : HotD A s.heap) (hit : s.heap.IsStrIter it "str_iterator" x t i) (hx : x.cps[i]? = none)
    (hQ : ∀ h', (∀ b o, b ≠ it → s.heap.get? b = some o → h'.get? b = some o) → Q none { s with heap := h' }) : wpAny (model prog w) A (pyNext (.ref it)) Q E s := by
  obtain ⟨oi, gi, ci, di⟩ := id hit
  unfold pyNext
  refine wpAny_bind (wpAny_attempt (wpAny_callSpecial?_slot (name := Str.ofString "__next__") hit.typeIs F.slot_str_iterator_next
    (wpAny_call_entry F.slot_str_iterator_next hit.typeIs F.entry_str_iterator_next ?_ (F.args_str_iterator_next_1 _))))
  show wpAny _ _ (field (.ref it) 0 >>= _) _ _ s
  refine wpAny_bind (wpAny_field gi di (x := .str x t) rfl ?_)
  show wpAny _ _ (field (.ref it) 1 >>= _) _ _ s
  refine wpAny_bind (wpAny_field gi di (x := .int i 0) rfl ?_)
  simp only [Int.toNat_natCast, hx]
  refine wpAny_bind (wpAny_rule (wpAny_bind (wpAny_setField gi di (by simp) (wpAny_bind (wpAny_letGo ?_)))))
  exact stop_hotD (hot.but (h' := s.heap.update it _) gi di rfl fun b o nb e => update_but nb e) (fun _ _ e => e) fun e h' k ho => told_stop ho (hQ _ fun b o nb e => k _ _ (update_but nb e))
end
end

/-! HotB: for and comprehensions while an error is handled -/
section
open PySem PySem.Spec PyProof.Rows HotX
/-- the context bears the handled error and what stands behind it -/
def HotB (X : Cx) : Prop := ∃ (x1 : Addr) (o1 : Obj) (v1 : Array Value), X.A.handled = some (.ref x1) ∧ (x1, o1) ∈ X.pn ∧ o1.data = .fields v1 ∧
  (v1[2]? = some .none ∨ ∃ (x0 : Addr) (o0 : Obj) (v0 : Array Value), v1[2]? = some (.ref x0) ∧ (x0, o0) ∈ X.pn ∧ o0.data = .fields v0 ∧ v0[2]? = some .none ∧ x0 ≠ x1)
theorem HotB.heap {X : Cx} {pins : List (Addr × Obj)} {σ : L2.St} {H : Hp} {s : Shared} (c : HotB X) (I : Inv X pins σ H s) : HotD X.A s.heap := by
  obtain ⟨x1, o1, v1, hh, m1, d1, r⟩ := c
  have at_ : ∀ {x : Addr} {o : Obj}, (x, o) ∈ X.pn → s.heap.get? x = some o := fun m => (I.pin _ (List.mem_append_left _ m)).1
  refine ⟨x1, o1, v1, hh, at_ m1, d1, ?_⟩
  rcases r with z | ⟨x0, o0, v0, c1, m0, d0, c0, ne⟩
  · exact .inl z
  · exact .inr ⟨x0, o0, v0, c1, at_ m0, d0, c0, ne⟩
/-- an iterator's turns there -/
structure TurnB (P : Program) (w : World) (K : PySem.W.Frag) (tg : Expr) (J : It) (it : Addr) (tn : Nat → Heap → Prop) : Prop where
  here : ∀ i h, tn i h → ∃ o, h.get? it = some o ∧ ∀ v, o.data ≠ .cell v
  keep : ∀ i h h', tn i h → (∀ o, h.get? it = some o → h'.get? it = some o) → tn i h'
  more : ∀ (X : Cx) (pins : List (Addr × Obj)) (i : Nat) (s : Shared) (σ : L2.St) (H : Hp) (E : Value → Shared → Prop), X.prog = P → X.w = w → X.K = K → HotB X → Inv X pins σ H s → FpOk X pins H it → tn i s.heap → J.go i H →
    wpAny (model P w) X.A (pyNext (.ref it)) (fun r s1 => ∃ u, r = some u ∧ wpAny (model P w) X.A (letOwnedTupleGo tg (.ref it) u) (fun _ s2 => ∃ x H', Inv X pins σ H' s2 ∧ RelV x u ∧ J.yld i H x H' ∧ tn (i + 1) s2.heap ∧ H' it = none) E s1) E s
  last : ∀ (X : Cx) (pins : List (Addr × Obj)) (i : Nat) (s : Shared) (σ : L2.St) (H : Hp) (E : Value → Shared → Prop), X.prog = P → X.w = w → X.K = K → HotB X → Inv X pins σ H s → FpOk X pins H it → tn i s.heap → J.stop i H →
    wpAny (model P w) X.A (pyNext (.ref it)) (fun r s1 => r = none ∧ Inv X pins σ H s1) E s
  same : ∀ (A : Around) (i : Nat) (s : Shared) (Q E : Value → Shared → Prop), tn i s.heap → Q (.ref it) s → wpAny (model P w) A (pyIter (.ref it)) Q E s
theorem fpTurn {X : Cx} {pins : List (Addr × Obj)} {σ : L2.St} {H : Hp} {s : Shared} {it : Addr} {h' : Heap} {t' : Nat} (f : FpOk X pins H it) (I : Inv X pins σ H s) (k : ∀ b o, b ≠ it → s.heap.get? b = some o → h'.get? b = some o) : Inv X pins σ H { s with heap := h', toks := t' } :=
  Inv.turned (it := it) (t' := t') I (fun b o nb e => k b o nb e) f.1 f.2.1 f.2.2.2.1 f.2.2.2.2.1 f.2.2.2.2.2
theorem turnB_list {P : Program} {w : World} {K : PySem.W.Frag} {tg : Expr} (a it : Addr) : TurnB P w K tg (Itl K a) it (fun i h => h.IsListIter it a i) where
  here := fun i h st => by
    obtain ⟨o, e, _, d⟩ := st
    exact ⟨o, e, fun v z => by rw [d] at z; cases z⟩
  keep := fun i h h' st k => st.at k
  more := fun X pins i s σ H E hP hw hK _ I f st go => by
    subst hP hw hK
    obtain ⟨xs, x, hq, hx⟩ := go
    obtain ⟨its, rv, pl, _⟩ := I.list hq
    obtain ⟨u, hu, ru⟩ := rv.get hx
    refine wpAny_pyNext_list_item st pl.isList (x := u) (by simpa using hu) fun h' st' sb => ?_
    obtain ⟨o, e, c, d⟩ := id st'
    have I1 : Inv X pins σ H { s with heap := h' } := fpTurn (t' := s.toks) f I fun b o nb z => (sb.2 b nb).trans z
    exact ⟨u, rfl, go_of (s := { s with heap := h' }) e c d (by decide) ⟨x, H, I1, ru, ⟨rfl, fun ys hy => I.list_inj hy hq ▸ hx⟩, st', f.1⟩⟩
  last := fun X pins i s σ H E hP hw hK hb I f st stop => by
    subst hP hw hK
    obtain ⟨xs, hq, hx⟩ := stop
    obtain ⟨its, rv, pl, _⟩ := I.list hq
    have hl := rv.length
    exact listEnd_hot (hb.heap I) st pl.isList (by simp; omega) fun h' k => ⟨rfl, fpTurn (t' := s.toks) f I k⟩
  same := fun _ _ _ _ _ st q => wpAny_pyIter_listiter st q
theorem turnB_str {P : Program} {w : World} {K : PySem.W.Frag} {tg : Expr} (it : Addr) (x : Str) (t : Tok) (wide : Bool) : TurnB P w K tg (Its x) it (fun i h => h.IsStrIter it (if wide then "str_iterator" else "str_ascii_iterator") x t i) where
  here := fun i h st => by
    obtain ⟨o, e, _, d⟩ := st
    exact ⟨o, e, fun v z => by rw [d] at z; cases z⟩
  keep := fun i h h' st k => by
    obtain ⟨o, e, r⟩ := st
    exact ⟨o, k o e, r⟩
  more := fun X pins i s σ H E hP hw hK _ I f st go => by
    subst hP hw hK
    have hc : x.cps[i]? = some x.cps[i] := Array.getElem?_eq_getElem go
    have fin : ∀ (h' : Heap), h'.IsStrIter it (if wide then "str_iterator" else "str_ascii_iterator") x t (i + 1) → Heap.SameBut it s.heap h' →
        ∃ u, some (Value.str ⟨#[x.cps[i]]⟩ s.toks) = some u ∧ wpAny (model X.prog X.w) X.A (letOwnedTupleGo tg (.ref it) u) (fun _ s2 => ∃ x' H', Inv X pins σ H' s2 ∧ RelV x' u ∧ (Its x).yld i H x' H' ∧ s2.heap.IsStrIter it (if wide then "str_iterator" else "str_ascii_iterator") x t (i + 1) ∧ H' it = none) E { s with heap := h', toks := s.toks + 1 } := fun h' st' sb => by
      obtain ⟨o, e, c, d⟩ := id st'
      have I1 : Inv X pins σ H { s with heap := h', toks := s.toks + 1 } := fpTurn f I fun b o nb z => (sb.2 b nb).trans z
      exact ⟨_, rfl, go_of (s := { s with heap := h', toks := s.toks + 1 }) e c d (by cases wide <;> decide) ⟨.str ⟨#[x.cps[i]]⟩, H, I1, ⟨_, rfl⟩, ⟨rfl, _, hc, rfl⟩, st', f.1⟩⟩
    cases wide with
    | false => exact wpAny_pyNext_ascii_item st hc fun h' st' sb => fin h' st' sb
    | true => exact wpAny_pyNext_wide_item st hc fun h' st' sb => fin h' st' sb
  last := fun X pins i s σ H E hP hw hK hb I f st stop => by
    subst hP hw hK
    have hx : x.cps[i]? = none := Array.getElem?_eq_none stop
    cases wide with
    | false => exact asciiEnd_hot (hb.heap I) st hx fun h' k => ⟨rfl, fpTurn (t' := s.toks) f I k⟩
    | true => exact wideEnd_hot (hb.heap I) st hx fun h' k => ⟨rfl, fpTurn (t' := s.toks) f I k⟩
  same := fun A i s Q E st q => by
    cases wide with
    | false => exact wpAny_pyIter_striter_ascii st q
    | true => exact wpAny_pyIter_striter_wide st q
/-- an iterator has come -/
def CameB (X : Cx) (pins : List (Addr × Obj)) (σ : L2.St) (tg : Expr) (R : It → Hp → Prop) (v : Value) (s2 : Shared) : Prop :=
  ∃ (it : Addr) (tn : Nat → Heap → Prop) (J : It) (H' : Hp), v = .ref it ∧ Inv X pins σ H' s2 ∧ TurnB X.prog X.w X.K tg J it tn ∧ tn 0 s2.heap ∧ FpOk X pins H' it ∧ R J H'
structure PIB (X : Cx) (tg iter : Expr) (wi : TI) : Prop where
  run : ∀ (pins : List (Addr × Obj)) (s : Shared) (σ : L2.St) (H : Hp) (R : It → Hp → Prop), Inv X pins σ H s → wi σ H R →
    wpAny (model X.prog X.w) X.A (eval iter X.env) (fun v s1 => wpAny (model X.prog X.w) X.A (pyIter v) (CameB X pins σ tg R) X.xe s1) X.xe s
theorem pib_list {X : Cx} {tg l : Expr} {tl : TE} (hl : PE X l tl) : PIB X tg l (iList X.K tl) :=
  ⟨fun pins s σ H R I h => thn (hl.run pins s σ H _ I h) fun v s1 ⟨x, H1, I1, r1, a, e, ⟨xs, hq⟩, q⟩ => by
    subst e
    cases r1
    obtain ⟨its, rv, pl, _⟩ := I1.list hq
    refine wpAny_pyIter_list pl.isList ⟨s1.heap.objs.size, _, _, H1, rfl, I1.kept (t' := s1.toks) fun b o e => Heap.get?_push_of_some _ e, turnB_list a _, ⟨_, Heap.get?_push_size _ rfl, rfl, rfl⟩, I1.fpOk (Nat.le_refl _) (I1.hok.fresh (Nat.le_refl _)), q⟩⟩
theorem pib_str {X : Cx} {tg e : Expr} {te : TE} (he : PE X e te) : PIB X tg e (iStr te) :=
  ⟨fun pins s σ H R I h => thn (he.run pins s σ H _ I h) fun v s1 ⟨y, H1, I1, r1, x, ex, q⟩ => by
    subst ex
    obtain ⟨t, rfl⟩ := r1
    have f := I1.fpOk (b := s1.heap.objs.size) (Nat.le_refl _) (I1.hok.fresh (Nat.le_refl _))
    have kept : ∀ o, Inv X pins σ H1 { s1 with heap := s1.heap.push o } := fun o => I1.kept (t' := s1.toks) fun b o e => Heap.get?_push_of_some _ e
    cases ha : x.cps.all (· < 128)
    · exact wpAny_pyIter_wide ha ⟨s1.heap.objs.size, _, _, H1, rfl, kept _, turnB_str _ x t true, ⟨_, Heap.get?_push_size _ rfl, rfl, rfl⟩, f, q⟩
    · exact wpAny_pyIter_ascii ha ⟨s1.heap.objs.size, _, _, H1, rfl, kept _, turnB_str _ x t false, ⟨_, Heap.get?_push_size _ rfl, rfl, rfl⟩, f, q⟩⟩
theorem ps_forB {X : Cx} {tg iter : Expr} {body : List Stmt} {wi : TI} {g : TG} {tb : TS} {pos : Pos} (hp : PassesOwn (model X.prog X.w) X.A X.env X.xe) (hc : HotB X) (hi : PIB X tg iter wi) (hg : PG X tg g) (hb : PSs X body tb)
    (hs : ∀ x, foldedSetIterable iter X.env x = pure x := by intro _; rfl) : PS X (.For tg iter body [] pos) (tFor wi g tb) :=
  ⟨fun pins s σ H D I h => by
    refine wpAny_For (thn (hi.run pins s σ H _ I h) fun v s1 h1 => thn h1 fun itv s2 ⟨it, tn, J, H2, e, I2, T, st2, f2, W, ⟨m0, w0⟩, turn⟩ => ?_) hs
    subst e
    have ok : ∀ {K : Hp}, K it = none → FpOk X pins K it := fun n => ⟨n, f2.2⟩
    refine codeAny_forLoop_any (fun n z => ∃ i τ K, Inv X pins τ K z ∧ tn i z.heap ∧ K it = none ∧ W i n τ K) ?_ m0 ⟨0, σ, H2, I2, st2, f2.1, w0⟩
    rintro n z3 ⟨i, τ, K3, I3, st3, n3, w3⟩
    rcases turn i n τ K3 w3 with ⟨stop, qn⟩ | ⟨go, N, hN, step⟩
    · refine wpAny_passesOwn hp (thn (T.last X pins i z3 τ K3 X.xe rfl rfl rfl hc I3 (ok n3) st3 stop) fun r z4 ⟨hr, I4⟩ => ?_)
      subst hr
      exact wpAny_execs_nil ⟨τ, K3, I4, qn⟩
    · refine wpAny_passesOwn hp (thn (T.more X pins i z3 τ K3 X.xe rfl rfl rfl hc I3 (ok n3) st3 go) fun r z4 ⟨u, hr, h4⟩ => ?_)
      subst hr
      refine wpAny_passesOwn hp (thn h4 fun _ z5 ⟨x, K5, I5, r5, y5, st5, n5⟩ => ?_)
      have P5 := I5.pinned (fp := [it]) (fun b hb => by rw [List.mem_singleton.mp hb]; exact ok n5) (fun b hb => by rw [List.mem_singleton.mp hb]; exact T.here _ _ st5)
      refine wpAny_passesOwn hp (thn (hg.run _ z5 τ K5 x u _ P5 r5 (step x K5 y5)) fun _ z6 ⟨τ6, K6, I6, q6⟩ => ?_)
      refine wpAny_passesOwn hp (thn (hb.run _ z6 τ6 K6 _ I6 q6) fun f z7 q7 => ?_)
      have next : ∀ {τ7 : L2.St} {K7 : Hp}, Inv X (pins ++ pinsAt [it] z5.heap) τ7 K7 z7 → N τ7 K7 → ∃ m, m < n ∧ ∃ i τ K, Inv X pins τ K z7 ∧ tn i z7.heap ∧ K it = none ∧ W i m τ K := fun {τ7 K7} I7 n7 => by
        obtain ⟨m, lt, w7⟩ := hN τ7 K7 n7
        obtain ⟨o, e, _⟩ := T.here _ _ st5
        have pin := I7.pin (it, o) (List.mem_append_right _ (List.mem_append_right _ (mem_pinsAt (List.mem_singleton.mpr rfl) e)))
        refine ⟨m, lt, i + 1, τ7, K7, I7.unpinned, T.keep _ _ _ st5 fun o' e' => ?_, pin.2.1, w7⟩
        rw [e] at e'
        cases e'
        exact pin.1
      match f, q7 with
      | .next, ⟨_, _, I7, n7⟩ => exact next I7 n7
      | .cont, ⟨_, _, I7, n7⟩ => exact next I7 n7
      | .brk, ⟨τ7, K7, I7, n7⟩ => exact ⟨τ7, K7, I7.unpinned, n7⟩
      | .ret v, ⟨x7, τ7, K7, I7, r7, n7⟩ => exact ⟨x7, τ7, K7, I7.unpinned, r7, n7⟩⟩
/-- a comprehension's block there: the pins stand on -/
abbrev Cx.blkB (X : Cx) (t : Shared) (J : Hp) (scope : Scope) (ce : Env) (it : Addr) : Cx := (X.blk t J scope ce [it]).tr X.pn fun _ _ => False
theorem HotB.blk {X : Cx} (c : HotB X) (t : Shared) (J : Hp) (scope : Scope) (ce : Env) (it : Addr) : HotB (Cx.blkB X t J scope ce it) := c
theorem blkB_in {X : Cx} {t z : Shared} {J K : Hp} {scope : Scope} {ce : Env} {it : Addr} {τ : L2.St} (I : Inv (X.blk t J scope ce [it]) [] τ K z) (h : ∀ p ∈ X.pn, z.heap.get? p.1 = some p.2 ∧ K p.1 = none ∧ p.1 ≠ ce.locals ∧ p.1 ∉ (X.blk t J scope ce [it]).fs ∧ ∀ v, p.2.data ≠ .cell v) :
    Inv (Cx.blkB X t J scope ce it) [] τ K z := (I.pins_of (pins' := X.pn) h).toTry fun _ _ => False
theorem lc_coreB {X : Cx} {pins : List (Addr × Obj)} {z0 : Shared} {σ : L2.St} {J : Hp} {G : VK} {el tgt src : Expr} {tests : List Expr} {scope : Scope} {mine : List (Str × Nat)} {p1 p2 : Pos} {wi : TI} {tg : TG} {tt : TT} {te : TE} {use : Option (Value → Sem Unit)} {F : Value → Shared → Prop}
    (hot : HotB X) (hnd : X.N.Nodup) (I : Inv X pins σ J z0) (pi : PIB X tgt src wi) (ok : BlkOk X.N X.env.scope scope mine)
    (hg : ∀ (t : Shared) (K : Hp) (C : Addr) (cl : List (Str × Addr)) (it : Addr), PG (Cx.blkB X t K scope (compEnvC scope cl C X.env) it) tgt tg)
    (ht : ∀ (t : Shared) (K : Hp) (C : Addr) (cl : List (Str × Addr)) (it : Addr), PTs (Cx.blkB X t K scope (compEnvC scope cl C X.env) it) tests tt)
    (he : ∀ (t : Shared) (K : Hp) (C : Addr) (cl : List (Str × Addr)) (it : Addr), PE (Cx.blkB X t K scope (compEnvC scope cl C X.env) it) el te)
    (hset : ∀ x, foldedSetIterable src X.env x = pure x)
    (h : tLc wi tg tt te (mine.map (·.2)) σ J G)
    (back : ∀ D ce z m K, Inv X pins σ K z → G (.ref D) K → z.heap.Ns ce.locals m → FpOk X pins K ce.locals → compEnds (model X.prog X.w) X.A X.xe use F (.ref D) ce (.ok .next) z) :
    wpAny (model X.prog X.w) X.A (comprehension (.ListComp el [⟨tgt, src, tests, 0⟩] scope p1) scope X.env p2 (newList []) false (eval src X.env) use) F X.xe z0 := by
  have free : ∀ y ∈ scope.names, y.2 = .free → ∃ c, X.env.cells.lookup y.1 = some c := fun y hy e =>
    (ok.free y hy e).elim (fun k => I.ok.has _ (.inl k)) (fun k => I.ok.has _ (.inr k))
  refine comprehension_at (use := use) rfl hset (closure_ok free) ok.kind (fun y hy e => (ok.uniq y hy).trans (e ▸ rfl)) (thn (pi.run pins z0 σ J _ I h) fun _ _ w1 => thn w1 fun itv z2 w2 => ?_)
  obtain ⟨it, tn, T0, K2, rfl, I2, T, stood, at2, q⟩ := w2
  refine wpAny_newObj_type (newEnv_comp ?_) (Nat.zero_le _)
  generalize hD : z2.heap.objs.size = D
  have hDn : K2 D = none := I2.hok.fresh (Nat.le_of_eq hD)
  obtain ⟨W, ⟨k0, w0⟩, step⟩ := q D hDn
  generalize hz3 : ({ z2 with heap := z2.heap.push { cls := .type "list", data := .seq ([] : List Value).toArray } } : Shared) = z3
  have e3 : z3.heap = z2.heap.push { cls := .type "list", data := .seq ([] : List Value).toArray } := by
    subst hz3
    rfl
  have older : ∀ b o, z2.heap.get? b = some o → z3.heap.get? b = some o := fun b o e => by
    rw [e3]
    exact Heap.get?_push_of_some _ e
  have I3 : Inv X pins σ (upd K2 D (.lst [])) z3 := by
    subst hz3
    refine I2.laid (t' := z2.toks) (fun _ _ e => Heap.get?_push_of_some _ e) (Nat.le_of_eq hD) ⟨Nat.zero_le _, [], 0, .nil, ?_⟩
    subst hD
    exact Heap.get?_push_size _ rfl
  have low : it < z2.heap.objs.size := (T.here _ _ stood).elim fun _ e => Heap.lt_size e.1
  have at3 : FpOk X pins (upd K2 D (.lst [])) it := ⟨(upd_ne (hD ▸ Nat.ne_of_lt low)).trans at2.1, at2.2⟩
  have lt3 : it < z3.heap.objs.size := by
    rw [e3, Heap.size_push]
    exact Nat.lt_succ_of_lt low
  have stood3 : tn 0 z3.heap := T.keep _ _ _ stood fun o e => older it o e
  have I4 := block_start (fp := [it]) I3 ok hnd fun b hb => by
    rw [List.mem_singleton.mp hb]
    exact ⟨at3, lt3⟩
  have pinned4 : ∀ p ∈ X.pn, (pushCells (z3.heap.push { cls := .type "dict", data := .dict #[] }) scope.names).get? p.1 = some p.2 ∧ upd K2 D (.lst []) p.1 = none ∧ p.1 ≠ z3.heap.objs.size ∧ p.1 ∉ frs X.stack ∧ ∀ v, p.2.data ≠ .cell v := fun p hp => by
    obtain ⟨a, b, c, d, e⟩ := I3.pin p (List.mem_append_left _ hp)
    exact ⟨pushCells_keeps _ _ _ _ (Heap.get?_push_of_some _ a), b, Nat.ne_of_lt (Heap.lt_size a), fun m => (List.mem_cons.mp (I3.stkSub _ m)).elim c d, e⟩
  have I4 := blkB_in I4 pinned4
  have pg := hg z3 (upd K2 D (.lst [])) z3.heap.objs.size (cellsFrom (z3.heap.objs.size + 1) scope.names (cloFrom X.env.cells scope.names [])) it
  have pt := ht z3 (upd K2 D (.lst [])) z3.heap.objs.size (cellsFrom (z3.heap.objs.size + 1) scope.names (cloFrom X.env.cells scope.names [])) it
  have pe := he z3 (upd K2 D (.lst [])) z3.heap.objs.size (cellsFrom (z3.heap.objs.size + 1) scope.names (cloFrom X.env.cells scope.names [])) it
  have ceL : (compEnvC scope (cellsFrom (z3.heap.objs.size + 1) scope.names (cloFrom X.env.cells scope.names [])) z3.heap.objs.size X.env).locals = z3.heap.objs.size := rfl
  show codeAny _ _ (.compStart (.ListComp el [⟨tgt, src, tests, 0⟩] scope p1) 0 (.ref it) (.ref D) (compEnvC scope (cellsFrom (z3.heap.objs.size + 1) scope.names (cloFrom X.env.cells scope.names [])) z3.heap.objs.size X.env))
    (compEnds (model X.prog X.w) X.A X.xe use F (.ref D) (compEnvC scope (cellsFrom (z3.heap.objs.size + 1) scope.names (cloFrom X.env.cells scope.names [])) z3.heap.objs.size X.env)) { z3 with heap := pushCells (z3.heap.push { cls := .type "dict", data := .dict #[] }) scope.names }
  generalize hce : compEnvC scope (cellsFrom (z3.heap.objs.size + 1) scope.names (cloFrom X.env.cells scope.names [])) z3.heap.objs.size X.env = ce at I4 pg pt pe ceL ⊢
  have hb := hot.blk z3 (upd K2 D (.lst [])) scope ce it
  have none0 : upd K2 D (.lst []) it = none := at3.1
  generalize hK3 : upd K2 D (.lst []) = K3 at I3 I4 pg pt pe w0 none0 at3 hb
  generalize hz4 : ({ z3 with heap := pushCells (z3.heap.push { cls := .type "dict", data := .dict #[] }) scope.names } : Shared) = z4 at I4 ⊢
  have stood4 : tn 0 z4.heap := T.keep _ _ _ stood3 fun o e => by
    subst hz4
    exact pushCells_keeps _ _ _ _ (Heap.get?_push_of_some _ e)
  have quiet : ∀ {τ : L2.St} {K : Hp} {z : Shared}, Inv (Cx.blkB X z3 K3 scope ce it) [] τ K z → K it = none → FpOk (Cx.blkB X z3 K3 scope ce it) [] K it := fun {τ K z} I' hn =>
    ⟨hn, (I'.ok.exf it (List.mem_singleton.mpr rfl)).1, I'.ok.exfs it (List.mem_singleton.mpr rfl), .inl (List.mem_singleton.mpr rfl), fun x c e => (I'.ok.exf it (List.mem_singleton.mpr rfl)).2 x c e, fun p hp => at3.2.2.2.2.2 p (List.mem_append_left _ ((List.mem_append.mp hp).elim id fun z => nomatch z))⟩
  have loop : codeAny (model X.prog X.w) X.A (.compLoop (.ListComp el [⟨tgt, src, tests, 0⟩] scope p1) 0 (.ref it) (.ref D) ce) (compEnds (model X.prog X.w) X.A X.xe use F (.ref D) ce) z4 := by
    refine compLoop_any (R := compEnds (model X.prog X.w) X.A X.xe use F (.ref D) ce) (fun n z => ∃ i K, Inv (Cx.blkB X z3 K3 scope ce it) [] (wipe σ (mine.map (·.2))) K z ∧ tn i z.heap ∧ K it = none ∧ W i n K) ?_ k0 ⟨0, K3, I4, stood4, none0, w0⟩
    rintro n z5 ⟨i, K5, I5, stood5, none5, w5⟩
    rcases step i n K5 w5 with ⟨stop, gg⟩ | ⟨go, Nx, hNx, one⟩
    · refine thnF (T.last (Cx.blkB X z3 K3 scope ce it) [] i z5 _ K5 (fun _ _ => False) rfl rfl rfl hb I5 (quiet I5 none5) stood5 stop) fun r z6 ⟨hr, I6⟩ => ?_
      subst hr
      have I7 : Inv X pins σ K5 z6 := I3.call' (ch := [it]) I6.os I6.base I6.hok I6.bare fun b hb => by
        rw [List.mem_singleton.mp hb]
        exact ⟨at3.2.2.2.1, at3.2.1, at3.2.2.2.2.1, at3.2.2.2.2.2⟩
      have gone : K5 ce.locals = none := I6.free
      obtain ⟨m, ns, _⟩ := I6.loc
      exact back D ce z6 m K5 I7 gg ns (I3.fpOk (Nat.le_of_eq ceL.symm) gone)
    · refine thnF (T.more (Cx.blkB X z3 K3 scope ce it) [] i z5 _ K5 (fun _ _ => False) rfl rfl rfl hb I5 (quiet I5 none5) stood5 go) fun r z6 ⟨u, hr, w6⟩ => ?_
      subst hr
      refine thnF w6 fun _ z7 ⟨x, K7, I7, r7, y7, stood7, none7⟩ => ?_
      have pinned := I7.pinned (fp := [it]) (fun b hb => by rw [List.mem_singleton.mp hb]; exact quiet I7 none7) (fun b hb => by rw [List.mem_singleton.mp hb]; exact T.here _ _ stood7)
      refine thnF (pg.run _ z7 _ K7 x u _ pinned r7 (one x K7 y7)) fun _ z8 ⟨τ8, K8, I8, len8, q8⟩ => ?_
      refine thnF (pt.run _ z8 τ8 K8 _ I8 q8) fun b z9 ⟨K9, I9, q9⟩ => ?_
      have turned : ∀ {z : Shared} {K : Hp}, Inv (Cx.blkB X z3 K3 scope ce it) ([] ++ pinsAt [it] z7.heap) τ8 K z → Nx K → ∃ m, m < n ∧ ∃ i K, Inv (Cx.blkB X z3 K3 scope ce it) [] (wipe σ (mine.map (·.2))) K z ∧ tn i z.heap ∧ K it = none ∧ W i m K := fun {z K} I' nx => by
        obtain ⟨m, lt, w'⟩ := hNx K nx
        obtain ⟨o7, e7, _⟩ := T.here _ _ stood7
        have still := I'.pin (it, o7) (List.mem_append_right _ (List.mem_append_right _ (mem_pinsAt (List.mem_singleton.mpr rfl) e7)))
        have len : (wipe σ (mine.map (·.2))).length = τ8.length := by rw [← len8, wipe_length]
        refine ⟨m, lt, i + 1, K, (I'.unpinned (pins := [])).weak len (fun j v e => (wipe_some (len8 ▸ e)).1), T.keep _ _ _ stood7 fun o e => ?_, still.2.1, w'⟩
        rw [e7] at e
        cases e
        exact still.1
      cases b with
      | false => exact turned I9 q9
      | true =>
        refine thnF (pe.run _ z9 τ8 K9 _ I9 q9) fun y z10 ⟨yv, K10, I10, r10, acc, got, small, nx⟩ => ?_
        exact app_ok (X := Cx.blkB X z3 K3 scope ce it) I10 got small r10 fun z11 I11 => turned I11 nx
  exact codeAny_compStart_list loop (T.same X.A 0 _ _ _ stood4 loop)
theorem ps_setLcB {X : Cx} {i : Nat} {y : Str} {py p1 p3 : Pos} {el tgt src : Expr} {tests : List Expr} {scope : Scope} {mine : List (Str × Nat)} {wi : TI} {tg : TG} {tt : TT} {te : TE}
    (hot : HotB X) (hnd : X.N.Nodup) (hy : X.N[i]? = some y) (loc : X.env.scope.names.lookup y = some .local)
    (sw : swapsWith (.ListComp el [⟨tgt, src, tests, 0⟩] scope p1) (some (.Name y py)) p3.line X.env = pure true) (pi : PIB X tgt src wi) (ok : BlkOk X.N X.env.scope scope mine)
    (hg : ∀ (t : Shared) (K : Hp) (C : Addr) (cl : List (Str × Addr)) (it : Addr), PG (Cx.blkB X t K scope (compEnvC scope cl C X.env) it) tgt tg)
    (ht : ∀ (t : Shared) (K : Hp) (C : Addr) (cl : List (Str × Addr)) (it : Addr), PTs (Cx.blkB X t K scope (compEnvC scope cl C X.env) it) tests tt)
    (he : ∀ (t : Shared) (K : Hp) (C : Addr) (cl : List (Str × Addr)) (it : Addr), PE (Cx.blkB X t K scope (compEnvC scope cl C X.env) it) el te)
    (hset : ∀ x, foldedSetIterable src X.env x = pure x := by intro _; rfl) :
    PS X (.Assign [.Name y py] (.ListComp el [⟨tgt, src, tests, 0⟩] scope p1) p3) (tAsg (tLc wi tg tt te (mine.map (·.2))) (gName i)) :=
  ⟨fun pins z σ J D I h => by
    rw [exec_Assign_Name_used _ _ _ _ sw]
    refine wpAny_bind (wpAny_standAt (wpAny_bind ?_))
    show wpAny _ X.A (do let _ ← comprehension (.ListComp el [⟨tgt, src, tests, 0⟩] scope p1) scope X.env (firstIterPos [⟨tgt, src, tests, 0⟩] p1) (newList []) false (eval src X.env) (some (assign (.Name y py) X.env))) _ _ z
    have h : tLc wi tg tt te (mine.map (·.2)) σ J (fun x K => gName i x σ K D.nx) := h
    refine wpAny_bind (thn (lc_coreB (F := fun _ z' => SP X pins D .next z') hot hnd I pi ok hg ht he hset h fun L ce z' m K I' g ns f => ?_) fun _ z' q => wpAny_pure (wpAny_pure q))
    refine show wpAny _ _ (assign (.Name y py) X.env (.ref L)) _ _ _ from ?_
    refine wpAny_assign_Name (store_ok2 (v := V.ref L) I' hnd hy (.inl loc) rfl (fun z2 I2 ⟨a, same, at1⟩ => ?_) (.inr loc))
    have other : ce.locals ≠ a := at1.elim (fun e => e ▸ f.2.1) fun e c => f.2.2.2.2.1 y a e c.symm
    refine ⟨m, ns.sameBut same other, fun hp same3 => ⟨_, K, ?_, g⟩⟩
    exact I2.turned (t' := z2.toks) (fun b o hb e => (same3.2 b hb).trans e) f.1 f.2.1 f.2.2.2.1 f.2.2.2.2.1 f.2.2.2.2.2⟩
end

/-! HotC: min and max while an error is handled -/
section
open PySem PySem.Spec PyProof.Rows HotX
/-- the handled error's chain among cs -/
def HotL (A : Around) (cs : List Addr) (h : Heap) : Prop := ∃ (x1 : Addr) (o1 : Obj) (v1 : Array Value), A.handled = some (.ref x1) ∧ x1 ∈ cs ∧ h.get? x1 = some o1 ∧ o1.data = .fields v1 ∧
  (v1[2]? = some .none ∨ ∃ (x0 : Addr) (o0 : Obj) (v0 : Array Value), v1[2]? = some (.ref x0) ∧ x0 ∈ cs ∧ h.get? x0 = some o0 ∧ o0.data = .fields v0 ∧ v0[2]? = some .none ∧ x0 ≠ x1)
theorem HotL.d {A : Around} {cs : List Addr} {h : Heap} (c : HotL A cs h) : HotD A h := by
  obtain ⟨x1, o1, v1, hh, _, g1, d1, r⟩ := c
  rcases r with z | ⟨x0, o0, v0, c1, _, g0, d0, c0, ne⟩
  · exact ⟨x1, o1, v1, hh, g1, d1, .inl z⟩
  · exact ⟨x1, o1, v1, hh, g1, d1, .inr ⟨x0, o0, v0, c1, g0, d0, c0, ne⟩⟩
theorem HotL.frame {A : Around} {cs : List Addr} {h h' : Heap} (c : HotL A cs h) (k : ∀ b, b ∈ cs → ∀ o, h.get? b = some o → h'.get? b = some o) : HotL A cs h' := by
  obtain ⟨x1, o1, v1, hh, m1, g1, d1, r⟩ := c
  rcases r with z | ⟨x0, o0, v0, c1, m0, g0, d0, c0, ne⟩
  · exact ⟨x1, o1, v1, hh, m1, k _ m1 _ g1, d1, .inl z⟩
  · exact ⟨x1, o1, v1, hh, m1, k _ m1 _ g1, d1, .inr ⟨x0, o0, v0, c1, m0, k _ m0 _ g0, d0, c0, ne⟩⟩
theorem HotL.but {A : Around} {cs : List Addr} {h h' : Heap} {it : Addr} {oi : Obj} {vi : Array Value} (c : HotL A cs h) (gi : h.get? it = some oi) (di : oi.data = .fields vi) (no : vi[2]? = none) (k : ∀ b o, b ≠ it → h.get? b = some o → h'.get? b = some o) : HotL A cs h' := by
  have apart : ∀ {x : Addr} {o : Obj} {v : Array Value} {e : Value}, h.get? x = some o → o.data = .fields v → v[2]? = some e → x ≠ it := by
    rintro x o v e g d z rfl
    rw [gi] at g
    cases g
    rw [di] at d
    cases d
    rw [no] at z
    cases z
  obtain ⟨x1, o1, v1, hh, m1, g1, d1, r⟩ := c
  rcases r with z | ⟨x0, o0, v0, c1, m0, g0, d0, c0, ne⟩
  · exact ⟨x1, o1, v1, hh, m1, k _ _ (apart g1 d1 z) g1, d1, .inl z⟩
  · exact ⟨x1, o1, v1, hh, m1, k _ _ (apart g1 d1 c1) g1, d1, .inr ⟨x0, o0, v0, c1, m0, k _ _ (apart g0 d0 c0) g0, d0, c0, ne⟩⟩
theorem HotD.l {A : Around} {h : Heap} (c : HotD A h) : ∃ cs, HotL A cs h ∧ ∀ b, b ∈ cs → ∃ o, h.get? b = some o := by
  obtain ⟨x1, o1, v1, hh, g1, d1, r⟩ := c
  rcases r with z | ⟨x0, o0, v0, c1, g0, d0, c0, ne⟩
  · exact ⟨[x1], ⟨x1, o1, v1, hh, by simp, g1, d1, .inl z⟩, fun b hb => by rw [List.mem_singleton.mp hb]; exact ⟨_, g1⟩⟩
  · refine ⟨[x1, x0], ⟨x1, o1, v1, hh, by simp, g1, d1, .inr ⟨x0, o0, v0, c1, by simp, g0, d0, c0, ne⟩⟩, fun b hb => ?_⟩
    rcases List.mem_cons.mp hb with e | hb
    · exact e ▸ ⟨_, g1⟩
    · rw [List.mem_singleton.mp hb]
      exact ⟨_, g0⟩
theorem walks_listB {prog : Program} {w : World} {A : Around} (I ax : Addr) (hne : ax ≠ I) (items : Array Value) (cs : List Addr) :
    Walks prog w A I (I :: ax :: cs) [I] items.size (fun i v => items[i]? = some v) (fun i h => h.IsListIter I ax i ∧ h.IsList ax items ∧ HotL A cs h) where
  sub := fun b hb => by rw [List.mem_singleton.mp hb]; exact List.mem_cons_self
  frame := fun _ _ _ st k => ⟨st.1.at (k I (by simp)), st.2.1.at (k ax (by simp)), st.2.2.frame fun b hb => k b (by simp [hb])⟩
  item := fun i s Q E hi st hQ => by
    obtain ⟨oi, gi, _, di⟩ := id st.1
    refine wpAny_pyNext_list_item st.1 st.2.1 (x := items[i]) (Array.getElem?_eq_getElem hi) fun h' st' sb => ?_
    have k : ∀ b o, b ≠ I → s.heap.get? b = some o → h'.get? b = some o := fun b o nb e => (sb.2 b nb).trans e
    exact hQ _ h' s.toks (Array.getElem?_eq_getElem hi) ⟨st', st.2.1.extBut sb.extBut hne, st.2.2.but gi di rfl k⟩ fun b o hb e => k b o (fun z => hb (by simp [z])) e
  done := fun s Q E st hQ => listEnd_hot st.2.2.d st.1 st.2.1 (by simp) fun h' k => hQ h' s.toks fun b o hb e => k b o (fun z => hb (by simp [z])) e
  self := fun _ _ _ _ st hQ => wpAny_pyIter_listiter st.1 hQ
section
variable {prog : Program} {w : World} {A : Around} {E : Value → Shared → Prop} {s : Shared} {l : Addr} {its : List Value} {ns : List Int}
theorem walked {l : Addr} {items : Array Value} {cs : List Addr} (hl : s.heap.IsList l items) (hc : HotL A cs s.heap) (lo : ∀ b, b ∈ cs → ∃ o, s.heap.get? b = some o) {o : Obj} (hi : (s.heap.push o).IsListIter s.heap.objs.size l 0) :
    ((s.heap.push o).IsListIter s.heap.objs.size l 0 ∧ (s.heap.push o).IsList l items ∧ HotL A.in1 cs (s.heap.push o)) ∧ ∀ b ∈ s.heap.objs.size :: l :: cs, b < (s.heap.push o).objs.size := by
  refine ⟨⟨hi, hl.push _, hc.frame fun b _ u e => Heap.get?_push_of_some _ e⟩, fun b hb => ?_⟩
  rw [Heap.size_push]
  rcases List.mem_cons.mp hb with rfl | hb
  · exact Nat.lt_succ_self _
  rcases List.mem_cons.mp hb with rfl | hb
  · obtain ⟨_, e, _⟩ := hl
    exact Nat.lt_succ_of_lt (Heap.lt_size e)
  · obtain ⟨_, e⟩ := lo b hb
    exact Nat.lt_succ_of_lt (Heap.lt_size e)
theorem minB {Q : Value → Shared → Prop} (hot : HotD A s.heap) (hl : s.heap.IsList l its.toArray) (hi : IntsAre its ns) (hne : 0 < ns.length)
    (h : ∀ h' tk m t', (∀ b o, s.heap.get? b = some o → h'.get? b = some o) → m ∈ ns → (∀ a, a ∈ ns → m ≤ a) → Q (.int m t') { s with heap := h', toks := tk }) : wpAny (model prog w) A (call (.builtin "min") [.ref l]) Q E s := by
  obtain ⟨cs, hc, lo⟩ := hot.l
  obtain ⟨xs, e⟩ := hi.allInts.items
  have hn : numsOf (intItems xs).toList = ns := by rw [← e]; exact hi.numsOf
  rw [nums_intItems] at hn
  subst hn
  rw [e] at hl
  have hsz : 0 < xs.size := by simpa using hne
  refine call_min_walk (iter_intList hl fun s₂ e st _ nl => ?_)
  subst e
  obtain ⟨a, b⟩ := walked hl hc lo st.1
  refine ⟨_, _, _, _, _, _, _, rfl, walks_listB (A := A.in1) _ l nl (intItems xs) cs, a, b, by simpa [intItems] using hsz, CmpOf.ints_lt (numAt xs) (fun _ _ => intItems_at), fun v h' tk hP hk => ?_⟩
  obtain ⟨t, rfl⟩ := intItems_at (by simpa [intItems] using hP)
  obtain ⟨h1, h2⟩ := argBest_lt (numAt xs) (xs.size - 1)
  refine h h' tk _ t (old_kept hk) ?_ fun y hy => ?_
  · rw [numAt_eq]
    exact PySem.getD_mem (Nat.lt_of_le_of_lt h1 (by rw [List.length_map, Array.length_toList]; omega))
  · obtain ⟨j, hj, rfl⟩ := PySem.mem_getD hy
    rw [List.length_map, Array.length_toList] at hj
    rw [← numAt_eq]
    exact h2 j (by omega)
theorem maxB {Q : Value → Shared → Prop} (hot : HotD A s.heap) (hl : s.heap.IsList l its.toArray) (hi : IntsAre its ns) (hne : 0 < ns.length)
    (h : ∀ h' tk m t', (∀ b o, s.heap.get? b = some o → h'.get? b = some o) → m ∈ ns → (∀ a, a ∈ ns → a ≤ m) → Q (.int m t') { s with heap := h', toks := tk }) : wpAny (model prog w) A (call (.builtin "max") [.ref l]) Q E s := by
  obtain ⟨cs, hc, lo⟩ := hot.l
  obtain ⟨xs, e⟩ := hi.allInts.items
  have hn : numsOf (intItems xs).toList = ns := by rw [← e]; exact hi.numsOf
  rw [nums_intItems] at hn
  subst hn
  rw [e] at hl
  have hsz : 0 < xs.size := by simpa using hne
  refine call_max_walk (iter_intList hl fun s₂ e st _ nl => ?_)
  subst e
  obtain ⟨a, b⟩ := walked hl hc lo st.1
  refine ⟨_, _, _, _, _, _, _, rfl, walks_listB (A := A.in1) _ l nl (intItems xs) cs, a, b, by simpa [intItems] using hsz, CmpOf.ints_gt (numAt xs) (fun _ _ => intItems_at), fun v h' tk hP hk => ?_⟩
  obtain ⟨t, rfl⟩ := intItems_at (by simpa [intItems] using hP)
  obtain ⟨h1, h2⟩ := argBest_gt (numAt xs) (xs.size - 1)
  refine h h' tk _ t (old_kept hk) ?_ fun y hy => ?_
  · rw [numAt_eq]
    exact PySem.getD_mem (Nat.lt_of_le_of_lt h1 (by rw [List.length_map, Array.length_toList]; omega))
  · obtain ⟨j, hj, rfl⟩ := PySem.mem_getD hy
    rw [List.length_map, Array.length_toList] at hj
    rw [← numAt_eq]
    exact h2 j (by omega)
end
theorem cr_minB {X : Cx} (hb : HotB X) : CallR X (.builtin "min") (rMin X.K) := by
  rintro pins s σ H vs us Q I r ⟨a, ns, rfl, hs, hne, q⟩
  obtain ⟨its, rv, hl, _⟩ := I.list hs
  rw [Vals.ref1 r]
  exact minB (hb.heap I) hl.isList rv.ints hne fun h' tk m t' k h1 h2 => ⟨.int m, H, I.kept k, ⟨_, rfl⟩, q m h1 h2⟩
theorem cr_maxB {X : Cx} (hb : HotB X) : CallR X (.builtin "max") (rMax X.K) := by
  rintro pins s σ H vs us Q I r ⟨a, ns, rfl, hs, hne, q⟩
  obtain ⟨its, rv, hl, _⟩ := I.list hs
  rw [Vals.ref1 r]
  exact maxB (hb.heap I) hl.isList rv.ints hne fun h' tk m t' k h1 h2 => ⟨.int m, H, I.kept k, ⟨_, rfl⟩, q m h1 h2⟩
end

/-! HotF: defs that are called while an error is handled (they raise nothing) -/
section
open PySem PySem.Spec PyProof.Rows
def HotPn (A : Around) (pn : List (Addr × Obj)) : Prop := ∃ (x1 : Addr) (o1 : Obj) (v1 : Array Value), A.handled = some (.ref x1) ∧ (x1, o1) ∈ pn ∧ o1.data = .fields v1 ∧
  (v1[2]? = some .none ∨ ∃ (x0 : Addr) (o0 : Obj) (v0 : Array Value), v1[2]? = some (.ref x0) ∧ (x0, o0) ∈ pn ∧ o0.data = .fields v0 ∧ v0[2]? = some .none ∧ x0 ≠ x1)
theorem HotPn.more {A : Around} {pn pn' : List (Addr × Obj)} (h : HotPn A pn) (k : ∀ p, p ∈ pn → p ∈ pn') : HotPn A pn' := by
  obtain ⟨x1, o1, v1, hh, m1, d1, r⟩ := h
  rcases r with z | ⟨x0, o0, v0, c1, m0, d0, c0, ne⟩
  · exact ⟨x1, o1, v1, hh, k _ m1, d1, .inl z⟩
  · exact ⟨x1, o1, v1, hh, k _ m1, d1, .inr ⟨x0, o0, v0, c1, k _ m0, d0, c0, ne⟩⟩
/-- what such a def promises -/
structure FnB (P : Program) (w : World) (K : PySem.W.Frag) (mg : Str → Option Value) (base : Heap) (k : Nat) (f : Addr) (fd : FuncData) (ps : List Str) (sp : Sp) : Prop where
  len : ∀ vs H Q E, sp vs H Q E → vs.length = ps.length
  run : ∀ (pn : List (Addr × Obj)) (A : Around) (outer : List Env) (s : Shared) (H : Hp) (args : Args) (us : List Value) (vs : List V) (Q : VK), L2H.RoomH k A → HotPn A pn → (∀ p, p ∈ pn → L2H.PinOk outer H s p) → Env0 P w K mg base A outer s H → BindsTo s fd args (ps.zip us) → Vals vs us →
    sp vs H Q E0 → codeAny (model P w) A (.call (.ref f) args) (CR CX0 outer P w H s Q E0) s
/-- the context of its body -/
abbrev cxB (P : Program) (w : World) (K : PySem.W.Frag) (mg : Str → Option Value) (base : Heap) (N : List Str) (qual : Str) (scope : Scope) (f : Addr) (cd : Value) (A : Around) (outer : List Env) (s : Shared) (H : Hp) (p : Addr × Obj) (pn : List (Addr × Obj)) : Cx :=
  (L2H.cxH CX0 P w K mg base N qual scope f cd A outer s H E0 p).tr (p :: pn) fun _ _ => False
theorem okB {P : Program} {w : World} {K : PySem.W.Frag} {mg : Str → Option Value} {base : Heap} {nm qual : Str} {st : Stmt} {f : Addr} {fd : FuncData} {N ps : List Str} {k : Nat} {sp : Sp} (F : Fun K nm qual st f fd) (S : FnScope N ps (defScope st))
    (len : ∀ vs H Q E, sp vs H Q E → vs.length = ps.length)
    (body : ∀ (cdv : Value) (p : Addr × Obj) (pn : List (Addr × Obj)) (A : Around) (outer : List Env) (s : Shared) (H : Hp) (vs : List V) (Q : VK), L2H.RoomH k (A.deeper (envOfC qual (defScope st) s.heap.objs.size f cdv)) → HotB (cxB P w K mg base N qual (defScope st) f cdv A outer s H p pn) → sp vs H Q E0 →
      ∃ t, PSs (cxB P w K mg base N qual (defScope st) f cdv A outer s H p pn) (defBody st) t ∧ t { nx := fun _ H' => Q .non H', rt := Q } (start N vs) H) : FnB P w K mg base (k + 1) f fd ps sp := by
  obtain ⟨_, _, _, _, _, _, cdv, _, _, rfl, look, code⟩ := F.ex
  refine ⟨len, fun pn A outer s H args us vs Q room hot pin e0 bind rel h => ?_⟩
  obtain ⟨p, hp⟩ : ∃ p, p ∈ pn := by
    obtain ⟨_, _, _, _, m, _⟩ := hot
    exact ⟨_, m⟩
  have inK : K.In s.heap := e0.mod.kin.keeps fun b o q => (e0.bs b o q).1
  have noL : s.heap.NoLimit := e0.mod.nolimit.keeps fun b o q => (e0.bs b o q).1
  have kinds : ∀ y ∈ ps.zip us, (defScope st).names.lookup y.1 = some .local ∨ ((defScope st).names.lookup y.1 = some .cell ∧ ((cellsFrom (s.heap.objs.size + 1) (defScope st).names []).lookup y.1).isSome = true) := by
    rintro ⟨n, v⟩ hy
    refine (S.par n (List.of_mem_zip hy).1).imp id fun c => ⟨c, ?_⟩
    exact PySem.W.cellsFrom_some _ _ _ (.inl c)
  refine codeAny_call_function room.depth (inK _ _ look) rfl S.co S.gen rfl (PySem.W.codeRec_of inK code) (bind _ _ _ _ (wpAny_newFunctionEnv_cells S.kind kinds fun env he s1 x => ?_))
  subst he
  obtain ⟨t, ht, go⟩ := body cdv p pn A outer s H vs Q (room.deeper _) (hot.more fun q hq => List.mem_cons_of_mem _ hq) h
  have inv := L2H.inv_startH (CX := CX0) (E := E0) S (pin p hp) e0 (len vs H Q E0 h) rel x
  obtain ⟨h1, tk, e1, keep⟩ := x.done
  have inv : Inv (cxB P w K mg base N qual (defScope st) f cdv A outer s H p pn) [] (start N vs) H s1 := (inv.pins_of (pins' := pn) fun q hq => by
    have z := pin q hq
    subst e1
    exact ⟨keep q.1 q.2 z.get, z.free, Nat.ne_of_lt (Heap.lt_size z.get), z.nofs, z.nocell⟩).toTry fun _ _ => False
  refine ⟨noL.keeps x.toInCall.keep, codeAny_func (wpAny_mono (ht.run [] s1 (start N vs) H _ inv go) (fun fl s2 hs => ?_) fun _ _ hs => hs.elim)⟩
  cases fl with
  | next =>
    obtain ⟨_, H2, J, q⟩ := hs
    exact ⟨V.non, H2, J.os, J.bare, J.base, J.hok, rfl, q⟩
  | ret u =>
    obtain ⟨v, _, H2, J, rv, q⟩ := hs
    exact ⟨v, H2, J.os, J.bare, J.base, J.hok, rv, q⟩
  | brk => exact hs.elim fun _ ⟨_, _, q⟩ => q.elim
  | cont => exact hs.elim fun _ ⟨_, _, q⟩ => q.elim
theorem pe_callB' {X : Cx} {k : Nat} {f : Addr} {fd : FuncData} {ps : List Str} {sp : Sp} {x : Str} {q pos : Pos} {e : Expr} {es : List Expr} {t : TA} (F : FnB X.prog X.w X.K X.mg X.base k f fd ps sp) (room : L2H.RoomH k X.A) (hot : HotB X) (hg : Gl X x) (hm : X.mg x = some (.ref f)) (hk : PySem.W.keepIn X.K (.ref f) = true)
    (hb : Binds X.K fd ps []) (ha : PA X (e :: es) t) (hdb : (x == ("__debug__" : Str)) = false := by decide) (he : starEach (e :: es) X.env = (false, eval e X.env) :: starEach es X.env := by rfl) (hpl : (backTo pos (starEach es X.env)).any (·.1) = false := by rfl) :
    PE X (.Call (.Name x q) (e :: es) [] pos) (tCall sp [] E0 t) := by
  refine ⟨fun pins s σ H Q I h => wpAny_Call_Name_kw (ld_glob I hg hm ?_ hdb)⟩
  refine PySem.W.callWith_K (h₀ := X.base) I.ok.mod.kin hk (thn (ha.run pos pins s σ H _ I h) fun us s1 ⟨vs, H1, J, rel, go⟩ => ⟨J.kIn, ?_⟩) he hpl
  have go : sp vs H1 Q E0 := by
    have z : sp (vs ++ []) H1 Q E0 := go
    rw [List.append_nil] at z
    exact z
  have len := F.len _ _ _ _ go
  have pin : ∀ p, p ∈ X.pn → L2H.PinOk X.stack H1 s1 p := fun p hp => by
    have at_ := J.pin p (List.mem_append_left _ hp)
    refine ⟨at_.1, at_.2.1, fun m => ?_, at_.2.2.2.2⟩
    rcases List.mem_cons.mp (J.stkSub p.1 m) with z | z
    · exact at_.2.2.1 z
    · exact at_.2.2.2.1 z
  have b := hb s1 us J.kIn (by rw [List.append_nil, ← rel.length]; exact len)
  rw [List.append_nil] at b
  refine wpAny_call (codeAny_mono (F.run X.pn X.A X.stack s1 H1 ⟨us, []⟩ us vs Q room hot pin J.env0 b rel go) fun r s2 hr => ?_)
  match r, hr with
  | .ok (.ret u), hr => exact J.after hr
  | .error u, hr => exact hr.elim
end

/-! CtxB: errors whose context is None or an error whose context is None -/
section
open PySem PySem.Spec PyProof.Rows HotX
/-- what is kept of the error's object: class, dict, context -/
def Zk (cls : Value) (d : Option Addr) (c : Value) : Obj → Prop := fun o => o.cls = cls ∧ o.dict = d ∧ ∀ vs : Array Value, o.data = .fields vs → vs[2]? = some c
theorem Zk.zc {cls : Value} {d : Option Addr} {c : Value} {o : Obj} (h : Zk cls d c o) : Zc cls d o := ⟨h.1, h.2.1⟩
theorem Zk.ofN {cls : Value} {d : Option Addr} {o : Obj} (h : L2N.Zn cls d o) : Zk cls d .none o := ⟨h.1, h.2.1, h.2.2⟩
theorem Zk.steady {cls : Value} {d : Option Addr} {c : Value} : PXN.Steady1 (Zk cls d c) := by
  rintro ⟨oc, od, dt, sl⟩ v ⟨h1, h2, h3⟩
  refine ⟨(Obj.cls_mapFields ..).trans h1, (HandSPX.dict_mapFields ..).trans h2, ?_⟩
  cases dt with
  | fields us =>
    intro vs e
    have e2 : us.setIfInBounds 1 v = vs := Data.fields.inj e
    subst e2
    rw [show (us.setIfInBounds 1 v)[2]? = us[2]? from by simp [Array.getElem?_setIfInBounds]]
    exact h3 us rfl
  | _ =>
    intro vs e
    first
    | exact Data.noConfusion e
    | cases e
/-- what the context is, in what stays -/
def Bk (B : Heap) (H : Hp) (c : Value) : Prop := c = .none ∨ ∃ (x0 : Addr) (o0 : Obj) (v0 : Array Value), c = .ref x0 ∧ B.get? x0 = some o0 ∧ o0.data = .fields v0 ∧ v0[2]? = some .none ∧ H x0 = none
def XE2 (X : Cx) (W : WX) (u : Value) (z : Shared) : Prop :=
  ∃ (a : Addr) (B : Heap) (sI : Shared) (pins : List (Addr × Obj)) (σ : L2.St) (H : Hp) (cls : Value) (d : Option Addr) (c : Value),
    u = .ref a ∧ Inv X pins σ H sI ∧ (∀ b o, sI.heap.get? b = some o → b ∉ frs X.stack → B.get? b = some o) ∧ sI.heap.UpToSlots z.heap ∧
      Sky B X.stack a (Zk cls d c) X.env.locals z.heap ∧ H a = none ∧ z.os = sI.os ∧ AllBare z.gens ∧ Bk B H c ∧ W cls d σ H
def Takes2 (X : Cx) (W : WX) : Prop := ∀ u z, XE2 X W u z → X.xe u z
def CX2 (P : Program) (w : World) (outer : List Env) (H : Hp) (s : Shared) (E : XK) (u : Value) (z : Shared) : Prop :=
  ∃ (a : Addr) (B : Heap) (J : Hp) (cls : Value) (d : Option Addr) (c : Value), u = .ref a ∧ HandSPX.FlyingZ B outer a (Zk cls d c) z.heap ∧ HOk P w J B ∧ UB (frs outer) H J s.heap B z.heap ∧ J a = none ∧ z.os = s.os ∧ AllBare z.gens ∧ Bk B J c ∧ E cls d J
theorem traced_map {h B : Heap} {a : Addr} {Z Z' : Obj → Prop} {fl : Value} (f : ∀ o, Z o → Z' o) (x : HandSPX.TracedZ h B a Z fl) : HandSPX.TracedZ h B a Z' fl := by
  obtain ⟨oe, vs, T, oT, ts, he, hz, r⟩ := x
  exact ⟨oe, vs, T, oT, ts, he, f _ hz, r⟩
theorem sky_map {B h : Heap} {l : List Env} {a L : Addr} {Z Z' : Obj → Prop} (f : ∀ o, Z o → Z' o) (x : Sky B l a Z L h) : Sky B l a Z' L h := by
  rcases x with ⟨x1, x2, x3, oe, vs, he, hz, r⟩ | ⟨x1, x2, x3, x4⟩ | ⟨x1, x2, x3, x4⟩
  · exact .inl ⟨x1, x2, x3, oe, vs, he, f _ hz, r⟩
  · exact .inr (.inl ⟨x1, x2, x3, traced_map f x4⟩)
  · exact .inr (.inr ⟨x1, x2, x3, traced_map f x4⟩)
section
variable {X : Cx} {W : WX} {E : XK} {pins : List (Addr × Obj)} {σ : L2.St} {H : Hp} {s z : Shared} {B : Heap} {u : Value}
theorem XE2.ofN (x : L2N.XE X W u z) : XE2 X W u z := by
  obtain ⟨a, B, sI, pins, σ, H, cls, d, e, I, nb, up, sky, na, os, ag, w⟩ := x
  exact ⟨a, B, sI, pins, σ, H, cls, d, .none, e, I, nb, up, sky_map (fun _ => Zk.ofN) sky, na, os, ag, .inl rfl, w⟩
theorem takes02 {X : Cx} : Takes2 X (fun _ _ _ _ => False) := fun _ _ x => by
  obtain ⟨_, _, _, _, _, _, _, _, _, _, _, _, _, _, _, _, _, _, f⟩ := x
  exact f.elim
theorem Takes2.n (t : Takes2 X W) : L2N.Takes X W := fun u z x => t u z (.ofN x)
/-- a call's error is ours: the state is what stays and the frames -/
theorem XE2.of_call (I : Inv X pins σ H s) (hW : ∀ cls d J, E cls d J → W cls d σ J) (x : CX2 X.prog X.w X.stack H s E u z) : XE2 X W u z := by
  obtain ⟨a, B, J, cls, d, c, rfl, fl, hok, ub, na, os, ag, bk, hE⟩ := x
  obtain ⟨G, yes, no⟩ := L2.restrict z.heap fun b => (B.get? b).isSome || decide (b ∈ frs X.stack)
  have st : B.StaysIn z.heap := fl.1
  have inB : ∀ b o, B.get? b = some o → G.get? b = some o := fun b o e => (yes b (by simp [e])).trans (st b o e)
  have inF : ∀ b, b ∈ frs X.stack → G.get? b = z.heap.get? b := fun b hb => yes b (by simp [hb])
  have from' : ∀ b o, G.get? b = some o → z.heap.get? b = some o ∧ (b ∈ frs X.stack ∨ B.get? b = some o) := fun b o e => by
    by_cases hb : b ∈ frs X.stack
    · exact ⟨(inF b hb).symm.trans e, .inl hb⟩
    · cases q : B.get? b with
      | none =>
        rw [no b (by simp [q, hb])] at e
        cases e
      | some o' =>
        have e' := inB b o' q
        rw [e] at e'
        cases e'
        exact ⟨st b o q, .inr rfl⟩
  refine ⟨a, B, { s with heap := G, gens := z.gens, drawn := z.drawn, toks := z.toks }, pins, σ, J, cls, d, c, rfl, ?_, fun b o e hb => ((from' b o e).2.resolve_left hb), Heap.UpToSlots.of_keeps fun b o e => (from' b o e).1, .inr (.inl fl), na, os, ag, bk, hW _ _ _ hE⟩
  refine I.call (ch := []) ⟨fun b o e n hb _ => inB b o (ub.keep b o e n hb), fun b o e n hb _ => ?_, fun b o e n _ => ub.free b o e n, fun b o e _ => ?_, ub.tups, ub.frzs, ub.tbls⟩ (hok.kept inB) ag (fun _ m => nomatch m)
  · obtain ⟨sl, q⟩ := ub.slot b o e hb
    exact ⟨sl, (inF b hb).trans q⟩
  · by_cases hb : b ∈ frs X.stack
    · obtain ⟨sl, q⟩ := ub.slot b o e hb
      exact ⟨_, (inF b hb).trans q⟩
    · obtain ⟨o', q⟩ := ub.there b o e hb
      exact ⟨o', inB b o' q⟩
theorem passAt2 (t : Takes2 X W) (σ : L2.St) : PassesAt (CX2 X.prog X.w) X σ (WE W σ) := fun _ _ _ e s' I c => t e s' (XE2.of_call I (fun _ _ _ h => h) c)
/-- it leaves the def -/
theorem XE2.leave (hs : X.stack = X.env :: X.outer) (hf : X.env.frame = some X.env.locals) (hex : X.ex = []) {E1 : Value → Shared → Prop} (hW : ∀ cls d σ H, W cls d σ H → E cls d H) (x : XE2 X W u z) :
    wpAny (model X.prog X.w) X.A (leaving X.env u) (fun _ z' => CX2 X.prog X.w X.outer X.H_0 X.s_0 E u z') E1 z := by
  obtain ⟨a, B, sI, pins, σ, H, cls, d, c, rfl, I, nb, up, sky, na, os, ag, bk, w⟩ := x
  have hfr : X.A.frames = some (X.env :: X.outer) := by rw [I.ok.frames, hs]
  have old : ∀ b o, X.s_0.heap.get? b = some o → b ∉ X.fs → b ∉ frs X.stack := fun b o e hb m => by
    rcases List.mem_cons.mp (I.stkSub b m) with q | q
    · have lt := Heap.lt_size e
      rw [q] at lt
      exact Nat.lt_irrefl _ (Nat.lt_of_lt_of_le lt I.ok.above)
    · exact hb q
  have nox : ∀ b, b ∉ X.ex := fun b hb => by rw [hex] at hb; cases hb
  have fin : ∀ h', HandSPX.FlyingZ B X.outer a (Zk cls d c) h' → z.heap.UpToSlots h' → CX2 X.prog X.w X.outer X.H_0 X.s_0 E (.ref a) { z with heap := h' } := fun h' fl up' => by
    refine ⟨a, B, H, cls, d, c, rfl, fl, I.inGround nb, ⟨fun b o e n hb => nb b o (I.base.keep b o e n hb (nox b)) (old b o e hb), fun b o e hb => ?_, fun b o e n => I.base.free b o e n (nox b), fun b o e hb => ?_, I.base.tups, I.base.frzs, I.base.tbls⟩, na, os.trans I.os, ag, bk, hW _ _ _ _ w⟩
    · obtain ⟨_, o0, e0, nf⟩ := I.ok.funs.mem hb
      rw [e] at e0
      cases e0
      obtain ⟨_, q1⟩ := I.base.slot b o e (I.ok.frf b hb) hb (nox b)
      obtain ⟨_, q2⟩ := up b _ q1 nf
      obtain ⟨sl, q3⟩ := up' b _ q2 nf
      exact ⟨sl, q3⟩
    · obtain ⟨o', q⟩ := I.base.there b o e (nox b)
      exact ⟨o', nb b o' q (old b o e hb)⟩
  rw [hs] at sky
  rcases sky with ⟨hB, hn, hl, oe, vs, he, hz, hd, h1⟩ | fl | held
  · exact PXN.leaving_firstZ Zk.steady hfr hl hf he hB hn hd h1 hz fin
  · exact PXN.leaves_onZ Zk.steady hfr hf fl fin
  · exact HandSPX.leaves_heldZ hf held fin
theorem takes2_of (hs : X.stack = X.env :: X.outer) (hf : X.env.frame = some X.env.locals) (hex : X.ex = []) {E1 : Value → Shared → Prop}
    (hx : X.xe = fun e z => wpAny (model X.prog X.w) X.A (leaving X.env e) (fun _ z' => CX2 X.prog X.w X.outer X.H_0 X.s_0 E e z') E1 z) : Takes2 X (fun cls d _ H => E cls d H) := fun u z x => by
  rw [hx]
  exact XE2.leave (W := fun cls d _ H => E cls d H) (E := E) hs hf hex (fun _ _ _ _ h => h) x
end
/-- a def with such errors -/
theorem okX2 {P : Program} {w : World} {K : PySem.W.Frag} {mg : Str → Option Value} {base : Heap} {nm qual : Str} {st : Stmt} {f : Addr} {fd : FuncData} {N ps : List Str} {k : Nat} {sp : Sp} (F : Fun K nm qual st f fd) (S : FnScope N ps (defScope st))
    (len : ∀ vs H Q E, sp vs H Q E → vs.length = ps.length)
    (body : ∀ (cdv : Value) (A : Around) (outer : List Env) (s : Shared) (H : Hp) (vs : List V) (Q : VK) (E : XK), Room k (A.deeper (envOfC qual (defScope st) s.heap.objs.size f cdv)) → sp vs H Q E →
      ∃ t, PSs (cxOf (CX2 P w) P w K mg base N qual (defScope st) f cdv A outer s H E) (defBody st) t ∧ t { nx := fun _ H' => Q .non H', rt := Q } (start N vs) H) : FnOk P w K mg base (CX2 P w) (k + 1) f fd ps sp := by
  obtain ⟨_, _, _, _, _, _, cdv, _, _, rfl, look, code⟩ := F.ex
  exact fn_of look code S len fun A outer s H vs Q E room h => body cdv A outer s H vs Q E room h
end

/-! TryB: a suite that raises on; a suite with its error's chain -/
section
open PySem PySem.Spec PyProof.Rows HotX
/-- raise in a suite: the handled error is the new one's context -/
theorem ps_raise2 {X : Cx} {W : WX} {e : Expr} {t : L2.St → Hp → XK → Prop} {pos : Pos} (hot : L2H.HotC X) (tk : Takes2 X W) (he : L2N.PMk X e t) : PS X (.Raise (some e) none pos) (fun _ σ H => t σ H fun cls d H' => W cls d σ H') := by
  refine ⟨fun pins s σ H D I h => ?_⟩
  obtain ⟨⟨x1, o1⟩, ⟨hh, v1, d1, c1⟩, m1⟩ := hot
  show wpAny _ _ (do standAt pos; raiseStmt X.env (some (do let v ← eval e X.env; standAt pos; pure v)) none) _ _ _
  refine wpAny_bind (wpAny_standAt (raise_made_hot (x1 := x1) (wpAny_bind (wpAny_mono (he pins s σ H _ I h) (fun u s1 made => wpAny_bind (wpAny_standAt (wpAny_pure ?_))) fun _ _ x => x))))
  obtain ⟨a, oe, vs, sI, J, cls, d, rfl, I1, k, fresh, ga, hz, hd, h1, na, os, ag, ra, w⟩ := made
  obtain ⟨r1, r2⟩ := ra (model X.prog X.w) s1.heap (I1.kIn.keeps k)
  obtain ⟨p1, p2, p3, p4, p5⟩ := I1.pin (x1, o1) (List.mem_append_left _ m1)
  have apart : x1 ≠ a := by
    rintro rfl
    rw [fresh] at p1
    cases p1
  have sz : 2 < vs.size := (Array.getElem?_eq_some_iff.mp (hz.2.2 vs hd)).1
  have h1' : (vs.setIfInBounds 2 (Value.ref x1))[1]? = some Value.none := by
    rw [show (vs.setIfInBounds 2 (Value.ref x1))[1]? = vs[1]? from by simp [Array.getElem?_setIfInBounds]]
    exact h1
  have h2' : (vs.setIfInBounds 2 (Value.ref x1))[2]? = some (Value.ref x1) := by simp [Array.getElem?_setIfInBounds, sz]
  have keep : ∀ b o, sI.heap.get? b = some o → (s1.heap.update a (Obj.mapFields (·.setIfInBounds 2 (.ref x1)))).get? b = some o := fun b o g => by
    have nb : a ≠ b := by
      rintro rfl
      rw [fresh] at g
      cases g
    exact (Heap.get?_update_other _ _ nb).trans (k b o g)
  have notF : x1 ∉ frs X.stack := fun m => (List.mem_cons.mp (I1.stkSub x1 m)).elim p3 p4
  have da := Obj.data_mapFields hd (·.setIfInBounds 2 (Value.ref x1))
  refine ⟨a, oe, vs, cls, rfl, ga, hz.1, hd, h1, sz, apart, ⟨hh, o1, v1, k _ _ p1, d1, c1⟩, r1, r2, tk _ _ ?_⟩
  refine ⟨a, PySem.W.hideAll sI.heap (frs X.stack), sI, pins, σ, J, cls, d, .ref x1, rfl, I1, fun b o g hb => PySem.W.hideAll_get _ g hb, Heap.UpToSlots.of_keeps keep,
    .inl ⟨fun b o g => keep b o (PySem.W.of_hideAll _ g), ?_, ?_, Obj.mapFields (·.setIfInBounds 2 (.ref x1)) oe, vs.setIfInBounds 2 (.ref x1), Heap.get?_update_self _ ga (Obj.isFreed_of_fields da), ⟨(Obj.cls_mapFields ..).trans hz.1, (HandSPX.dict_mapFields ..).trans hz.2.1, fun us q => ?_⟩, da, h1'⟩, na, os, ag,
    .inr ⟨x1, o1, v1, rfl, PySem.W.hideAll_get _ p1 notF, d1, c1, p2⟩, w⟩
  · cases q : (PySem.W.hideAll sI.heap (frs X.stack)).get? a with
    | none => rfl
    | some o =>
      have g := PySem.W.of_hideAll _ q
      rw [fresh] at g
      cases g
  · exact Heap.FunFrames.of_keeps (fun b o g _ => ⟨o, keep b o g, rfl⟩) (funFrames_none I1.stack fun b hb => PySem.W.hideAll_none _ hb)
  · rw [da] at q
    cases q
    exact h2'
theorem offFrames {B h : Heap} {l : List Env} {a : Addr} {o : Obj} {vs : Array Value} (ff : h.FunFrames B l) (g : h.get? a = some o) (d : o.data = .fields vs) : a ∉ frs l := fun m => by
  obtain ⟨_, o', g', nf⟩ := ff.mem m
  rw [g] at g'
  cases g'
  exact nf _ d
section
variable {X : Cx} {x n : Str} {c : Value} {i : Nat} {body suite : List Stmt} {b0 : Stmt} {np pos pos' : Pos} {tb : WX → TS} {ts : Addr → Value → Option Addr → TS} {Wout : WX}
theorem namesTest {X : Cx} {x : Str} {c : Value} {np : Pos} (hc : Names X x c) {a : Addr} {q : Addr × Obj} {pn pn' : List (Addr × Obj)} {σ : L2.St} {H : Hp} {s : Shared} (I : Inv (X.suite a (q :: pn)) pn' σ H s) {Q : Value → Shared → Prop} {E : Value → Shared → Prop} (h : Q c s) :
    wpAny (model X.prog X.w) (X.A.mark (some (.ref a))) (eval (.Name x np) X.env) Q E s := by
  obtain ⟨hg, hdb, hm | ⟨hm, hv, hn⟩⟩ := hc
  · exact ld_glob (X := X.suite a (q :: pn)) I hg hm h hdb
  · exact ld_blt (X := X.suite a (q :: pn)) I hg hm hv h hn hdb
/-- try: body (errors whose context is None), except x: a suite that may raise -/
theorem ps_try_only2 (hs : X.stack = X.env :: X.outer) (hf : X.env.frame = some X.env.locals) (hc : Names X x c) (hpa : ∀ hd : Option Value, PassesOwnAt (model X.prog X.w) (X.A.mark hd) X.A X.env X.xe) (tk : Takes2 X Wout)
    (hb : ∀ (W : WX) (pn : List (Addr × Obj)) (xe : Value → Shared → Prop), L2N.Takes (X.tr pn xe) W → PassesOwn (model X.prog X.w) X.A X.env xe → PSs (X.tr pn xe) body (tb W))
    (hsu : ∀ (a : Addr) (oe : Obj) (cls : Value) (d : Option Addr) (pn : List (Addr × Obj)), L2N.Zn cls d oe → (∃ vs, oe.data = .fields vs) → Takes2 (L2H.suiteX X a ((a, oe) :: pn)) Wout → L2H.HotC (L2H.suiteX X a ((a, oe) :: pn)) →
      PSs (L2H.suiteX X a ((a, oe) :: pn)) (b0 :: suite) (ts a cls d)) :
    PS X (.Try body [.ExceptHandler (some (.Name x np)) none (b0 :: suite) pos'] [] [] pos) (fun D σ H => tb (wOnly X.K c ts Wout D) D σ H) := by
  refine ⟨fun pins s σ H D I h => ?_⟩
  have ok := I.ok
  have hfr : X.A.frames = some (X.env :: X.outer) := by rw [ok.frames, hs]
  refine wpAny_Try_except ?_
  refine wpAny_mono ((hb (wOnly X.K c ts Wout D) (X.pn ++ pins) (fun e s₁ => wpAny (model X.prog X.w) X.A (noteFrame e X.env) (fun _ s₂ => wpAny (model X.prog X.w) X.A (setFlight e none) (fun _ s₃ =>
    wpAny (model X.prog X.w) X.A (handleBy e X.env [.ExceptHandler (some (.Name x np)) none (b0 :: suite) pos']) (SP X pins D) X.xe s₃) X.xe s₂) X.xe s₁) (fun u z xx => ?_) PassesOwn.looking).run [] s σ H D (I.toTry _) h) (fun f s1 hsp => ?_) (fun e s1 he => he)
  · obtain ⟨a, B, sI, pins', τ, J, cls, d, rfl, I', nb, up, sky, na, os, ag, b, hb1, yes, no⟩ := xx
    have I1 : Inv X pins τ J sI := I'.ofTry ok
    have sky : Sky B (X.env :: X.outer) a (L2N.Zn cls d) X.env.locals z.heap := by rw [← hs]; exact sky
    refine L2N.Sky.land L2N.Zn.steady hfr hf sky fun h3 fl3 up3 => ?_
    have I3 : Inv X pins τ J { z with heap := h3 } := I1.landed nb fl3.1 (up.trans up3) os ag
    obtain ⟨oe3, vs3, g3, z3, d3⟩ := fl3.there
    have off := offFrames fl3.2.2.1 g3 d3
    have nL : a ≠ X.env.locals := fun q => off (List.mem_filterMap.mpr ⟨X.env, List.mem_cons_self, by rw [hf, q]⟩)
    have nF : a ∉ X.fs := fun m => by
      obtain ⟨e, he, q⟩ := List.mem_filterMap.mp m
      exact off (List.mem_filterMap.mpr ⟨e, List.mem_cons_of_mem _ he, q⟩)
    refine wpAny_handleBy_cons (codeAny_handlers_test ?_) (by intro q; cases q)
    have look : PySem.W.Looks (model X.prog X.w) h3 (typeOf (.ref a)) cls := fun A Q E s k q => wpAny_typeOf_ref (k _ _ g3) (by rw [z3.1]; exact q)
    refine namesTest hc (I3.suite g3 d3 na nL nF) ((PySem.W.exm_one (M := model X.prog X.w) I3.kIn look hb1).here ?_)
    cases b with
    | true =>
      refine codeAny_handlers_suite (HandSPX.lands_againZ fl3 fun h4 fl4 up4 => ?_)
      have I4 : Inv X pins τ J { z with heap := h4 } := I1.landed nb fl4.1 ((up.trans up3).trans up4) os ag
      obtain ⟨oe4, vs4, g4, z4, d4⟩ := fl4.there
      have tkS : Takes2 (L2H.suiteX X a ((a, oe4) :: (X.pn ++ pins))) Wout := fun u2 s2 x2 => by
        obtain ⟨a2, B2, sI2, pn2, τ2, J2, cls2, d2, c2, e2, I2, nb2, up2, sky2, na2, os2, ag2, bk2, w2⟩ := x2
        exact tk u2 s2 ⟨a2, B2, sI2, pins, τ2, J2, cls2, d2, c2, e2, L2H.unsuiteX I2 ok, nb2, up2, sky2, na2, os2, ag2, bk2, w2⟩
      have hot : L2H.HotC (L2H.suiteX X a ((a, oe4) :: (X.pn ++ pins))) := ⟨(a, oe4), ⟨rfl, vs4, d4, z4.2.2 vs4 d4⟩, List.mem_cons_self⟩
      refine wpAny_mono ((hsu a oe4 cls d (X.pn ++ pins) z4 ⟨_, d4⟩ tkS hot).run [] _ _ J _ (L2H.suiteX_of (I4.suite g4 d4 na nL nF)) (yes rfl a na)) (fun f s6 hsp => ?_) (fun e6 s6 q => hpa (some (.ref a)) e6 s6 q)
      match f, hsp with
      | .next, ⟨_, _, S, q⟩ => exact ⟨_, _, L2H.unsuiteX S ok, q⟩
      | .brk, ⟨_, _, S, q⟩ => exact ⟨_, _, L2H.unsuiteX S ok, q⟩
      | .cont, ⟨_, _, S, q⟩ => exact ⟨_, _, L2H.unsuiteX S ok, q⟩
      | .ret u, ⟨_, _, _, S, r, q⟩ => exact ⟨_, _, _, L2H.unsuiteX S ok, r, q⟩
    | false =>
      show wpAny _ X.A (handleBy (.ref a) X.env []) _ _ _
      refine wpAny_handleBy_nil ?_
      obtain ⟨_, _, _, oe, vs, T, oT, ts', he, hz, hd, h1, _⟩ := id fl3
      unfold PySem.passOn
      refine wpAny_bind (wpAny_field he hd h1 ?_)
      rw [if_neg (show ¬ ((Value.ref T == Value.none) = true) from by simp)]
      have fin : wpAny (model X.prog X.w) X.A (setFlight (.ref a) X.env.frame) (fun _ s4 => wpAny (model X.prog X.w) X.A (throw (.ref a) : Sem Flow) (SP X pins D) X.xe s4) X.xe { z with heap := h3 } := by
        rw [hf]
        refine HandSPX.setFlight_upZ fl3 fun h4 held up4 => wpAny_throw (tk.n _ _ ?_)
        exact ⟨a, B, sI, pins, τ, J, cls, d, rfl, I1, nb, (up.trans up3).trans up4, .inr (.inr (by rw [hs]; exact held)), na, os, ag, no rfl⟩
      first
        | exact wpAny_bind (wpAny_pure (wpAny_bind fin))
        | exact wpAny_bind fin
  · match f, hsp with
    | .next, ⟨_, _, S, q⟩ => exact wpAny_execs_nil ⟨_, _, S.ofTry ok, q⟩
    | .brk, ⟨_, _, S, q⟩ => exact ⟨_, _, S.ofTry ok, q⟩
    | .cont, ⟨_, _, S, q⟩ => exact ⟨_, _, S.ofTry ok, q⟩
    | .ret u, ⟨_, _, _, S, r, q⟩ => exact ⟨_, _, _, S.ofTry ok, r, q⟩
/-- try: body, except x as n: the suite knows the error's chain -/
theorem ps_try_as2 (hs : X.stack = X.env :: X.outer) (hf : X.env.frame = some X.env.locals) (hN : X.N.Nodup) (hi : X.N[i]? = some n) (hln : X.env.kindOf n = some .local) (hc : Names X x c) (tk : Takes2 X Wout)
    (hb : ∀ (W : WX) (pn : List (Addr × Obj)) (xe : Value → Shared → Prop), Takes2 (X.tr pn xe) W → PassesOwn (model X.prog X.w) X.A X.env xe → PSs (X.tr pn xe) body (tb W))
    (hsu : ∀ (a : Addr) (oe : Obj) (cls : Value) (d : Option Addr) (pn : List (Addr × Obj)), Zc cls d oe → (∃ vs, oe.data = .fields vs) → HotB (X.suite a ((a, oe) :: pn)) → PSs (X.suite a ((a, oe) :: pn)) (b0 :: suite) (ts a cls d)) :
    PS X (.Try body [.ExceptHandler (some (.Name x np)) (some n) (b0 :: suite) pos'] [] [] pos) (fun D σ H => tb (wAs X.K c i ts Wout D) D σ H) := by
  refine ⟨fun pins s σ H D I h => ?_⟩
  have ok := I.ok
  have hfr : X.A.frames = some (X.env :: X.outer) := by rw [ok.frames, hs]
  refine wpAny_Try_except ?_
  refine wpAny_mono ((hb (wAs X.K c i ts Wout D) (X.pn ++ pins) (fun e s₁ => wpAny (model X.prog X.w) X.A (noteFrame e X.env) (fun _ s₂ => wpAny (model X.prog X.w) X.A (setFlight e none) (fun _ s₃ =>
    wpAny (model X.prog X.w) X.A (handleBy e X.env [.ExceptHandler (some (.Name x np)) (some n) (b0 :: suite) pos']) (SP X pins D) X.xe s₃) X.xe s₂) X.xe s₁) (fun u z xx => ?_) PassesOwn.looking).run [] s σ H D (I.toTry _) h) (fun f s1 hsp => ?_) (fun e s1 he => he)
  · obtain ⟨a, B, sI, pins', τ, J, cls, d, ct, rfl, I', nb, up, sky, na, os, ag, bk, b, hb1, yes, no⟩ := xx
    have I1 : Inv X pins τ J sI := I'.ofTry ok
    have sky : Sky B (X.env :: X.outer) a (Zk cls d ct) X.env.locals z.heap := by rw [← hs]; exact sky
    refine L2N.Sky.land Zk.steady hfr hf sky fun h3 fl3 up3 => ?_
    have I3 : Inv X pins τ J { z with heap := h3 } := I1.landed nb fl3.1 (up.trans up3) os ag
    obtain ⟨oe3, vs3, g3, z3, d3⟩ := fl3.there
    have nLF : ∀ {y : Addr}, y ∉ frs (X.env :: X.outer) → y ≠ X.env.locals ∧ y ∉ X.fs := fun off => ⟨fun q => off (List.mem_filterMap.mpr ⟨X.env, List.mem_cons_self, by rw [hf, q]⟩), fun m => by
      obtain ⟨e, he, q⟩ := List.mem_filterMap.mp m
      exact off (List.mem_filterMap.mpr ⟨e, List.mem_cons_of_mem _ he, q⟩)⟩
    obtain ⟨nL, nF⟩ := nLF (offFrames fl3.2.2.1 g3 d3)
    refine wpAny_handleBy_cons (codeAny_handlers_test ?_) (by intro q; cases q)
    have look : PySem.W.Looks (model X.prog X.w) h3 (typeOf (.ref a)) cls := fun A Q E s k q => wpAny_typeOf_ref (k _ _ g3) (by rw [z3.1]; exact q)
    refine namesTest hc (I3.suite g3 d3 na nL nF) ((PySem.W.exm_one (M := model X.prog X.w) I3.kIn look hb1).here ?_)
    cases b with
    | true =>
      refine codeAny_handlers_suite_as (HandSPX.lands_againZ fl3 fun h4 fl4 up4 => ?_)
      have I4 : Inv X pins τ J { z with heap := h4 } := I1.landed nb fl4.1 ((up.trans up3).trans up4) os ag
      obtain ⟨oe4, vs4, g4, z4, d4⟩ := fl4.there
      -- the pins: the error, and what stands behind it
      obtain ⟨pins2, I5, sub, hot⟩ : ∃ pins2, Inv X pins2 τ J { z with heap := h4 } ∧ (∀ p, p ∈ pins → p ∈ pins2) ∧ HotB (X.suite a ((a, oe4) :: (X.pn ++ pins2))) := by
        rcases bk with e | ⟨x0, o0, v0, e, gB, d0, c0, n0⟩
        · subst e
          exact ⟨pins, I4, fun _ q => q, a, oe4, vs4, rfl, List.mem_cons_self, d4, .inl (z4.2.2 vs4 d4)⟩
        · subst e
          have g0 := fl4.1 _ _ gB
          obtain ⟨q1, q2⟩ := nLF (offFrames fl4.2.2.1 g0 d0)
          refine ⟨(x0, o0) :: pins, I4.pins_of fun p hp => ?_, fun _ q => List.mem_cons_of_mem _ q, a, oe4, vs4, rfl, List.mem_cons_self, d4, .inr ⟨x0, o0, v0, z4.2.2 vs4 d4, List.mem_cons_of_mem _ (List.mem_append_right _ List.mem_cons_self), d0, c0, fun y => ?_⟩⟩
          · rcases List.mem_cons.mp hp with rfl | hp
            · exact ⟨g0, n0, q1, q2, fun v y => by rw [d0] at y; cases y⟩
            · exact I4.pin p (List.mem_append_right _ hp)
          · rw [y] at gB
            have := fl4.2.1
            rw [gB] at this
            cases this
      have back : ∀ {τ6 : L2.St} {J6 : Hp} {s6 : Shared}, Inv X pins2 τ6 J6 s6 → Inv X pins τ6 J6 s6 := fun S => S.pins_of fun p hp => S.pin p (List.mem_append_right _ (sub p hp))
      have S5 := I5.suite g4 d4 na nL nF
      refine store_ok (X := X.suite a ((a, oe4) :: (X.pn ++ pins2))) (v := .ref a) S5 hN hi (.inl hln) rfl (fun s5 S5 => ?_) (.inr hln)
      refine wpAny_mono ((hsu a oe4 cls d (X.pn ++ pins2) z4.zc ⟨_, d4⟩ hot).run [] s5 _ J _ S5 (yes rfl a na)) (fun f s6 hsp => ?_) (fun _ _ q => False.elim q)
      have end_ : ∀ {τ6 : L2.St} {J6 : Hp} {Q : Shared → Prop}, Inv (X.suite a ((a, oe4) :: (X.pn ++ pins2))) [] τ6 J6 s6 → (∀ s7, Inv X pins (τ6.set i none) J6 s7 → Q s7) →
          wpAny (model X.prog X.w) X.A (do bindName X.env n .none; unbindBehindTheSuite X.env n pos') (fun _ s7 => Q s7) X.xe s6 := fun {τ6 J6 Q} S hq => gone_ok (back (S.unsuite ok)) hN hi hln hq
      match f, hsp with
      | .next, ⟨_, _, S, q⟩ => exact end_ S fun s7 J7 => ⟨_, _, J7, q⟩
      | .brk, ⟨_, _, S, q⟩ => exact end_ S fun s7 J7 => ⟨_, _, J7, q⟩
      | .cont, ⟨_, _, S, q⟩ => exact end_ S fun s7 J7 => ⟨_, _, J7, q⟩
      | .ret u, ⟨_, _, _, S, r, q⟩ => exact end_ S fun s7 J7 => ⟨_, _, _, J7, r, q⟩
    | false =>
      show wpAny _ X.A (handleBy (.ref a) X.env []) _ _ _
      refine wpAny_handleBy_nil ?_
      obtain ⟨_, _, _, oe, vs, T, oT, ts', he, hz, hd, h1, _⟩ := id fl3
      unfold PySem.passOn
      refine wpAny_bind (wpAny_field he hd h1 ?_)
      rw [if_neg (show ¬ ((Value.ref T == Value.none) = true) from by simp)]
      have fin : wpAny (model X.prog X.w) X.A (setFlight (.ref a) X.env.frame) (fun _ s4 => wpAny (model X.prog X.w) X.A (throw (.ref a) : Sem Flow) (SP X pins D) X.xe s4) X.xe { z with heap := h3 } := by
        rw [hf]
        refine HandSPX.setFlight_upZ fl3 fun h4 held up4 => wpAny_throw (tk _ _ ?_)
        exact ⟨a, B, sI, pins, τ, J, cls, d, ct, rfl, I1, nb, (up.trans up3).trans up4, .inr (.inr (by rw [hs]; exact held)), na, os, ag, bk, no rfl⟩
      first
        | exact wpAny_bind (wpAny_pure (wpAny_bind fin))
        | exact wpAny_bind fin
  · match f, hsp with
    | .next, ⟨_, _, S, q⟩ => exact wpAny_execs_nil ⟨_, _, S.ofTry ok, q⟩
    | .brk, ⟨_, _, S, q⟩ => exact ⟨_, _, S.ofTry ok, q⟩
    | .cont, ⟨_, _, S, q⟩ => exact ⟨_, _, S.ofTry ok, q⟩
    | .ret u, ⟨_, _, _, S, r, q⟩ => exact ⟨_, _, _, S.ofTry ok, r, q⟩
end
end

@[irreducible] def sp_drawn (K : PySem.W.Frag) (_ : Ads) : Sp := fun vs H Q _ => ∃ (a : Addr) (ns : List Int) (k many : Int), vs = [.ref a, .int k, .int many] ∧ SqL K H a (ns.map V.int) ∧ 0 ≤ k ∧ k < 2147483648 ∧ 0 < many ∧
  ∀ d, 0 ≤ d → d < many → Q (.int d) H
theorem len_drawn {K : PySem.W.Frag} {G : Ads} {vs H Q E} (h : sp_drawn K G vs H Q E) : vs.length = 3 := by
  unfold sp_drawn at h
  obtain ⟨a, ns, k, many, rfl, _⟩ := h
  rfl
theorem c_drawn {K : PySem.W.Frag} {G : Ads} {H : Hp} {Q : VK} {E : XK} {a : Addr} {ns : List Int} {k many : Int} (s : SqL K H a (ns.map V.int)) (h0 : 0 ≤ k) (h1 : k < 2147483648) (h2 : 0 < many) (q : ∀ d, 0 ≤ d → d < many → Q (.int d) H) :
    sp_drawn K G [.ref a, .int k, .int many] H Q E := by
  unfold sp_drawn
  exact ⟨a, ns, k, many, rfl, s, h0, h1, h2, q⟩
def t_drawn_c2 (K : PySem.W.Frag) (G : Ads) (E : XK) : TS :=
  (tSeq (tAsg (tOp mAdd (tOp mAdd (tOp mMul (tVar 3) (tOp mAdd (tC (.int 48271)) (tOp mMul (tC (.int 9973)) (tOp mMod (tVar 1) (tC (.int 97)))))) (tOp mMul (tOp mMul (tOp mAdd (tVar 1) (tC (.int 1))) (tOp mAdd (tVar 1) (tC (.int 3)))) (tC (.int 16807)))) (tCB (mLen K) (tCons (tVar 0) tNil))) (gName 4))
    (tRet (tOp mMod (tOp mFdiv (tOp mMod (tVar 4) (tC (.int 2147483647))) (tC (.int 16))) (tVar 2))))
def t_drawn (K : PySem.W.Frag) (G : Ads) (E : XK) : TS :=
  (tSeq (tAsg (tC (.int 7)) (gName 3))
    (tSeq (tIfS (tTest (tOp mGt (tCB (mLen K) (tCons (tVar 0) tNil)) (tC (.int 0))))
    (tAsg (tOp (rIxL K) (tVar 0) (tOp mMod (tVar 1) (tCB (mLen K) (tCons (tVar 0) tNil)))) (gName 3))
    tNext)
    (t_drawn_c2 K G E)))
abbrev N_drawn : List Str := ["script", "k", "many", "cell", "mixed"]

theorem pure_drawn {K : PySem.W.Frag} {G : Ads} {vs H Q E} (h : sp_drawn K G vs H Q E) : t_drawn K G E { nx := fun _ H' => Q .non H', rt := Q } (start N_drawn vs) H := by
  unfold sp_drawn at h
  obtain ⟨a, ns, k, many, rfl, hS, hk, hk2, hm, q⟩ := h
  show t_drawn K G E _ [some (.ref a), some (.int k), some (.int many), none, none] H
  unfold t_drawn
  walk_at "g"
  have fin : ∀ c : Int, t_drawn_c2 K G E { nx := fun _ H' => Q .non H', rt := Q } [some (.ref a), some (.int k), some (.int many), some (.int c), none] H := fun c => by
    unfold t_drawn_c2
    walk_at "g"
    exact q _ (Int.emod_nonneg _ (by omega)) (Int.emod_lt_of_pos _ hm)
  refine ifP (fun h => ?_) (fun h => ?_)
  · walk_at "g"
    exact fin _
  · walk_at "g"
    exact fin _

@[irreducible] def sp_other (_ : PySem.W.Frag) (_ : Ads) : Sp := fun vs H Q _ => ∃ (g many : Int), vs = [.int g, .int many] ∧ Q (.int (other g many)) H
theorem len_other {K : PySem.W.Frag} {G : Ads} {vs H Q E} (h : sp_other K G vs H Q E) : vs.length = 2 := by
  unfold sp_other at h
  obtain ⟨a, ns, rfl, _⟩ := h
  rfl
theorem c_other {K : PySem.W.Frag} {G : Ads} {H : Hp} {Q : VK} {E : XK} {g many : Int} (q : Q (.int (other g many)) H) : sp_other K G [.int g, .int many] H Q E := by
  unfold sp_other
  exact ⟨g, many, rfl, q⟩
def t_other (K : PySem.W.Frag) (G : Ads) (E : XK) : TS :=
  (tSeq (tIfS (tTest (tOp mLt (tVar 0) (tC (.int 0))))
    (tRet (tVar 0))
    tNext)
    (tRet (tOp mSub (tOp mSub (tVar 1) (tC (.int 1))) (tVar 0))))
abbrev N_other : List Str := ["gone", "many"]

theorem pure_other {K : PySem.W.Frag} {G : Ads} {vs H Q E} (h : sp_other K G vs H Q E) : t_other K G E { nx := fun _ H' => Q .non H', rt := Q } (start N_other vs) H := by
  unfold sp_other at h
  obtain ⟨g, many, rfl, q⟩ := h
  show t_other K G E _ [some (.int g), some (.int many)] H
  unfold t_other
  walk_at "g"
  unfold other at q
  refine ifP (fun h => ?_) (fun h => ?_)
  · walk_at "g"
    rw [if_pos h] at q
    exact q
  · walk_at "g"
    rw [if_neg h] at q
    exact q
/-- [[other(gone, many) for gone in row] for row in reversed(rows)] -/
theorem g_lcFlip {K : PySem.W.Frag} {G : Ads} {σ : L2.St} {H : Hp} {Q : VK} {i j m : Nat} {vs ws : List Nat} {a : Addr} {rows : List (List Int)} (R : RowsAt H a rows) (hn : rows.length ≤ 100000) (hrow : ∀ k, k < rows.length → (rows.getD k []).length ≤ 100000)
    (hw : ∀ x : V, wipe ((wipe σ vs).set i (some x)) vs = wipe σ vs) (hw2 : ∀ x y : V, wipe ((wipe ((wipe σ vs).set i (some x)) ws).set j (some y)) ws = wipe ((wipe σ vs).set i (some x)) ws)
    (h1 : ∀ x : V, ((wipe σ vs).set i (some x))[i]? = some (some x)) (h2 : ∀ x y : V, ((wipe ((wipe σ vs).set i (some x)) ws).set j (some y))[j]? = some (some y)) (h3 : ∀ x y : V, ((wipe ((wipe σ vs).set i (some x)) ws).set j (some y))[m]? = some (some (.int rows.length)))
    (hd : ∀ D H1, Same H H1 → NewRows H H1 D (flipRows rows) → Q (.ref D) H1) :
    ∃ (b : Addr) (ys : List V), [V.ref a] = [.ref b] ∧ SqL K H b ys ∧ LcV K b ys.length i tYes (tLc (iList K (tVar i)) (gName j) tYes (tCall (sp_other K G) [] E0 (tCons (tVar j) (tCons (tVar m) tNil))) ws) vs σ H Q := by
  obtain ⟨bs, s1, e1, at1⟩ := R.sq (K := K)
  refine g_lstv s1 ?_
  have hbl : (bs.map V.ref).length = rows.length := by rw [List.length_map, e1]
  refine lcVRows (fun rs => ∀ k : Nat, k < rs.length → rs.getD k [] = (flipRows rows).getD k []) (fun k hk => by simp at hk) (by rw [hbl]; omega) s1 hw (fun D k v cs rs H2 S hk hx el p l2 qs => ?_) (fun D rs H2 el p s2 n2 => ?_)
  · rw [hbl] at hk
    rw [hbl] at hx
    obtain ⟨r, rfl, hk2, hr2⟩ := at1 _ _ hx
    refine g_lcL (g_var (h1 _) (g_lstw (l2.base hr2) ?_))
    refine lcLI (fun zs => zs = ((rows.getD (rows.length - 1 - k) []).map (fun g => other g rows.length)).take zs.length) rfl (by rw [List.length_map]; exact hrow _ hk2) (l2.base hr2) (fun x => hw2 _ x) (fun D2 j v zs H3 S3 hx3 el3 p3 l3 qs3 => ?_) (fun D2 zs H3 nD2 el3 p3 s3 hD2 => ?_)
    · obtain ⟨g, hg, rfl⟩ : ∃ g, (rows.getD (rows.length - 1 - k) [])[j]? = some g ∧ v = V.int g := by
        rw [List.getElem?_map] at hx3
        cases z : (rows.getD (rows.length - 1 - k) [])[j]? with
        | none =>
          rw [z] at hx3
          cases hx3
        | some g =>
          rw [z] at hx3
          exact ⟨g, rfl, (Option.some.inj hx3).symm⟩
      refine g_call (g_cons (g_var (h2 _ _) (g_cons (g_var (h3 _ _) (g_nil ?_)))))
      refine c_other (qs3 _ _ ?_ l3)
      rw [List.length_append, el3]
      show zs ++ [other g rows.length] = List.take (j + 1) _
      rw [List.take_add_one, List.getElem?_map, hg, ← el3, ← p3]
      rfl
    · rw [List.length_map] at el3
      refine qs D2 zs H3 (fun m hm2 => ?_) (l2.add s3 nD2 hD2)
      rw [List.length_append] at hm2
      by_cases z : m < rs.length
      · rw [List.getD_eq_getElem?_getD, List.getElem?_append_left z, ← List.getD_eq_getElem?_getD]
        exact p m z
      · have e2 : m = rs.length := by simp at hm2; omega
        subst e2
        rw [List.getD_eq_getElem?_getD, List.getElem?_append_right (Nat.le_refl _), Nat.sub_self, el, flip_at hk]
        show zs = _
        rw [p3, el3, ← List.length_map (f := fun g => other g rows.length), List.take_length]
  · rw [hbl] at el
    have er : rs = flipRows rows := rows_ext (by rw [flip_length]; exact el) p
    subst er
    exact hd D H2 s2 n2

@[irreducible] def sp_rows_by (K : PySem.W.Frag) (_ : Ads) : Sp := fun vs H Q _ => ∃ (a : Addr) (ns : List Int), vs = [.ref a] ∧ SqL K H a (ns.map V.int) ∧
  ∀ (p : Addr) (rows : List (List Int)) (H' : Hp), Shape rows → Same H H' → NewRows H H' p rows → Q (.ref p) H'
theorem len_rows_by {K : PySem.W.Frag} {G : Ads} {vs H Q E} (h : sp_rows_by K G vs H Q E) : vs.length = 1 := by
  unfold sp_rows_by at h
  obtain ⟨a, ns, rfl, _⟩ := h
  rfl
theorem c_rows_by {K : PySem.W.Frag} {G : Ads} {H : Hp} {Q : VK} {E : XK} {a : Addr} {ns : List Int} (s : SqL K H a (ns.map V.int)) (q : ∀ (p : Addr) (rows : List (List Int)) (H' : Hp), Shape rows → Same H H' → NewRows H H' p rows → Q (.ref p) H') : sp_rows_by K G [.ref a] H Q E := by
  unfold sp_rows_by
  exact ⟨a, ns, rfl, s, q⟩
def t_rows_by_c4_4 (K : PySem.W.Frag) (G : Ads) (E : XK) : TS :=
  (tSeq (tAsg (tLc (iRng1 (tCons (tVar 6) tNil)) (gName 8) tYes (tOp mSub (tCall (sp_drawn K G) [] E0 (tCons (tVar 0) (tCons (tOp mAdd (tOp mAdd (tVar 5) (tC (.int 3))) (tVar 8)) (tCons (tVar 7) tNil)))) (tC (.int 1))) [8]) (gName 9))
    (tSeq (tAsg (tOp mSub (tCall (sp_drawn K G) [] E0 (tCons (tVar 0) (tCons (tOp mAdd (tVar 5) (tC (.int 2))) (tCons (tOp mAdd (tVar 4) (tC (.int 1))) tNil)))) (tC (.int 1))) (gSub (tVar 9) (tCall (sp_drawn K G) [] E0 (tCons (tVar 0) (tCons (tOp mAdd (tVar 5) (tC (.int 1))) (tCons (tVar 6) tNil)))) rSetL))
    (tDrop (tBM K "list" rAppend (tVar 3) (tCons (tVar 9) tNil)))))
def t_rows_by_c7 (K : PySem.W.Frag) (G : Ads) (E : XK) : TS :=
  (tRet (tVar 3))
def t_rows_by_c6 (K : PySem.W.Frag) (G : Ads) (E : XK) : TS :=
  (tSeq (tIfS (tTest (tOp rEq (tCall (sp_drawn K G) [] E0 (tCons (tVar 0) (tCons (tC (.int 3)) (tCons (tC (.int 2)) tNil)))) (tC (.int 1))))
    (tAsg (tLc (iRev K (tCons (tVar 3) tNil)) (gName 9) tYes (tLc (iList K (tVar 9)) (gName 10) tYes (tCall (sp_other K G) [] E0 (tCons (tVar 10) (tCons (tVar 2) tNil))) [10]) [9]) (gName 3))
    tNext)
    (t_rows_by_c7 K G E))
def t_rows_by_c5 (K : PySem.W.Frag) (G : Ads) (E : XK) : TS :=
  (tSeq (tIfS (tAnd (tB (tVar 1)) (tTest (tOp mGt (tCall (sp_drawn K G) [] E0 (tCons (tVar 0) (tCons (tC (.int 4)) (tCons (tC (.int 3)) tNil)))) (tC (.int 0)))))
    (tFor (iRng1 (tCons (tC (.int 3)) tNil)) (gName 8)
    (tSeq (tAsg (tOp (rIxL K) (tVar 3) (tCall (sp_drawn K G) [] E0 (tCons (tVar 0) (tCons (tOp mAdd (tC (.int 5)) (tVar 8)) (tCons (tVar 2) tNil))))) (gName 9))
    (tIfS (tTest (tOp mLt (tCB (mLen K) (tCons (tVar 9) tNil)) (tC (.int 8))))
    (tDrop (tBM K "list" rInsert (tVar 9) (tCons (tCall (sp_drawn K G) [] E0 (tCons (tVar 0) (tCons (tOp mAdd (tC (.int 253)) (tVar 8)) (tCons (tOp mAdd (tCB (mLen K) (tCons (tVar 9) tNil)) (tC (.int 1))) tNil)))) (tCons (tCall (sp_drawn K G) [] E0 (tCons (tVar 0) (tCons (tOp mAdd (tC (.int 250)) (tVar 8)) (tCons (tVar 2) tNil)))) tNil))))
    tNext)))
    tNext)
    (t_rows_by_c6 K G E))
def t_rows_by_c3 (K : PySem.W.Frag) (G : Ads) (E : XK) : TS :=
  (tSeq (tAsg (tLst tNil) (gName 3))
    (tSeq (tFor (iRng1 (tCons (tVar 2) tNil)) (gName 4)
    (tSeq (tAsg (tOp mAdd (tC (.int 10)) (tOp mMul (tC (.int 20)) (tVar 4))) (gName 5))
    (tSeq (tAsg (tOp mAdd (tC (.int 1)) (tCall (sp_drawn K G) [] E0 (tCons (tVar 0) (tCons (tVar 5) (tCons (tC (.int 3)) tNil))))) (gName 6))
    (tSeq (tAsg (tOp mAdd (tVar 2) (tC (.int 1))) (gName 7))
    (tSeq (tIfS (tB (tVar 1))
    (tSeq (tAsg (tOp mAdd (tC (.int 1)) (tCall (sp_drawn K G) [] E0 (tCons (tVar 0) (tCons (tVar 5) (tCons (tC (.int 8)) tNil))))) (gName 6))
    (tAsg (tOp mAdd (tVar 4) (tC (.int 1))) (gName 7)))
    tNext)
    (t_rows_by_c4_4 K G E))))))
    (t_rows_by_c5 K G E)))
def t_rows_by (K : PySem.W.Frag) (G : Ads) (E : XK) : TS :=
  (tSeq (tAsg (tOp rEq (tCall (sp_drawn K G) [] E0 (tCons (tVar 0) (tCons (tC (.int 0)) (tCons (tC (.int 4)) tNil)))) (tC (.int 1))) (gName 1))
    (tSeq (tAsg (tOp mAdd (tC (.int 1)) (tCall (sp_drawn K G) [] E0 (tCons (tVar 0) (tCons (tC (.int 1)) (tCons (tC (.int 4)) tNil))))) (gName 2))
    (tSeq (tIfS (tB (tVar 1))
    (tAsg (tOp mAdd (tC (.int 5)) (tCall (sp_drawn K G) [] E0 (tCons (tVar 0) (tCons (tC (.int 2)) (tCons (tC (.int 8)) tNil))))) (gName 2))
    tNext)
    (t_rows_by_c3 K G E))))
abbrev N_rows_by : List Str := ["script", "big", "many", "rows", "k", "at", "size", "top", "j", "row", "gone"]

/-- the k-th row as it is drawn -/
def RowK (big : Bool) (many : Int) (j : Nat) (row : List Int) : Prop := 1 ≤ row.length ∧ (row.length : Int) ≤ (if big = true then 8 else 3) ∧ (∀ g, g ∈ row → -1 ≤ g ∧ g < many) ∧ (∃ g, g ∈ row ∧ g < (j : Int)) ∧ (big = true → ∀ g, g ∈ row → g < (j : Int))
def RowsK (big : Bool) (many : Int) (rows : List (List Int)) : Prop := ∀ j : Nat, j < rows.length → RowK big many j (rows.getD j [])
def ManyOk (big : Bool) (many : Int) : Prop := (big = false ∧ 1 ≤ many ∧ many ≤ 4) ∨ (big = true ∧ 5 ≤ many ∧ many ≤ 12)
theorem RowsK.push {big : Bool} {many : Int} {rows : List (List Int)} {row : List Int} (h : RowsK big many rows) (r : RowK big many rows.length row) : RowsK big many (rows ++ [row]) := fun j hj => by
  rw [List.length_append] at hj
  by_cases e : j < rows.length
  · rw [List.getD_eq_getElem?_getD, List.getElem?_append_left e, ← List.getD_eq_getElem?_getD]
    exact h j e
  · have e2 : j = rows.length := by simp at hj; omega
    subst e2
    rw [List.getD_eq_getElem?_getD, List.getElem?_append_right (Nat.le_refl _), Nat.sub_self]
    exact r
/-- what is known of the rows while exits are put in -/
def RowsJ (big : Bool) (many : Int) (u : Nat) (rows : List (List Int)) : Prop := (rows.length : Int) = many ∧ ManyOk big many ∧ OkRows rows ∧ Down rows ∧ (big = false → ∀ row, row ∈ rows → row.length ≤ 3) ∧ (big = true → upsFrom 0 rows ≤ u)
theorem ups_all : ∀ (k : Nat) (rows : List (List Int)), (∀ j : Nat, j < rows.length → ∀ g, g ∈ rows.getD j [] → g < ((k + j : Nat) : Int)) → upsFrom k rows = 0
  | _, [], _ => rfl
  | k, row :: r, h => by
    show ups k row + upsFrom (k + 1) r = 0
    rw [ups_zero (k := k) (row := row) (fun g hg => h 0 (by simp) g hg), ups_all (k + 1) r fun j hj g hg => by
      have := h (j + 1) (by simpa using hj) g hg
      rw [show k + 1 + j = k + (j + 1) by omega]
      exact this]
theorem mem_getD {rows : List (List Int)} {row : List Int} (h : row ∈ rows) : ∃ j : Nat, j < rows.length ∧ rows.getD j [] = row := by
  obtain ⟨j, hj, e⟩ := List.getElem_of_mem h
  exact ⟨j, hj, by rw [List.getD_eq_getElem?_getD, List.getElem?_eq_getElem hj]; exact e⟩
theorem RowsK.to {big : Bool} {many : Int} {rows : List (List Int)} (h : RowsK big many rows) (hm : ManyOk big many) (e : (rows.length : Int) = many) : RowsJ big many 0 rows := by
  refine ⟨e, hm, ⟨?_, ?_, fun row hr => ?_⟩, fun k hk => (h k hk).2.2.2.1, fun hb row hr => ?_, fun hb => ?_⟩
  · unfold ManyOk at hm; omega
  · unfold ManyOk at hm; omega
  · obtain ⟨j, hj, rfl⟩ := mem_getD hr
    obtain ⟨h1, h2, h3, _⟩ := h j hj
    refine ⟨h1, ?_, fun g hg => ⟨(h3 g hg).1, by rw [e]; exact (h3 g hg).2⟩⟩
    split at h2 <;> omega
  · obtain ⟨j, hj, rfl⟩ := mem_getD hr
    have h2 := (h j hj).2.1
    rw [hb, if_neg (by decide)] at h2
    omega
  · rw [ups_all 0 rows fun j hj g hg => by
      have := (h j hj).2.2.2.2 hb g hg
      rw [Nat.zero_add]
      exact this]
    exact Nat.le_refl _
theorem mem_insert {row : List Int} {i : Nat} {x g : Int} : g ∈ row.take i ++ [x] ++ row.drop i ↔ g = x ∨ g ∈ row := by
  have e : g ∈ row ↔ g ∈ row.take i ∨ g ∈ row.drop i := by rw [← List.mem_append, List.take_append_drop]
  rw [e]
  simp only [List.mem_append, List.mem_singleton]
  constructor
  · rintro ((h | h) | h)
    · exact .inr (.inl h)
    · exact .inl h
    · exact .inr (.inr h)
  · rintro (h | h | h)
    · exact .inl (.inr h)
    · exact .inl (.inl h)
    · exact .inr h
theorem insert_length {row : List Int} {i : Nat} {x : Int} : (row.take i ++ [x] ++ row.drop i).length = row.length + 1 := by
  simp only [List.length_append, List.length_take, List.length_drop, List.length_singleton]
  omega
theorem RowsJ.insert {big : Bool} {many x : Int} {u i k : Nat} {rows : List (List Int)} (h : RowsJ big many u rows) (hb : big = true) (hk : k < rows.length) (h8 : (rows.getD k []).length < 8) (hx : -1 ≤ x ∧ x < many) :
    RowsJ big many (u + 1) (rows.set k ((rows.getD k []).take i ++ [x] ++ (rows.getD k []).drop i)) := by
  obtain ⟨e, hm, ok, dn, sm, up⟩ := h
  refine ⟨by rw [List.length_set]; exact e, hm, ⟨by rw [List.length_set]; exact ok.1, by rw [List.length_set]; exact ok.2.1, fun row hr => ?_⟩, fun j hj => ?_, fun q => ?_, fun _ => ?_⟩
  · rw [List.length_set]
    rcases List.mem_or_eq_of_mem_set hr with hr | rfl
    · exact ok.2.2 row hr
    · refine ⟨by rw [insert_length]; omega, by rw [insert_length]; omega, fun g hg => ?_⟩
      rcases mem_insert.mp hg with rfl | hg
      · omega
      · exact (ok.row hk).2.2 g hg
  · rw [List.length_set] at hj
    rw [getD_set hk]
    obtain ⟨g, hg, hl⟩ := dn j hj
    by_cases q : k = j
    · subst q
      rw [if_pos rfl]
      exact ⟨g, mem_insert.mpr (.inr hg), hl⟩
    · rw [if_neg q]
      exact ⟨g, hg, hl⟩
  · rw [hb] at q
    cases q
  · have h1 := upsFrom_set 0 rows k ((rows.getD k []).take i ++ [x] ++ (rows.getD k []).drop i) hk
    have h2 := ups_insert (k := 0 + k) (rows.getD k []) i x
    have h3 := up hb
    omega
theorem RowsJ.mono {big : Bool} {many : Int} {u u' : Nat} {rows : List (List Int)} (h : RowsJ big many u rows) (hu : u ≤ u') : RowsJ big many u' rows :=
  ⟨h.1, h.2.1, h.2.2.1, h.2.2.2.1, h.2.2.2.2.1, fun b => Nat.le_trans (h.2.2.2.2.2 b) hu⟩
theorem RowsJ.k0 {big : Bool} {many : Int} {rows : List (List Int)} (h : RowsJ big many 3 rows) : K0 rows := by
  obtain ⟨e, hm, ok, dn, sm, up⟩ := h
  refine ⟨ok, dn, ?_⟩
  cases big with
  | true => exact .inr (up rfl)
  | false =>
    refine .inl ⟨?_, sm rfl⟩
    unfold ManyOk at hm
    simp at hm
    omega
section
variable {K : PySem.W.Frag} {G : Ads} {H : Hp} {Q : VK} {E : XK} {a : Addr} {ns : List Int}
/-- the end: rows turned about or not -/
theorem rows_by_c6 (hS : SqL K H a (ns.map V.int)) (q : ∀ (p : Addr) (rows : List (List Int)) (H' : Hp), Shape rows → Same H H' → NewRows H H' p rows → Q (.ref p) H')
    {big : Bool} {many : Int} {ro : Addr} {as : List Addr} {rows : List (List Int)} {H1 : Hp} {v4 v5 v6 v7 v8 v9 : Option V} (e : as.length = rows.length) (hr : RowsJ big many 3 rows) (led : Led H (rowLed ro as rows) H1) :
    t_rows_by_c6 K G E { nx := fun _ H' => Q .non H', rt := Q } [some (.ref a), some (.bl big), some (.int many), some (.ref ro), v4, v5, v6, v7, v8, v9, none] H1 := by
  have hm := hr.1
  unfold t_rows_by_c6
  walk_at "g"
  refine c_drawn (by walk_at "sq") (by walk_at "ar") (by walk_at "ar") (by walk_at "ar") fun d h0 h1 => ?_
  walk_at "g"
  refine ifP (fun h => ?_) (fun h => ?_)
  · walk_at "g"
    have R := led.rowAt e
    obtain ⟨bs, s1, e1, at1⟩ := R.sq (K := K)
    refine g_lstv s1 ?_
    have hbl : (bs.map V.ref).length = rows.length := by rw [List.length_map, e1]
    have hn12 := hr.2.2.1.2.1
    refine lcVRows (fun rs => ∀ k : Nat, k < rs.length → rs.getD k [] = (flipRows rows).getD k []) (fun k hk => by simp at hk) (by rw [hbl]; omega) s1 (fun _ => rfl) (fun D k v cs rs H2 S hk hx el p l2 qs => ?_) (fun D rs H2 el p s2 n2 => ?_)
    · rw [hbl] at hk
      rw [hbl] at hx
      obtain ⟨r, rfl, hk2, hr2⟩ := at1 _ _ hx
      walk_at "g"
      refine lcLI (fun zs => zs = ((rows.getD (rows.length - 1 - k) []).map (fun g => other g rows.length)).take zs.length) rfl (by rw [List.length_map]; have := (hr.2.2.1.row hk2).2.1; omega) (l2.base hr2) (fun _ => rfl) (fun D2 j v zs H3 S3 hx3 el3 p3 l3 qs3 => ?_) (fun D2 zs H3 nD2 el3 p3 s3 hD2 => ?_)
      · obtain ⟨g, hg, rfl⟩ : ∃ g, (rows.getD (rows.length - 1 - k) [])[j]? = some g ∧ v = V.int g := by
          rw [List.getElem?_map] at hx3
          cases z : (rows.getD (rows.length - 1 - k) [])[j]? with
          | none =>
            rw [z] at hx3
            cases hx3
          | some g =>
            rw [z] at hx3
            exact ⟨g, rfl, (Option.some.inj hx3).symm⟩
        walk_at "g"
        refine c_other (qs3 _ _ ?_ l3)
        rw [List.length_append, el3]
        show zs ++ [other g many] = List.take (j + 1) _
        rw [List.take_add_one, List.getElem?_map, hg, ← el3, ← p3, hm]
        rfl
      · rw [List.length_map] at el3
        refine qs D2 zs H3 (fun m hm2 => ?_) (l2.add s3 nD2 hD2)
        rw [List.length_append] at hm2
        by_cases z : m < rs.length
        · rw [List.getD_eq_getElem?_getD, List.getElem?_append_left z, ← List.getD_eq_getElem?_getD]
          exact p m z
        · have e2 : m = rs.length := by simp at hm2; omega
          subst e2
          rw [List.getD_eq_getElem?_getD, List.getElem?_append_right (Nat.le_refl _), Nat.sub_self, el, flip_at hk]
          show zs = _
          rw [p3, el3, ← List.length_map (f := fun g => other g rows.length), List.take_length]
    · rw [hbl] at el
      have er : rs = flipRows rows := rows_ext (by rw [flip_length]; exact el) p
      walk_at "g"
      unfold t_rows_by_c7
      walk_at "g"
      refine q D rs H2 ⟨rows, hr.k0, .inr er⟩ (led.same.trans s2) (n2.back led.same)
  · walk_at "g"
    unfold t_rows_by_c7
    walk_at "g"
    exact q ro rows H1 ⟨rows, hr.k0, .inl rfl⟩ led.same (led.rowNew e)
end
/-- exits put in -/
theorem rows_by_c5 {K : PySem.W.Frag} {G : Ads} {H : Hp} {Q : VK} {E : XK} {a : Addr} {ns : List Int} (hS : SqL K H a (ns.map V.int)) (q : ∀ (p : Addr) (rows : List (List Int)) (H' : Hp), Shape rows → Same H H' → NewRows H H' p rows → Q (.ref p) H')
    {big : Bool} {many : Int} {ro : Addr} {as : List Addr} {rows : List (List Int)} {H1 : Hp} {v4 v5 v6 v7 v8 v9 : Option V} (e : as.length = rows.length) (hr : RowsJ big many 0 rows) (led : Led H (rowLed ro as rows) H1) :
    t_rows_by_c5 K G E { nx := fun _ H' => Q .non H', rt := Q } [some (.ref a), some (.bl big), some (.int many), some (.ref ro), v4, v5, v6, v7, v8, v9, none] H1 := by
  unfold t_rows_by_c5
  walk_at "g"
  refine ifC (fun hb => ?_) (fun hb => ?_)
  · walk_at "g"
    refine c_drawn (by walk_at "sq") (by walk_at "ar") (by walk_at "ar") (by walk_at "ar") fun d h0 h1 => ?_
    walk_at "g"
    refine ifP (fun h => ?_) (fun h => ?_)
    · walk_at "g"
      refine loopR (fun u σ H2 => ∃ (rows' : List (List Int)) (v8 v9 : Option V), σ = [some (.ref a), some (.bl big), some (.int many), some (.ref ro), v4, v5, v6, v7, v8, v9, none] ∧ as.length = rows'.length ∧ RowsJ big many u rows' ∧ Led H (rowLed ro as rows') H2)
        ⟨rows, _, _, rfl, e, hr, led⟩ ?_ ?_
      · rintro u σ H2 hu ⟨rows', v8', v9', rfl, e', hr', led'⟩
        have hmany : (rows'.length : Int) = many := hr'.1
        have hm12 := hr'.2.2.1
        have h1l := hm12.1
        walk_at "g"
        refine c_drawn (by walk_at "sq") (by walk_at "ar") (by walk_at "ar") (by walk_at "ar") fun d2 h2 h3 => ?_
        walk_at "g"
        have R := led'.rowAt e'
        have hd2 : d2.toNat < rows'.length := by omega
        obtain ⟨r, hr1⟩ : ∃ r, as[d2.toNat]? = some r := ⟨_, List.getElem?_eq_getElem (by omega)⟩
        have hrow : rows'[d2.toNat]? = some (rows'.getD d2.toNat []) := by rw [List.getD_eq_getElem?_getD, List.getElem?_eq_getElem hd2]; rfl
        have hz : (rowLed ro as rows')[d2.toNat + 1]? = some (r, ilst (rows'.getD d2.toNat [])) := zip_at hr1 hrow
        have hsr : SqL K H2 r ((rows'.getD d2.toNat []).map V.int) := led'.sq _ hz
        refine ⟨ro, as.map V.ref, d2, .ref r, rfl, rfl, led'.sq 0 rfl, at_of (j := d2.toNat) (by omega) (by rw [List.getElem?_map, hr1]; rfl), ?_⟩
        walk_at "g"
        refine ifP (fun h8 => ?_) (fun h8 => ?_)
        · walk_at "g"
          refine c_drawn (by walk_at "sq") (by walk_at "ar") (by walk_at "ar") (by walk_at "ar") fun d3 h4 h5 => ?_
          walk_at "g"
          refine c_drawn (by walk_at "sq") (by walk_at "ar") (by walk_at "ar") (by walk_at "ar") fun d4 h6 h7 => ?_
          walk_at "g"
          have h8' : (rows'.getD d2.toNat []).length < 8 := by omega
          refine g_ins led' (d2.toNat + 1) hz (by omega) (by omega) (by omega) fun H3 led3 => ?_
          walk_at "g"
          have e3 : (rowLed ro as rows').set (d2.toNat + 1) (r, ilst ((rows'.getD d2.toNat []).take d3.toNat ++ [d4] ++ (rows'.getD d2.toNat []).drop d3.toNat)) = rowLed ro as (rows'.set d2.toNat ((rows'.getD d2.toNat []).take d3.toNat ++ [d4] ++ (rows'.getD d2.toNat []).drop d3.toNat)) := by
            show (ro, HO.lst (as.map V.ref)) :: (List.zipWith (fun a row => (a, ilst row)) as rows').set d2.toNat _ = _
            rw [rowLed]
            congr 1
            apply List.ext_getElem?
            intro j
            rw [List.getElem?_zipWith]
            by_cases z : d2.toNat = j
            · subst z
              rw [List.getElem?_set_self (by rw [List.length_zipWith]; omega), List.getElem?_set_self hd2, hr1]
            · rw [List.getElem?_set_ne z, List.getElem?_set_ne z, List.getElem?_zipWith]
          rw [e3] at led3
          exact ⟨_, _, _, rfl, by rw [List.length_set]; exact e', hr'.insert hb hd2 h8' (by omega), led3⟩
        · walk_at "g"
          exact ⟨rows', _, _, rfl, e', hr'.mono (Nat.le_succ _), led'⟩
      · rintro σ H2 ⟨rows', v8', v9', rfl, e', hr', led'⟩
        exact rows_by_c6 (E := E) hS q e' hr' led'
    · walk_at "g"
      exact rows_by_c6 (E := E) hS q e (hr.mono (by decide)) led
  · walk_at "g"
    exact rows_by_c6 (E := E) hS q e (hr.mono (by decide)) led
/-- one row drawn -/
theorem rows_by_c4_4 {K : PySem.W.Frag} {G : Ads} {H H2 : Hp} {E : XK} {D : Ends} {a ro : Addr} {ns : List Int} (hS : SqL K H a (ns.map V.int)) {big : Bool} {many size top : Int} {k : Nat} {as : List Addr} {rows : List (List Int)} {v9 : Option V}
    (hm : ManyOk big many) (hk : (k : Int) < many) (hs1 : 1 ≤ size) (hs2 : size ≤ (if big = true then 8 else 3)) (ht : top = (if big = true then (k : Int) + 1 else many + 1)) (e : as.length = rows.length) (el : rows.length = k) (hr : RowsK big many rows) (led : Led H (rowLed ro as rows) H2)
    (nx : ∀ (as' : List Addr) (rows' : List (List Int)) (v9 : Option V) (H3 : Hp), as'.length = rows'.length → rows'.length = k + 1 → RowsK big many rows' → Led H (rowLed ro as' rows') H3 → D.nx [some (.ref a), some (.bl big), some (.int many), some (.ref ro), some (.int (0 + k)), some (.int (10 + 20 * (0 + k))), some (.int size), some (.int top), none, v9, none] H3) :
    t_rows_by_c4_4 K G E D [some (.ref a), some (.bl big), some (.int many), some (.ref ro), some (.int (0 + k)), some (.int (10 + 20 * (0 + k))), some (.int size), some (.int top), none, v9, none] H2 := by
  have hm2 : many ≤ 12 := by unfold ManyOk at hm; omega
  have hsz : size ≤ 8 := by split at hs2 <;> omega
  have htop : 1 ≤ top ∧ top ≤ many + 1 := by split at ht <;> omega
  have ht2 : big = true → top = (k : Int) + 1 := fun b => by rw [ht, if_pos b]
  unfold t_rows_by_c4_4
  walk_at "g"
  refine lcRI (fun ns => ∀ g, g ∈ ns → -1 ≤ g ∧ g < top - 1) (fun g hg => by simp at hg) (by omega) (fun _ => rfl) (fun D2 j zs H3 R hj ez pz lz qz => ?_) (fun D2 zs H3 nD ez pz sm hD => ?_)
  · walk_at "g"
    refine c_drawn (lz.base (led.base hS)) (by walk_at "ar") (by walk_at "ar") (by walk_at "ar") fun d h0 h1 => ?_
    walk_at "g"
    refine qz _ _ (fun g hg => ?_) lz
    rcases List.mem_append.mp hg with hg | hg
    · exact pz g hg
    · simp at hg
      omega
  · have led3 := led.add sm nD hD
    have hl : (rowLed ro as rows).length = k + 1 := by rw [rowLed, List.length_cons, List.length_zipWith, e, Nat.min_self, el]
    have hz : (rowLed ro as rows ++ [(D2, ilst zs)])[k + 1]? = some (D2, ilst zs) := by rw [← hl, List.getElem?_append_right (Nat.le_refl _), Nat.sub_self]; rfl
    have hzl : (zs.length : Int) = size := by omega
    walk_at "g"
    refine c_drawn (led3.base hS) (by walk_at "ar") (by walk_at "ar") (by walk_at "ar") fun d1 h0 h1 => ?_
    walk_at "g"
    refine c_drawn (led3.base hS) (by walk_at "ar") (by walk_at "ar") (by walk_at "ar") fun d2 h2 h3 => ?_
    walk_at "g"
    refine g_setL led3 (k + 1) hz (by omega) (by omega) fun H4 led4 => ?_
    rw [List.set_append_right _ _ (by omega), hl, Nat.sub_self] at led4
    have led4 : Led H (rowLed ro as rows ++ [(D2, ilst (zs.set d2.toNat (d1 - 1)))]) H4 := led4
    walk_at "g"
    refine g_app led4 0 (p := ro) (xs := as.map V.ref) rfl (by rw [List.length_map]; omega) fun H5 led5 => ?_
    rw [rowLed_push e] at led5
    walk_at "g"
    refine nx _ _ _ _ (by simp [e]) (by simp [el]) (hr.push ?_) led5
    rw [el]
    have hd2 : d2.toNat < zs.length := by omega
    refine ⟨by rw [List.length_set]; omega, by rw [List.length_set, hzl]; exact hs2, fun g hg => ?_, ⟨d1 - 1, ?_, by omega⟩, fun b g hg => ?_⟩
    · rcases List.mem_or_eq_of_mem_set hg with hg | rfl
      · have := pz g hg
        omega
      · omega
    · exact List.mem_of_getElem? (List.getElem?_set_self hd2)
    · have := ht2 b
      rcases List.mem_or_eq_of_mem_set hg with hg | rfl
      · have := pz g hg
        omega
      · omega
/-- the rows one by one -/
theorem rows_by_c3 {K : PySem.W.Frag} {G : Ads} {H : Hp} {Q : VK} {E : XK} {a : Addr} {ns : List Int} (hS : SqL K H a (ns.map V.int)) (q : ∀ (p : Addr) (rows : List (List Int)) (H' : Hp), Shape rows → Same H H' → NewRows H H' p rows → Q (.ref p) H')
    {big : Bool} {many : Int} (hm : ManyOk big many) :
    t_rows_by_c3 K G E { nx := fun _ H' => Q .non H', rt := Q } [some (.ref a), some (.bl big), some (.int many), none, none, none, none, none, none, none, none] H := by
  have hm1 : 1 ≤ many := by unfold ManyOk at hm; omega
  have hm2 : many ≤ 12 := by unfold ManyOk at hm; omega
  unfold t_rows_by_c3
  walk_at "g"
  refine ⟨by decide, fun ro nro => ?_⟩
  walk_at "g"
  refine loopR (fun k σ H2 => ∃ (as : List Addr) (rows : List (List Int)) (v4 v5 v6 v7 v9 : Option V), σ = [some (.ref a), some (.bl big), some (.int many), some (.ref ro), v4, v5, v6, v7, none, v9, none] ∧ as.length = rows.length ∧ rows.length = k ∧ RowsK big many rows ∧ Led H (rowLed ro as rows) H2)
    ⟨[], [], _, _, _, _, _, rfl, rfl, rfl, fun j hj => by simp at hj, (Led.nil H).alloc nro _⟩ ?_ ?_
  · rintro k σ H2 hk ⟨as, rows, v4, v5, v6, v7, v9, rfl, e, el, hr, led⟩
    walk_at "g"
    refine c_drawn (by walk_at "sq") (by walk_at "ar") (by walk_at "ar") (by walk_at "ar") fun d1 h0 h1 => ?_
    walk_at "g"
    refine ifC (fun hb => ?_) (fun hb => ?_)
    · walk_at "g"
      refine c_drawn (by walk_at "sq") (by walk_at "ar") (by walk_at "ar") (by walk_at "ar") fun d2 h2 h3 => ?_
      walk_at "g"
      exact rows_by_c4_4 (E := E) hS hm (by omega) (by omega) (by rw [if_pos hb]; omega) (by rw [if_pos hb]; omega) e el hr led fun as' rows' v9 H3 e1 e2 e3 e4 => ⟨as', rows', _, _, _, _, _, rfl, e1, e2, e3, e4⟩
    · walk_at "g"
      exact rows_by_c4_4 (E := E) hS hm (by omega) (by omega) (by rw [if_neg (by rw [hb]; decide)]; omega) (by rw [if_neg (by rw [hb]; decide)]) e el hr led fun as' rows' v9 H3 e1 e2 e3 e4 => ⟨as', rows', _, _, _, _, _, rfl, e1, e2, e3, e4⟩
  · rintro σ H2 ⟨as, rows, v4, v5, v6, v7, v9, rfl, e, el, hr, led⟩
    exact rows_by_c5 (E := E) hS q e (hr.to hm (by omega)) led
theorem pure_rows_by {K : PySem.W.Frag} {G : Ads} {vs H Q E} (h : sp_rows_by K G vs H Q E) : t_rows_by K G E { nx := fun _ H' => Q .non H', rt := Q } (start N_rows_by vs) H := by
  unfold sp_rows_by at h
  obtain ⟨a, ns, rfl, hS, q⟩ := h
  show t_rows_by K G E _ [some (.ref a), none, none, none, none, none, none, none, none, none, none] H
  unfold t_rows_by
  walk_at "g"
  refine c_drawn (by walk_at "sq") (by walk_at "ar") (by walk_at "ar") (by walk_at "ar") fun d1 h0 h1 => ?_
  walk_at "g"
  refine c_drawn (by walk_at "sq") (by walk_at "ar") (by walk_at "ar") (by walk_at "ar") fun d2 h2 h3 => ?_
  walk_at "g"
  refine ifC (fun hb => ?_) (fun hb => ?_)
  · walk_at "g"
    refine c_drawn (by walk_at "sq") (by walk_at "ar") (by walk_at "ar") (by walk_at "ar") fun d3 h4 h5 => ?_
    walk_at "g"
    exact rows_by_c3 (E := E) hS q (.inr ⟨hb, by omega, by omega⟩)
  · walk_at "g"
    exact rows_by_c3 (E := E) hS q (.inl ⟨hb, by omega, by omega⟩)

@[irreducible] def sp_checked (_ : PySem.W.Frag) (G : Ads) : Sp := fun vs H Q E => ∃ (p : Addr) (rows : List (List Int)), vs = [.ref p] ∧ RowsAt H p rows ∧ rows.length ≤ 10000 ∧ (∀ row, row ∈ rows → row.length ≤ 10000) ∧
  ((rows.length < 1 ∨ 12 < rows.length) → E (.ref G.NoSite) none H) ∧ (1 ≤ rows.length → rows.length ≤ 12 → ¬ OkRows rows → E (.ref G.NoExit) none H) ∧
  (OkRows rows → ∀ (D : Addr) (H' : Hp), Same H H' → NewRows H H' D rows → Q (.ref D) H')
theorem len_checked {K : PySem.W.Frag} {G : Ads} {vs H Q E} (h : sp_checked K G vs H Q E) : vs.length = 1 := by
  unfold sp_checked at h
  obtain ⟨a, ns, rfl, _⟩ := h
  rfl
def t_checked (K : PySem.W.Frag) (G : Ads) (E : XK) : TS :=
  (tSeq (tIfS (tOr (tTest (tOp mLt (tCB (mLen K) (tCons (tVar 0) tNil)) (tC (.int 1)))) (tTest (tOp mGt (tCB (mLen K) (tCons (tVar 0) tNil)) (tC (.int 12)))))
    (tRaise E G.NoSite)
    tNext)
    (tSeq (tFor (iList K (tVar 0)) (gName 1)
    (tSeq (tIfS (tOr (tTest (tOp mLt (tCB (mLen K) (tCons (tVar 1) tNil)) (tC (.int 1)))) (tTest (tOp mGt (tCB (mLen K) (tCons (tVar 1) tNil)) (tC (.int 8)))))
    (tRaise E G.NoExit)
    tNext)
    (tFor (iList K (tVar 1)) (gName 2)
    (tIfS (tOr (tTest (tOp mLt (tVar 2) (tC (.int (-1))))) (tTest (tOp mGe (tVar 2) (tCB (mLen K) (tCons (tVar 0) tNil)))))
    (tRaise E G.NoExit)
    tNext))))
    (tRet (tLc (iList K (tVar 0)) (gName 1) tYes (tCB (mList K) (tCons (tVar 1) tNil)) [1]))))
abbrev N_checked : List Str := ["rows", "row", "gone"]

theorem pure_checked {K : PySem.W.Frag} {G : Ads} {vs H Q E} (h : sp_checked K G vs H Q E) : t_checked K G E { nx := fun _ H' => Q .non H', rt := Q } (start N_checked vs) H := by
  unfold sp_checked at h
  obtain ⟨p, rows, rfl, R, hn, hn2, q1, q2, q3⟩ := h
  show t_checked K G E _ [some (.ref p), none, none] H
  unfold t_checked
  walk_at "g"
  refine ifP (fun h => ?_) (fun h => ?_)
  · walk_at "g"
    exact q1 (.inl (by omega))
  walk_at "g"
  refine ifP (fun h2 => ?_) (fun h2 => ?_)
  · walk_at "g"
    exact q1 (.inr (by omega))
  walk_at "g"
  refine loopRows (fun k σ H' => ∃ v1 v2 : Option V, σ = [some (.ref p), v1, v2] ∧ H' = H ∧ ∀ j : Nat, j < k → OkRow rows.length (rows.getD j [])) ⟨_, _, rfl, rfl, fun j hj => by omega⟩ R (fun k σ H' ⟨_, _, _, e, _⟩ => by rw [e]; exact Same.refl H) ?_ ?_
  · rintro k r σ H' hk ⟨v1, v2, rfl, rfl, ok⟩ hr
    have hrl := hn2 _ (getD_mem (d := []) hk)
    walk_at "g"
    refine ifP (fun h => ?_) (fun h => ?_)
    · walk_at "g"
      exact q2 (by omega) (by omega) fun o => by have := (o.row hk).1; omega
    walk_at "g"
    refine ifP (fun h2 => ?_) (fun h2 => ?_)
    · walk_at "g"
      exact q2 (by omega) (by omega) fun o => by have := (o.row hk).2.1; omega
    walk_at "g"
    refine loopI (ns := rows.getD k []) (fun j σ H2 => ∃ v2 : Option V, σ = [some (.ref p), some (.ref r), v2] ∧ H2 = H' ∧ ∀ i : Nat, i < j → -1 ≤ (rows.getD k []).getD i 0 ∧ (rows.getD k []).getD i 0 < rows.length) ⟨_, rfl, rfl, fun i hi => by omega⟩ (fun j σ H2 _ ⟨_, _, e, _⟩ => by rw [e]; exact hr) ?_ ?_
    · rintro j σ H2 hj ⟨v2, rfl, rfl, ok2⟩
      walk_at "g"
      refine ifP (fun h => ?_) (fun h => ?_)
      · walk_at "g"
        exact q2 (by omega) (by omega) fun o => by have := o.exit hk hj; omega
      walk_at "g"
      refine ifP (fun h2 => ?_) (fun h2 => ?_)
      · walk_at "g"
        exact q2 (by omega) (by omega) fun o => by have := o.exit hk hj; omega
      walk_at "g"
      refine ⟨_, rfl, rfl, fun i hi => ?_⟩
      by_cases z : i = j
      · subst z
        omega
      · exact ok2 i (by omega)
    · rintro σ H2 ⟨v2, rfl, rfl, ok2⟩
      refine ⟨_, _, rfl, rfl, fun j hj => ?_⟩
      by_cases z : j = k
      · subst z
        refine ⟨by omega, by omega, fun g hg => ?_⟩
        obtain ⟨i, hi, rfl⟩ := List.getElem_of_mem hg
        have := ok2 i hi
        rw [List.getD_eq_getElem?_getD, List.getElem?_eq_getElem hi] at this
        exact this
      · exact ok j (by omega)
  · rintro σ H' ⟨v1, v2, rfl, rfl, ok⟩
    have okr : OkRows rows := ⟨by omega, by omega, fun row hr => by
      obtain ⟨j, hj, e⟩ := List.getElem_of_mem hr
      have := ok j hj
      rw [List.getD_eq_getElem?_getD, List.getElem?_eq_getElem hj] at this
      rw [← e]
      exact this⟩
    walk_at "g"
    exact lcCopy R (by omega) (fun _ => rfl) (fun _ => rfl) fun D H1 s n => q3 okr D H1 s n

/-- what __init__ leaves: the instance b filled, all else as it was -/
def InitBd (C : Addr) (H H' : Hp) (b dx r t l s : Addr) (rows : List (List Int)) : Prop := ∃ B1, (∀ q o, H q = some o → q ≠ b → B1 q = some o) ∧ NewRows H B1 r rows ∧
  Led B1 (bl C b dx r t l s (List.replicate rows.length 0) (List.replicate rows.length 0) (List.replicate rows.length 0) 0) H'
@[irreducible] def sp_Board_init (_ : PySem.W.Frag) (G : Ads) : Sp := fun vs H Q E => ∃ (b dx p : Addr) (rows : List (List Int)), vs = [.ref b, .ref p] ∧ H b = some (.ins G.Board dx []) ∧ RowsAt H p rows ∧ rows.length ≤ 10000 ∧ (∀ row, row ∈ rows → row.length ≤ 10000) ∧
  ((rows.length < 1 ∨ 12 < rows.length) → E (.ref G.NoSite) none H) ∧ (1 ≤ rows.length → rows.length ≤ 12 → ¬ OkRows rows → E (.ref G.NoExit) none H) ∧
  (OkRows rows → ∀ (r t l s : Addr) (H' : Hp), InitBd G.Board H H' b dx r t l s rows → Q .non H')
theorem len_Board_init {K : PySem.W.Frag} {G : Ads} {vs H Q E} (h : sp_Board_init K G vs H Q E) : vs.length = 2 := by
  unfold sp_Board_init at h
  obtain ⟨b, dx, p, rows, rfl, _⟩ := h
  rfl
/-- Board(rows) -/
theorem c_Board {K : PySem.W.Frag} {G : Ads} {H : Hp} {QB : Addr → Hp → Prop} {E : XK} {p : Addr} {rows : List (List Int)} (R : RowsAt H p rows) (hn : rows.length ≤ 10000) (hn2 : ∀ row, row ∈ rows → row.length ≤ 10000)
    (q1 : (rows.length < 1 ∨ 12 < rows.length) → ∀ H', Same H H' → E (.ref G.NoSite) none H') (q2 : 1 ≤ rows.length → rows.length ≤ 12 → ¬ OkRows rows → ∀ H', Same H H' → E (.ref G.NoExit) none H')
    (q3 : OkRows rows → ∀ (b dx r t l s : Addr) (H' : Hp), NewB G.Board H H' b dx r t l s rows (List.replicate rows.length 0) (List.replicate rows.length 0) (List.replicate rows.length 0) 0 → QB b H') :
    ∀ x dx, H x = none → H dx = none → dx ≠ x → sp_Board_init K G [.ref x, .ref p] (upd (upd H dx (.own x)) x (.ins G.Board dx [])) (fun v H2 => v = .non ∧ QB x H2) E := by
  intro b dx nb ndx ne
  have s0 : Same H (upd (upd H dx (.own b)) b (.ins G.Board dx [])) := fun q o e => by
    rw [upd_ne (ne_of_none e nb), upd_ne (ne_of_none e ndx)]
    exact e
  unfold sp_Board_init
  refine ⟨b, dx, p, rows, rfl, upd_same, R.mono s0, hn, hn2, fun h => q1 h _ s0, fun h1 h2 h3 => q2 h1 h2 h3 _ s0, fun ok r t l s H' I => ⟨rfl, q3 ok b dx r t l s H' ?_⟩⟩
  obtain ⟨B1, kp, nr, led⟩ := I
  exact ⟨B1, fun q o e => kp q o (s0 q o e) (ne_of_none e nb), nr.back s0, led⟩
def t_Board_init (K : PySem.W.Frag) (G : Ads) (E : XK) : TS :=
  (tSeq (sFld K (tVar 0) (tCall (sp_checked K G) [] E (tCons (tVar 1) tNil)) "rows")
    (tSeq (sFld K (tVar 0) (tLc (iList K (tVar 1)) (gName 2) tYes (tC (.int 0)) [2]) "turns")
    (tSeq (sFld K (tVar 0) (tLc (iList K (tVar 1)) (gName 2) tYes (tC (.int 0)) [2]) "loads")
    (tSeq (sFld K (tVar 0) (tLc (iList K (tVar 1)) (gName 2) tYes (tC (.int 0)) [2]) "steps")
    (sFld K (tVar 0) (tC (.int 0)) "taken")))))
abbrev N_Board_init : List Str := ["self", "rows", "row"]

theorem pure_Board_init {K : PySem.W.Frag} {G : Ads} {vs H Q E} (bd : BdOk K G) (h : sp_Board_init K G vs H Q E) : t_Board_init K G E { nx := fun _ H' => Q .non H', rt := Q } (start N_Board_init vs) H := by
  unfold sp_Board_init at h
  obtain ⟨b, dx, p, rows, rfl, hb, R, hn, hn2, q1, q2, q3⟩ := h
  show t_Board_init K G E _ [some (.ref b), some (.ref p), none] H
  unfold t_Board_init
  obtain ⟨B, led, keep⟩ := Led.one hb
  walk_at "g"
  unfold sp_checked
  refine ⟨p, rows, rfl, R, hn, hn2, q1, q2, fun ok r H1 s1 n1 => ?_⟩
  obtain ⟨B2, sB, nR, led2⟩ := led.rows s1 n1
  have R1 : RowsAt H1 p rows := R.mono s1
  walk_at "g"
  refine g_put led2 0 rfl bd.cl bd.n_rows (by show 0 < 1000; decide) rfl fun H2 led3 => ?_
  -- the rows that were handed in stand in the base, for they are lists
  have RB : RowsAt B2 p rows := by
    obtain ⟨as, e1, e2, e3⟩ := R
    refine ⟨as, sB _ _ (keep _ _ e1 (ne_of e1 hb (by intro z; cases z))), e2, fun i a row h1 h2 => sB _ _ (keep _ _ (e3 i a row h1 h2) (ne_of (e3 i a row h1 h2) hb (by intro z; cases z)))⟩
  have hlen : rows.length ≤ 100000 := by omega
  walk_at "g"
  refine lcRows0 (led3.ra RB) hlen (fun _ => rfl) fun t H3 nt st et => ?_
  have led4 := led3.add st nt et
  walk_at "g"
  refine g_put led4 0 rfl bd.cl bd.n_turns (by show 1 < 1000; decide) rfl fun H4 led5 => ?_
  walk_at "g"
  refine lcRows0 (led5.ra RB) hlen (fun _ => rfl) fun l H5 nl sl el => ?_
  have led6 := led5.add sl nl el
  walk_at "g"
  refine g_put led6 0 rfl bd.cl bd.n_loads (by show 2 < 1000; decide) rfl fun H6 led7 => ?_
  walk_at "g"
  refine lcRows0 (led7.ra RB) hlen (fun _ => rfl) fun s H7 ns ss es => ?_
  have led8 := led7.add ss ns es
  walk_at "g"
  refine g_put led8 0 rfl bd.cl bd.n_steps (by show 3 < 1000; decide) rfl fun H8 led9 => ?_
  walk_at "g"
  refine g_put led9 0 rfl bd.cl bd.n_taken (by show 4 < 1000; decide) bf_made fun H9 led10 => ?_
  walk_at "g"
  exact q3 ok r t l s H9 ⟨B2, fun q o e n => sB _ _ (keep q o e n), nR, led10⟩

@[irreducible] def sp_Board_has_site (_ : PySem.W.Frag) (G : Ads) : Sp := fun vs H Q _ => ∃ (b dx r t l s : Addr) (tk at_ : Int) (rows : List (List Int)), vs = [.ref b, .int at_] ∧ H b = some (.ins G.Board dx (bf r t l s tk)) ∧ RowsAt H r rows ∧
  Q (.bl (decide (0 ≤ at_ ∧ at_ < rows.length))) H
theorem len_Board_has_site {K : PySem.W.Frag} {G : Ads} {vs H Q E} (h : sp_Board_has_site K G vs H Q E) : vs.length = 2 := by
  unfold sp_Board_has_site at h
  obtain ⟨b, dx, r, t, l, s, tk, a, rows, rfl, _⟩ := h
  rfl
theorem c_has_site {K : PySem.W.Frag} {G : Ads} {H : Hp} {Q : VK} {E : XK} {b dx r t l s : Addr} {tk at_ : Int} {rows : List (List Int)} (e : H b = some (.ins G.Board dx (bf r t l s tk))) (R : RowsAt H r rows) (q : Q (.bl (decide (0 ≤ at_ ∧ at_ < rows.length))) H) :
    sp_Board_has_site K G [.ref b, .int at_] H Q E := by
  unfold sp_Board_has_site
  exact ⟨b, dx, r, t, l, s, tk, at_, rows, rfl, e, R, q⟩
def t_Board_has_site (K : PySem.W.Frag) (G : Ads) (E : XK) : TS :=
  (tRet (tAndV (tOp mLe (tC (.int 0)) (tVar 1)) (tOp mLt (tVar 1) (tCB (mLen K) (tCons (tFld K (tVar 0) "rows") tNil)))))
abbrev N_Board_has_site : List Str := ["self", "at"]

theorem pure_Board_has_site {K : PySem.W.Frag} {G : Ads} {vs H Q E} (bd : BdOk K G) (h : sp_Board_has_site K G vs H Q E) : t_Board_has_site K G E { nx := fun _ H' => Q .non H', rt := Q } (start N_Board_has_site vs) H := by
  unfold sp_Board_has_site at h
  obtain ⟨b, dx, r, t, l, s, tk, a, rows, rfl, e, R, q⟩ := h
  show t_Board_has_site K G E _ [some (.ref b), some (.int a)] H
  unfold t_Board_has_site
  walk_at "g"
  refine ifP (fun h => ?_) (fun h => ?_)
  · walk_at "g"
    refine g_bfld e bd.cl bd.n_rows bf_rows ?_
    walk_at "g"
    have e2 : decide (a < (rows.length : Int)) = decide (0 ≤ a ∧ a < rows.length) := decide_eq_decide.mpr ⟨fun z => ⟨h, z⟩, fun z => z.2⟩
    rw [e2]
    exact q
  · walk_at "g"
    have e2 : decide (0 ≤ a ∧ a < (rows.length : Int)) = false := decide_eq_false fun z => h z.1
    rw [e2] at q
    exact q

@[irreducible] def sp_Board_turn_to (_ : PySem.W.Frag) (G : Ads) : Sp := fun vs H Q E => ∃ (B : Hp) (L : List (Addr × HO)) (i : Nat) (b dx r t l s : Addr) (rows : List (List Int)) (turns loads steps : List Int) (taken at_ place : Int),
  vs = [.ref b, .int at_, .int place] ∧ Led B L H ∧ LB G.Board B L i b dx r t l s rows turns loads steps taken ∧ turns.length = rows.length ∧
  (¬ (0 ≤ at_ ∧ at_ < rows.length) → E (.ref G.NoSite) none H) ∧ (0 ≤ at_ → at_ < rows.length → ¬ (0 ≤ place ∧ place < (rows.getD at_.toNat []).length) → E (.ref G.NoPlace) none H) ∧
  (0 ≤ at_ → at_ < rows.length → 0 ≤ place → place < (rows.getD at_.toNat []).length → ∀ H', Led B (L.set (i + 1) (t, ilst (turns.set at_.toNat place))) H' → Q .non H')
theorem len_Board_turn_to {K : PySem.W.Frag} {G : Ads} {vs H Q E} (h : sp_Board_turn_to K G vs H Q E) : vs.length = 3 := by
  unfold sp_Board_turn_to at h
  obtain ⟨_, _, _, _, _, _, _, _, _, _, _, _, _, _, _, _, rfl, _⟩ := h
  rfl
theorem c_turn_to {K : PySem.W.Frag} {G : Ads} {H : Hp} {Q : VK} {E : XK} {B : Hp} {L : List (Addr × HO)} {i : Nat} {b dx r t l s : Addr} {rows : List (List Int)} {turns loads steps : List Int} {taken at_ place : Int}
    (led : Led B L H) (x : LB G.Board B L i b dx r t l s rows turns loads steps taken) (hl : turns.length = rows.length) (h0 : 0 ≤ at_) (h1 : at_ < rows.length) (h2 : 0 ≤ place) (h3 : place < (rows.getD at_.toNat []).length)
    (q : ∀ H', Led B (L.set (i + 1) (t, ilst (turns.set at_.toNat place))) H' → Q .non H') : sp_Board_turn_to K G [.ref b, .int at_, .int place] H Q E := by
  unfold sp_Board_turn_to
  exact ⟨B, L, i, b, dx, r, t, l, s, rows, turns, loads, steps, taken, at_, place, rfl, led, x, hl, fun h => absurd ⟨h0, h1⟩ h, fun _ _ h => absurd ⟨h2, h3⟩ h, fun _ _ _ _ => q⟩
def t_Board_turn_to (K : PySem.W.Frag) (G : Ads) (E : XK) : TS :=
  (tSeq (tIfS (tNot (tB (tMeth G.Board "has_site" (sp_Board_has_site K G) [] E0 (tVar 0) (tCons (tVar 1) tNil))))
    (tRaise E G.NoSite)
    tNext)
    (tSeq (tIfS (tOr (tTest (tOp mLt (tVar 2) (tC (.int 0)))) (tTest (tOp mGe (tVar 2) (tCB (mLen K) (tCons (tOp (rIxL K) (tFld K (tVar 0) "rows") (tVar 1)) tNil)))))
    (tRaise E G.NoPlace)
    tNext)
    (tAsg (tVar 2) (gSub (tFld K (tVar 0) "turns") (tVar 1) rSetL))))
abbrev N_Board_turn_to : List Str := ["self", "at", "place"]

theorem pure_Board_turn_to {K : PySem.W.Frag} {G : Ads} {vs H Q E} (bd : BdOk K G) (h : sp_Board_turn_to K G vs H Q E) : t_Board_turn_to K G E { nx := fun _ H' => Q .non H', rt := Q } (start N_Board_turn_to vs) H := by
  unfold sp_Board_turn_to at h
  obtain ⟨B, L, i, b, dx, r, t, l, s, rows, turns, loads, steps, taken, a, p, rfl, led, x, hl, q1, q2, q3⟩ := h
  show t_Board_turn_to K G E _ [some (.ref b), some (.int a), some (.int p)] H
  unfold t_Board_turn_to
  have X := led.bd x
  walk_at "g"
  refine g_self X.ins bm_has_site ?_
  walk_at "g"
  refine c_has_site X.ins X.rws ?_
  walk_at "g"
  refine ifN (fun h => ?_) (fun h => ?_)
  · walk_at "g"
    exact q1 h
  walk_at "g"
  refine ifP (fun h2 => ?_) (fun h2 => ?_)
  · walk_at "g"
    exact q2 h.1 h.2 (by omega)
  walk_at "g"
  refine g_bfld X.ins bd.cl bd.n_rows bf_rows ?_
  walk_at "g"
  refine g_row X.rws h.1 h.2 fun w hw => ?_
  walk_at "g"
  refine ifP (fun h3 => ?_) (fun h3 => ?_)
  · walk_at "g"
    exact q2 h.1 h.2 (by omega)
  walk_at "g"
  refine g_bfld X.ins bd.cl bd.n_turns bf_turns ?_
  walk_at "g"
  refine g_setL led (i + 1) x.tns h.1 (by omega) fun H' led' => ?_
  exact q3 h.1 h.2 (by omega) (by omega) H' led'

@[irreducible] def sp_Board_load (_ : PySem.W.Frag) (G : Ads) : Sp := fun vs H Q E => ∃ (B : Hp) (L : List (Addr × HO)) (i : Nat) (b dx r t l s : Addr) (rows : List (List Int)) (turns loads steps : List Int) (taken at_ many : Int),
  vs = [.ref b, .int at_, .int many] ∧ Led B L H ∧ LB G.Board B L i b dx r t l s rows turns loads steps taken ∧ loads.length = rows.length ∧
  (¬ (0 ≤ at_ ∧ at_ < rows.length) → E (.ref G.NoSite) none H) ∧ (0 ≤ at_ → at_ < rows.length → 400 < loads.sum + many → E (.ref G.TooMany) none H) ∧
  (0 ≤ at_ → at_ < rows.length → loads.sum + many ≤ 400 → ∀ H', Led B (L.set (i + 2) (l, ilst (loads.set at_.toNat (loads.getD at_.toNat 0 + many)))) H' → Q .non H')
theorem len_Board_load {K : PySem.W.Frag} {G : Ads} {vs H Q E} (h : sp_Board_load K G vs H Q E) : vs.length = 3 := by
  unfold sp_Board_load at h
  obtain ⟨_, _, _, _, _, _, _, _, _, _, _, _, _, _, _, _, rfl, _⟩ := h
  rfl
theorem c_load {K : PySem.W.Frag} {G : Ads} {H : Hp} {Q : VK} {E : XK} {B : Hp} {L : List (Addr × HO)} {i : Nat} {b dx r t l s : Addr} {rows : List (List Int)} {turns loads steps : List Int} {taken at_ many : Int}
    (led : Led B L H) (x : LB G.Board B L i b dx r t l s rows turns loads steps taken) (hl : loads.length = rows.length) (h0 : 0 ≤ at_) (h1 : at_ < rows.length) (h2 : loads.sum + many ≤ 400)
    (q : ∀ H', Led B (L.set (i + 2) (l, ilst (loads.set at_.toNat (loads.getD at_.toNat 0 + many)))) H' → Q .non H') : sp_Board_load K G [.ref b, .int at_, .int many] H Q E := by
  unfold sp_Board_load
  exact ⟨B, L, i, b, dx, r, t, l, s, rows, turns, loads, steps, taken, at_, many, rfl, led, x, hl, fun h => absurd ⟨h0, h1⟩ h, fun _ _ h => by omega, fun _ _ _ => q⟩
def t_Board_load (K : PySem.W.Frag) (G : Ads) (E : XK) : TS :=
  (tSeq (tIfS (tNot (tB (tMeth G.Board "has_site" (sp_Board_has_site K G) [] E0 (tVar 0) (tCons (tVar 1) tNil))))
    (tRaise E G.NoSite)
    tNext)
    (tSeq (tIfS (tTest (tOp mGt (tOp mAdd (tCB (rSum K) (tCons (tFld K (tVar 0) "loads") tNil)) (tVar 2)) (tC (.int 400))))
    (tRaise E G.TooMany)
    tNext)
    (tAsg (tOp mAdd (tOp (rIxL K) (tFld K (tVar 0) "loads") (tVar 1)) (tVar 2)) (gSub (tFld K (tVar 0) "loads") (tVar 1) rSetL))))
abbrev N_Board_load : List Str := ["self", "at", "many"]

theorem pure_Board_load {K : PySem.W.Frag} {G : Ads} {vs H Q E} (bd : BdOk K G) (h : sp_Board_load K G vs H Q E) : t_Board_load K G E { nx := fun _ H' => Q .non H', rt := Q } (start N_Board_load vs) H := by
  unfold sp_Board_load at h
  obtain ⟨B, L, i, b, dx, r, t, l, s, rows, turns, loads, steps, taken, a, p, rfl, led, x, hl, q1, q2, q3⟩ := h
  show t_Board_load K G E _ [some (.ref b), some (.int a), some (.int p)] H
  unfold t_Board_load
  have X := led.bd x
  walk_at "g"
  refine g_self X.ins bm_has_site ?_
  walk_at "g"
  refine c_has_site X.ins X.rws ?_
  walk_at "g"
  refine ifN (fun h => ?_) (fun h => ?_)
  · walk_at "g"
    exact q1 h
  walk_at "g"
  refine g_bfld X.ins bd.cl bd.n_loads bf_loads ?_
  have hS : SqL K H l (loads.map V.int) := SqL.of X.lds
  walk_at "g"
  refine ifP (fun h3 => ?_) (fun h3 => ?_)
  · walk_at "g"
    exact q2 h.1 h.2 h3
  walk_at "g"
  refine g_bfld X.ins bd.cl bd.n_loads bf_loads ?_
  walk_at "g"
  try refine g_ixI hS h.1 (by omega) ?_
  walk_at "g"
  refine g_bfld X.ins bd.cl bd.n_loads bf_loads ?_
  walk_at "g"
  refine g_setL led (i + 2) x.lds h.1 (by omega) fun H' led' => ?_
  exact q3 h.1 h.2 (by omega) H' led'

/-- the loads so far: the first k of them -/
def firstOf (k : Nat) (xs : List Int) : List Int := (List.range xs.length).map fun i => if i < k then xs.getD i 0 else 0
theorem firstOf_len (k : Nat) (xs : List Int) : (firstOf k xs).length = xs.length := by simp [firstOf]
theorem firstOf_get {k i : Nat} {xs : List Int} (h : i < xs.length) : (firstOf k xs).getD i 0 = if i < k then xs.getD i 0 else 0 := by
  unfold firstOf
  rw [List.getD_eq_getElem?_getD, List.getElem?_map, List.getElem?_range h]
  rfl
theorem ints_ext {a b : List Int} (hl : a.length = b.length) (h : ∀ i, i < a.length → a.getD i 0 = b.getD i 0) : a = b := by
  apply List.ext_getElem hl
  intro k h1 h2
  have q := h k h1
  rw [List.getD_eq_getElem?_getD, List.getD_eq_getElem?_getD, List.getElem?_eq_getElem h1, List.getElem?_eq_getElem h2] at q
  exact q
theorem firstOf_zero (xs : List Int) : firstOf 0 xs = List.replicate xs.length 0 := by
  refine ints_ext (by simp [firstOf]) fun i hi => ?_
  rw [firstOf_len] at hi
  rw [firstOf_get hi, if_neg (by omega), List.getD_eq_getElem?_getD, List.getElem?_replicate, if_pos hi]
  rfl
theorem firstOf_all (xs : List Int) : firstOf xs.length xs = xs := by
  refine ints_ext (by simp [firstOf]) fun i hi => ?_
  rw [firstOf_len] at hi
  rw [firstOf_get hi, if_pos hi]
theorem firstOf_set {k : Nat} {xs : List Int} (h : k < xs.length) : (firstOf k xs).set k (xs.getD k 0) = firstOf (k + 1) xs := by
  refine ints_ext (by simp [firstOf]) fun i hi => ?_
  rw [List.length_set, firstOf_len] at hi
  rw [getD_set (by rw [firstOf_len]; exact h), firstOf_get hi, firstOf_get hi]
  by_cases e : k = i
  · subst e
    rw [if_pos rfl, if_pos (by omega)]
  · rw [if_neg e]
    by_cases e2 : i < k
    · rw [if_pos e2, if_pos (by omega)]
    · rw [if_neg e2, if_neg (by omega)]
theorem firstOf_sum {xs : List Int} (h : ∀ x, x ∈ xs → 0 ≤ x) (k : Nat) (hk : k ≤ xs.length) : (firstOf k xs).sum = (xs.take k).sum := by
  induction k with
  | zero =>
    rw [firstOf_zero]
    simp
  | succ k ih =>
    rw [← firstOf_set (by omega), sum_set (z := 0) (by
      rw [List.getElem?_eq_getElem (by rw [firstOf_len]; omega)]
      have := firstOf_get (k := k) (i := k) (xs := xs) (by omega)
      rw [List.getD_eq_getElem?_getD, List.getElem?_eq_getElem (by rw [firstOf_len]; omega), if_neg (by omega)] at this
      exact congrArg some this), ih (by omega), List.take_succ, List.sum_append]
    rw [List.getD_eq_getElem?_getD, List.getElem?_eq_getElem (show k < xs.length by omega)]
    simp
theorem sum_nonneg {xs : List Int} (h : ∀ x, x ∈ xs → 0 ≤ x) : 0 ≤ xs.sum := by
  induction xs with
  | nil => simp
  | cons a r ih =>
    rw [List.sum_cons]
    have := h a (by simp)
    have := ih fun x hx => h x (by simp [hx])
    omega
theorem take_sum_le {xs : List Int} (h : ∀ x, x ∈ xs → 0 ≤ x) (k : Nat) : (xs.take k).sum ≤ xs.sum := by
  have e := congrArg List.sum (List.take_append_drop k xs)
  rw [List.sum_append] at e
  have := sum_nonneg (xs := xs.drop k) fun x hx => h x (List.mem_of_mem_drop hx)
  omega
@[irreducible] def sp_board (K : PySem.W.Frag) (G : Ads) : Sp := fun vs H Q _ => ∃ (p tp lp : Addr) (rows : List (List Int)) (turns loads : List Int), vs = [.ref p, .ref tp, .ref lp] ∧ RowsAt H p rows ∧ OkRows rows ∧ TurnsOk rows turns ∧ SqL K H tp (turns.map V.int) ∧
  SqL K H lp (loads.map V.int) ∧ loads.length = rows.length ∧ (∀ x, x ∈ loads → 0 ≤ x) ∧ loads.sum ≤ 400 ∧
  ∀ (b dx r t l s : Addr) (H' : Hp), NewB G.Board H H' b dx r t l s rows turns loads (List.replicate rows.length 0) 0 → Q (.ref b) H'
theorem len_board {K : PySem.W.Frag} {G : Ads} {vs H Q E} (h : sp_board K G vs H Q E) : vs.length = 3 := by
  unfold sp_board at h
  obtain ⟨_, _, _, _, _, _, rfl, _⟩ := h
  rfl
theorem c_board {K : PySem.W.Frag} {G : Ads} {H : Hp} {Q : VK} {E : XK} {p tp lp : Addr} {rows : List (List Int)} {turns loads : List Int} (R : RowsAt H p rows) (ok : OkRows rows) (tk : TurnsOk rows turns) (st : SqL K H tp (turns.map V.int)) (sl : SqL K H lp (loads.map V.int))
    (hl : loads.length = rows.length) (h0 : ∀ x, x ∈ loads → 0 ≤ x) (hs : loads.sum ≤ 400) (q : ∀ (b dx r t l s : Addr) (H' : Hp), NewB G.Board H H' b dx r t l s rows turns loads (List.replicate rows.length 0) 0 → Q (.ref b) H') :
    sp_board K G [.ref p, .ref tp, .ref lp] H Q E := by
  unfold sp_board
  exact ⟨p, tp, lp, rows, turns, loads, rfl, R, ok, tk, st, sl, hl, h0, hs, q⟩
def t_board (K : PySem.W.Frag) (G : Ads) (E : XK) : TS :=
  (tSeq (tAsg (tMake G.Board (sp_Board_init K G) [] E0 (tCons (tLc (iList K (tVar 0)) (gName 5) tYes (tCB (mList K) (tCons (tVar 5) tNil)) [5]) tNil)) (gName 3))
    (tSeq (tFor (iRng1 (tCons (tCB (mLen K) (tCons (tVar 0) tNil)) tNil)) (gName 4)
    (tSeq (tDrop (tMeth G.Board "turn_to" (sp_Board_turn_to K G) [] E0 (tVar 3) (tCons (tVar 4) (tCons (tOp (rIxL K) (tVar 1) (tVar 4)) tNil))))
    (tDrop (tMeth G.Board "load" (sp_Board_load K G) [] E0 (tVar 3) (tCons (tVar 4) (tCons (tOp (rIxL K) (tVar 2) (tVar 4)) tNil))))))
    (tRet (tVar 3))))
abbrev N_board : List Str := ["rows", "turns", "loads", "board", "k", "row"]

theorem pure_board {K : PySem.W.Frag} {G : Ads} {vs H Q E} (h : sp_board K G vs H Q E) : t_board K G E { nx := fun _ H' => Q .non H', rt := Q } (start N_board vs) H := by
  unfold sp_board at h
  obtain ⟨p, tp, lp, rows, turns, loads, rfl, R, ok, tk, st, sl, hl, h0, hs, q⟩ := h
  show t_board K G E _ [some (.ref p), some (.ref tp), some (.ref lp), none, none, none] H
  unfold t_board
  have hn := ok.2.1
  walk_at "g"
  refine lcCopy R (by omega) (fun _ => rfl) (fun _ => rfl) fun D H1 s1 n1 => ?_
  walk_at "g"
  refine c_Board n1.at_ (by omega) (fun row hr => by have := (ok.2.2 row hr).2.1; omega) (fun h => by have := ok.1; omega) (fun _ _ h => absurd ok h) fun _ b dx r t l s H2 N2 => ?_
  obtain ⟨B2, s2, nr, led⟩ := N2
  have sB : Same H B2 := s1.trans s2
  have RB : RowsAt B2 p rows := R.mono sB
  have tB := sB.seq st
  have lB := sB.seq sl
  have hr : RowsAt B2 r rows := nr.at_
  have et : turns.length = rows.length := tk.1
  walk_at "g"
  refine loopR (fun k σ H' => (∃ v, σ = [some (.ref p), some (.ref tp), some (.ref lp), some (.ref b), v, none]) ∧ Led B2 (bl G.Board b dx r t l s (firstOf k turns) (firstOf k loads) (List.replicate rows.length 0) 0) H')
    ⟨⟨_, rfl⟩, by rw [firstOf_zero, firstOf_zero, et, hl]; exact led⟩ ?_ ?_
  · rintro k σ H' hk ⟨⟨v, rfl⟩, led⟩
    have hk : k < rows.length := by simpa using hk
    have e0 : (0 + (k : Int)).toNat = k := by omega
    have tkk := tk.2 k hk
    show tSeq _ _ _ [some (.ref p), some (.ref tp), some (.ref lp), some (.ref b), some (.int (0 + k)), none] H'
    walk_at "g"
    refine g_self (led.get 0 rfl) bm_turn_to ?_
    walk_at "g"
    try refine g_ixI (led.base tB) (by omega) (by omega) ?_
    walk_at "g"
    rw [e0]
    refine c_turn_to led (i := 0) ⟨rfl, rfl, rfl, rfl, hr⟩ (by rw [firstOf_len]; exact et) (by omega) (by omega) tkk.1 (by rw [e0]; exact tkk.2) fun H3 led3 => ?_
    rw [e0] at led3
    have led3 : Led B2 (bl G.Board b dx r t l s ((firstOf k turns).set k (turns.getD k 0)) (firstOf k loads) (List.replicate rows.length 0) 0) H3 := led3
    rw [firstOf_set (by omega)] at led3
    walk_at "g"
    refine g_self (led3.get 0 rfl) bm_load ?_
    walk_at "g"
    try refine g_ixI (led3.base lB) (by omega) (by omega) ?_
    walk_at "g"
    rw [e0]
    have hsum : (firstOf k loads).sum + loads.getD k 0 ≤ 400 := by
      rw [firstOf_sum h0 k (by omega)]
      have e1 := take_sum_le h0 (k + 1)
      rw [List.take_succ, List.sum_append] at e1
      rw [List.getD_eq_getElem?_getD]
      rw [List.getElem?_eq_getElem (show k < loads.length by omega)] at e1 ⊢
      simp at e1 ⊢
      omega
    refine c_load led3 (i := 0) ⟨rfl, rfl, rfl, rfl, hr⟩ (by rw [firstOf_len]; exact hl) (by omega) (by omega) hsum fun H4 led4 => ?_
    rw [e0, firstOf_get (by omega), if_neg (by omega), Int.zero_add] at led4
    have led4 : Led B2 (bl G.Board b dx r t l s (firstOf (k + 1) turns) ((firstOf k loads).set k (loads.getD k 0)) (List.replicate rows.length 0) 0) H4 := led4
    rw [firstOf_set (by omega)] at led4
    walk_at "g"
    exact ⟨⟨_, rfl⟩, led4⟩
  · rintro σ H' ⟨⟨v, rfl⟩, led⟩
    have e1 : ((rows.length : Int)).toNat = rows.length := by omega
    walk_at "g"
    have z1 := firstOf_all turns
    have z2 := firstOf_all loads
    rw [et] at z1
    rw [hl] at z2
    first
      | rw [e1, z1, z2] at led
      | (rw [show ((rows.length : Int) - 0).toNat = rows.length by omega, z1, z2] at led)
      | rw [z1, z2] at led
    exact q b dx r t l s H' ⟨B2, sB, nr.back s1, led⟩

@[irreducible] def sp_turns_by (K : PySem.W.Frag) (_ : Ads) : Sp := fun vs H Q _ => ∃ (a p : Addr) (ns : List Int) (rows : List (List Int)), vs = [.ref a, .ref p] ∧ SqL K H a (ns.map V.int) ∧ RowsAt H p rows ∧ rows.length ≤ 1000 ∧
  (∀ k : Nat, k < rows.length → 1 ≤ (rows.getD k []).length) ∧ ∀ (D : Addr) (turns : List Int) (H' : Hp), TurnsOk rows turns → H D = none → Same H H' → H' D = some (ilst turns) → Q (.ref D) H'
theorem len_turns_by {K : PySem.W.Frag} {G : Ads} {vs H Q E} (h : sp_turns_by K G vs H Q E) : vs.length = 2 := by
  unfold sp_turns_by at h
  obtain ⟨a, p, ns, rows, rfl, _⟩ := h
  rfl
theorem c_turns_by {K : PySem.W.Frag} {G : Ads} {H : Hp} {Q : VK} {E : XK} {a p : Addr} {ns : List Int} {rows : List (List Int)} (s : SqL K H a (ns.map V.int)) (R : RowsAt H p rows) (ok : OkRows rows)
    (q : ∀ (D : Addr) (turns : List Int) (H' : Hp), TurnsOk rows turns → H D = none → Same H H' → H' D = some (ilst turns) → Q (.ref D) H') : sp_turns_by K G [.ref a, .ref p] H Q E := by
  unfold sp_turns_by
  exact ⟨a, p, ns, rows, rfl, s, R, by have := ok.2.1; omega, fun k hk => (ok.row hk).1, q⟩
def t_turns_by (K : PySem.W.Frag) (G : Ads) (E : XK) : TS :=
  (tRet (tLc (iRng1 (tCons (tCB (mLen K) (tCons (tVar 1) tNil)) tNil)) (gName 2) tYes (tCall (sp_drawn K G) [] E0 (tCons (tVar 0) (tCons (tOp mAdd (tC (.int 260)) (tVar 2)) (tCons (tCB (mLen K) (tCons (tOp (rIxL K) (tVar 1) (tVar 2)) tNil)) tNil)))) [2]))
abbrev N_turns_by : List Str := ["script", "rows", "k"]

theorem pure_turns_by {K : PySem.W.Frag} {G : Ads} {vs H Q E} (h : sp_turns_by K G vs H Q E) : t_turns_by K G E { nx := fun _ H' => Q .non H', rt := Q } (start N_turns_by vs) H := by
  unfold sp_turns_by at h
  obtain ⟨a, p, ns, rows, rfl, hS, R, hn, h1, q⟩ := h
  show t_turns_by K G E _ [some (.ref a), some (.ref p), none] H
  unfold t_turns_by
  walk_at "g"
  refine lcRI (fun ts => ∀ k : Nat, k < ts.length → 0 ≤ ts.getD k 0 ∧ ts.getD k 0 < (rows.getD k []).length) (fun k hk => by simp at hk) (by omega) (fun _ => rfl) (fun D k ts H1 S hk e pt led qs => ?_) (fun D ts H1 nD e pt s hD => ?_)
  · walk_at "g"
    refine g_row (led.ra R) (by omega) (by omega) fun r hr => ?_
    walk_at "g"
    have e0 : (0 + (k : Int)).toNat = k := by omega
    rw [e0]
    have := h1 k (by omega)
    refine c_drawn (led.base hS) (by walk_at "ar") (by walk_at "ar") (by walk_at "ar") fun d h0 h1 => ?_
    refine qs d _ (fun j hj => ?_) led
    rw [List.length_append] at hj
    by_cases z : j < ts.length
    · rw [List.getD_eq_getElem?_getD, List.getElem?_append_left z, ← List.getD_eq_getElem?_getD]
      exact pt j z
    · have e2 : j = ts.length := by simp at hj; omega
      subst e2
      rw [List.getD_eq_getElem?_getD, List.getElem?_append_right (Nat.le_refl _), Nat.sub_self, e]
      exact ⟨h0, h1⟩
  · exact q D ts H1 ⟨by omega, fun k hk => pt k (by omega)⟩ nD s hD

/-- loads as drawn -/
def LoadsOk (rows : List (List Int)) (loads : List Int) : Prop := loads.length = rows.length ∧ (∀ x, x ∈ loads → 0 ≤ x) ∧ loads.sum ≤ (if rows.length ≤ 4 then 4 else 20)
@[irreducible] def sp_loads_by (K : PySem.W.Frag) (_ : Ads) : Sp := fun vs H Q _ => ∃ (a p : Addr) (ns : List Int) (rows : List (List Int)), vs = [.ref a, .ref p] ∧ SqL K H a (ns.map V.int) ∧ RowsAt H p rows ∧ 1 ≤ rows.length ∧ rows.length ≤ 1000 ∧
  ∀ (D : Addr) (loads : List Int) (H' : Hp), LoadsOk rows loads → H D = none → Same H H' → H' D = some (ilst loads) → Q (.ref D) H'
theorem len_loads_by {K : PySem.W.Frag} {G : Ads} {vs H Q E} (h : sp_loads_by K G vs H Q E) : vs.length = 2 := by
  unfold sp_loads_by at h
  obtain ⟨a, p, ns, rows, rfl, _⟩ := h
  rfl
theorem c_loads_by {K : PySem.W.Frag} {G : Ads} {H : Hp} {Q : VK} {E : XK} {a p : Addr} {ns : List Int} {rows : List (List Int)} (s : SqL K H a (ns.map V.int)) (R : RowsAt H p rows) (ok : OkRows rows)
    (q : ∀ (D : Addr) (loads : List Int) (H' : Hp), LoadsOk rows loads → H D = none → Same H H' → H' D = some (ilst loads) → Q (.ref D) H') : sp_loads_by K G [.ref a, .ref p] H Q E := by
  unfold sp_loads_by
  exact ⟨a, p, ns, rows, rfl, s, R, ok.1, by have := ok.2.1; omega, q⟩
def t_loads_by_c3 (K : PySem.W.Frag) (G : Ads) (E : XK) : TS :=
  (tSeq (tFor (iRng1 (tCons (tVar 3) tNil)) (gName 4)
    (tSeq (tAsg (tCall (sp_drawn K G) [] E0 (tCons (tVar 0) (tCons (tOp mAdd (tC (.int 281)) (tVar 4)) (tCons (tCB (mLen K) (tCons (tVar 1) tNil)) tNil)))) (gName 5))
    (tAsg (tOp mAdd (tOp (rIxL K) (tVar 2) (tVar 5)) (tC (.int 1))) (gSub (tVar 2) (tVar 5) rSetL))))
    (tRet (tVar 2)))
def t_loads_by (K : PySem.W.Frag) (G : Ads) (E : XK) : TS :=
  (tSeq (tAsg (tLc (iList K (tVar 1)) (gName 6) tYes (tC (.int 0)) [6]) (gName 2))
    (tSeq (tAsg (tCall (sp_drawn K G) [] E0 (tCons (tVar 0) (tCons (tC (.int 280)) (tCons (tC (.int 5)) tNil)))) (gName 3))
    (tSeq (tIfS (tTest (tOp mGt (tCB (mLen K) (tCons (tVar 1) tNil)) (tC (.int 4))))
    (tAsg (tCall (sp_drawn K G) [] E0 (tCons (tVar 0) (tCons (tC (.int 280)) (tCons (tC (.int 21)) tNil)))) (gName 3))
    tNext)
    (t_loads_by_c3 K G E))))
abbrev N_loads_by : List Str := ["script", "rows", "loads", "many", "j", "at", "row"]

theorem pure_loads_by {K : PySem.W.Frag} {G : Ads} {vs H Q E} (h : sp_loads_by K G vs H Q E) : t_loads_by K G E { nx := fun _ H' => Q .non H', rt := Q } (start N_loads_by vs) H := by
  unfold sp_loads_by at h
  obtain ⟨a, p, ns, rows, rfl, hS, R, hn0, hn, q⟩ := h
  show t_loads_by K G E _ [some (.ref a), some (.ref p), none, none, none, none, none] H
  unfold t_loads_by
  walk_at "g"
  refine lcRows0 R (by omega) (fun _ => rfl) fun D H1 nD s1 e1 => ?_
  have led : Led H [(D, ilst (List.replicate rows.length 0))] H1 := (Led.nil H).add s1 nD e1
  have fin : ∀ d : Int, 0 ≤ d → d ≤ (if rows.length ≤ 4 then (4 : Int) else 20) → ∀ v, t_loads_by_c3 K G E { nx := fun _ H' => Q .non H', rt := Q } [some (.ref a), some (.ref p), some (.ref D), some (.int d), none, none, v] H1 := fun d d0 d1 v => by
    unfold t_loads_by_c3
    have dd : d ≤ 20 := by split at d1 <;> omega
    walk_at "g"
    refine loopR (fun k σ H' => (∃ x y, σ = [some (.ref a), some (.ref p), some (.ref D), some (.int d), x, y, v]) ∧ ∃ loads : List Int, loads.length = rows.length ∧ (∀ z, z ∈ loads → 0 ≤ z) ∧ loads.sum = k ∧ Led H [(D, ilst loads)] H')
      ⟨⟨_, _, rfl⟩, _, by simp, fun z hz => by rw [(List.mem_replicate.mp hz).2]; decide, by simp, led⟩ ?_ ?_
    · rintro k σ H' hk ⟨⟨x, y, rfl⟩, loads, h1, h2, h3, led⟩
      show tSeq _ _ _ [some (.ref a), some (.ref p), some (.ref D), some (.int d), some (.int (0 + k)), y, v] H'
      walk_at "g"
      try refine g_lenR (led.ra R) ?_
      walk_at "g"
      refine c_drawn (led.base hS) (by omega) (by omega) (by omega) fun at_ a0 a1 => ?_
      walk_at "g"
      try refine g_ixI (led.sq 0 rfl) a0 (by omega) ?_
      walk_at "g"
      refine g_setL led 0 rfl a0 (by omega) fun H2 led2 => ?_
      have ge := getD_nonneg h2 at_.toNat
      refine ⟨⟨_, _, rfl⟩, _, ?_, ?_, ?_, led2⟩
      · rw [List.length_set]
        exact h1
      · exact set_nonneg h2 (by omega)
      · rw [sum_setD (by omega), h3]
        omega
    · rintro σ H' ⟨⟨x, y, rfl⟩, loads, h1, h2, h3, led⟩
      walk_at "g"
      refine q D loads H' ⟨h1, h2, ?_⟩ nD led.same (led.get 0 rfl)
      rw [h3]
      split at d1 <;> rename_i hh <;> simp only [hh, if_true, if_false] <;> omega
  walk_at "g"
  refine c_drawn (s1.seq hS) (by omega) (by omega) (by omega) fun d d0 d1 => ?_
  have R1 := R.mono s1
  walk_at "g"
  try refine g_lenR R1 ?_
  walk_at "g"
  refine ifP (fun h4 => ?_) (fun h4 => ?_)
  · walk_at "g"
    refine c_drawn (s1.seq hS) (by omega) (by omega) (by omega) fun d d0 d1 => ?_
    walk_at "g"
    refine fin d d0 ?_ _
    rw [if_neg (by omega)]
    omega
  · walk_at "g"
    refine fin d d0 ?_ _
    rw [if_pos (by omega)]
    omega

@[irreducible] def sp_changed (K : PySem.W.Frag) (_ : Ads) : Sp := fun vs H Q _ => ∃ (a : Addr) (ns : List Int) (z : Str), vs = [.ref a, .str z] ∧ SqL K H a (ns.map V.int) ∧ 1 ≤ z.length ∧ z.length ≤ 2000 ∧
  ∀ (y : Str) (H' : Hp), Same H H' → y.length ≤ 9000 → Q (.str y) H'
theorem len_changed {K : PySem.W.Frag} {G : Ads} {vs H Q E} (h : sp_changed K G vs H Q E) : vs.length = 2 := by
  unfold sp_changed at h
  obtain ⟨_, _, _, rfl, _⟩ := h
  rfl
theorem c_changed {K : PySem.W.Frag} {G : Ads} {H : Hp} {Q : VK} {E : XK} {a : Addr} {ns : List Int} {z : Str} (s : SqL K H a (ns.map V.int)) (z1 : 1 ≤ z.length) (z2 : z.length ≤ 2000) (q : ∀ (y : Str) (H' : Hp), Same H H' → y.length ≤ 9000 → Q (.str y) H') : sp_changed K G [.ref a, .str z] H Q E := by
  unfold sp_changed
  exact ⟨a, ns, z, rfl, s, z1, z2, q⟩
def t_changed_c3 (K : PySem.W.Frag) (G : Ads) (E : XK) : TS :=
  (tSeq (tAsg (tCall (sp_drawn K G) [] E0 (tCons (tVar 0) (tCons (tC (.int 525)) (tCons (tCB mLenS (tCons (tVar 1) tNil)) tNil)))) (gName 4))
    (tSeq (tAsg (tCall (sp_drawn K G) [] E0 (tCons (tVar 0) (tCons (tC (.int 526)) (tCons (tC (.int 5)) tNil)))) (gName 5))
    (tSeq (tIfS (tTest (tOp rEq (tVar 5) (tC (.int 0))))
    (tRet (tOp mCatS (tOp mCatS (tSl rSlS (tVar 1) tNoPart (tPart (tVar 4))) (tVar 3)) (tSl rSlS (tVar 1) (tPart (tVar 4)) tNoPart)))
    tNext)
    (tSeq (tIfS (tTest (tOp rEq (tVar 5) (tC (.int 1))))
    (tRet (tOp mCatS (tSl rSlS (tVar 1) tNoPart (tPart (tVar 4))) (tSl rSlS (tVar 1) (tPart (tOp mAdd (tVar 4) (tC (.int 1)))) tNoPart)))
    tNext)
    (tSeq (tIfS (tTest (tOp rEq (tVar 5) (tC (.int 2))))
    (tRet (tOp mCatS (tOp mCatS (tSl rSlS (tVar 1) tNoPart (tPart (tVar 4))) (tVar 3)) (tSl rSlS (tVar 1) (tPart (tOp mAdd (tVar 4) (tC (.int 1)))) tNoPart)))
    tNext)
    (tSeq (tAsg (tSplit K (tVar 1) (tC (.str "\n"))) (gName 6))
    (tSeq (tAsg (tCall (sp_drawn K G) [] E0 (tCons (tVar 0) (tCons (tC (.int 527)) (tCons (tCB (mLen K) (tCons (tVar 6) tNil)) tNil)))) (gName 7))
    (tSeq (tIfS (tTest (tOp rEq (tVar 5) (tC (.int 3))))
    (tRet (tJoin K (tC (.str "\n")) (tOp rCat (tSl (rSlL K) (tVar 6) tNoPart (tPart (tOp mAdd (tVar 7) (tC (.int 1))))) (tSl (rSlL K) (tVar 6) (tPart (tVar 7)) tNoPart))))
    tNext)
    (tRet (tJoin K (tC (.str "\n")) (tOp rCat (tSl (rSlL K) (tVar 6) tNoPart (tPart (tVar 7))) (tSl (rSlL K) (tVar 6) (tPart (tOp mAdd (tVar 7) (tC (.int 1)))) tNoPart))))))))))))
def t_changed (K : PySem.W.Frag) (G : Ads) (E : XK) : TS :=
  (tSeq (tAsg (tC (.str " !\"#$&'()*+,-./0123456789:;<=>?@ABCDEFGHIJKLMNOPQRSTUVWXYZ[\\]^_`abcdefghijklmnopqrstuvwxyz{|}~\n")) (gName 2))
    (tSeq (tAsg (tOp rIxS (tVar 2) (tCall (sp_drawn K G) [] E0 (tCons (tVar 0) (tCons (tC (.int 522)) (tCons (tCB mLenS (tCons (tVar 2) tNil)) tNil))))) (gName 3))
    (tSeq (tIfS (tTest (tOp rEq (tCall (sp_drawn K G) [] E0 (tCons (tVar 0) (tCons (tC (.int 523)) (tCons (tC (.int 2)) tNil)))) (tC (.int 1))))
    (tAsg (tOp rIxS (tC (.str "0123456789 >\npit")) (tCall (sp_drawn K G) [] E0 (tCons (tVar 0) (tCons (tC (.int 524)) (tCons (tC (.int 16)) tNil))))) (gName 3))
    tNext)
    (t_changed_c3 K G E))))
abbrev N_changed : List Str := ["script", "shown", "signs", "sign", "at", "way", "lines", "k"]

theorem pure_changed {K : PySem.W.Frag} {G : Ads} {vs H Q E} (h : sp_changed K G vs H Q E) : t_changed K G E { nx := fun _ H' => Q .non H', rt := Q } (start N_changed vs) H := by
  unfold sp_changed at h
  obtain ⟨a, ns, z, rfl, S, z1, z2, q⟩ := h
  show t_changed K G E _ [some (.ref a), some (.str z), none, none, none, none, none, none] H
  have BL : 100000 ≤ sizeLine := by decide
  have nl1 : ("\n" : Str).length = 1 := by decide +kernel
  have cl : ∀ lo hi, (cutS z lo hi).length ≤ 2000 := fun lo hi => Nat.le_trans (cutS_len z lo hi) z2
  have rest : ∀ (v2 : Option V) (sign : Str), sign.length = 1 → t_changed_c3 K G E { nx := fun _ H' => Q .non H', rt := Q } [some (.ref a), some (.str z), v2, some (.str sign), none, none, none, none] H := by
    intro v2 sign hs1
    unfold t_changed_c3
    walk_at "g"
    refine g_lenS (by omega) ?_
    walk_at "g"
    refine c_drawn S (by decide) (by decide) (by omega) fun at_ a0 a1 => ?_
    walk_at "g"
    refine c_drawn S (by decide) (by decide) (by decide) fun w w0 w1 => ?_
    walk_at "g"
    refine ifP (fun h1 => ?_) (fun h1 => ?_)
    · walk_at "g"
      refine g_slS (by omega) ?_
      walk_at "g"
      have c1 := cl none (some at_)
      have c2 := cl (some at_) none
      refine g_cat (by omega) ?_
      walk_at "g"
      refine g_slS (by omega) ?_
      walk_at "g"
      refine g_cat (by rw [lenA]; omega) ?_
      exact q _ H (Same.refl H) (by rw [lenA, lenA]; omega)
    walk_at "g"
    refine ifP (fun h2 => ?_) (fun h2 => ?_)
    · walk_at "g"
      refine g_slS (by omega) ?_
      walk_at "g"
      refine g_slS (by omega) ?_
      walk_at "g"
      have c1 := cl none (some at_)
      have c2 := cl (some (at_ + 1)) none
      refine g_cat (by omega) ?_
      exact q _ H (Same.refl H) (by rw [lenA]; omega)
    walk_at "g"
    refine ifP (fun h3 => ?_) (fun h3 => ?_)
    · walk_at "g"
      refine g_slS (by omega) ?_
      walk_at "g"
      have c1 := cl none (some at_)
      have c2 := cl (some (at_ + 1)) none
      refine g_cat (by omega) ?_
      walk_at "g"
      refine g_slS (by omega) ?_
      walk_at "g"
      refine g_cat (by rw [lenA]; omega) ?_
      exact q _ H (Same.refl H) (by rw [lenA, lenA]; omega)
    walk_at "g"
    refine g_split ?_
    walk_at "g"
    refine ⟨⟨_, rfl⟩, ?_⟩
    walk_at "g"
    refine ⟨z, "\n", rfl, rfl, by decide +kernel, by omega, ?_⟩
    intro p np
    show tSeq _ _ _ [some (.ref a), some (.str z), v2, some (.str sign), some (.int at_), some (.int w), some (.ref p), none] (upd H p (slst (lns z)))
    have led1 : Led H [(p, slst (lns z))] (upd H p (slst (lns z))) := (Led.nil H).alloc np _
    generalize upd H p (slst (lns z)) = H1 at led1 ⊢
    have lz : 1 ≤ (lns z).length := by
      obtain ⟨u, us, e⟩ := lns_some z
      rw [e, List.length_cons]
      omega
    walk_at "g"
    try refine g_len (led1.sq 0 rfl) ?_
    try walk_at "g"
    refine c_drawn (led1.base S) (by decide) (by decide) (by rw [List.length_map]; omega) fun k k0 k1 => ?_
    walk_at "g"
    refine ifP (fun h4 => ?_) (fun h4 => ?_)
    · walk_at "g"
      refine g_join ?_
      walk_at "g"
      refine ⟨⟨_, rfl⟩, ?_⟩
      walk_at "g"
      refine ⟨p, _, rfl, led1.sq 0 rfl, fun p2 n2 => ?_⟩
      rw [cutV_strs]
      have led2 := led1.alloc n2 (slst (cutA (lns z) none (some (k + 1))))
      generalize upd H1 p2 (slst (cutA (lns z) none (some (k + 1)))) = H2 at led2 ⊢
      walk_at "g"
      refine ⟨p, _, rfl, led2.sq 0 rfl, fun p3 n3 => ?_⟩
      rw [cutV_strs]
      have led3 := led2.alloc n3 (slst (cutA (lns z) (some k) none))
      generalize upd H2 p3 (slst (cutA (lns z) (some k) none)) = H3 at led3 ⊢
      have fit := cuts_fit z2 (cutA_sub (lns z) none (some (k + 1))) (cutA_sub (lns z) (some k) none)
      generalize cutA (lns z) none (some (k + 1)) = A at led3 fit
      generalize cutA (lns z) (some k) none = B at led3 fit
      refine g_catS (led3.get 1 rfl) (led3.get 2 rfl) (by omega) fun c nc => ?_
      have led4 := led3.alloc nc (slst (A ++ B))
      walk_at "g"
      have jl := join_le nl1 (A ++ B)
      refine ⟨_, c, _, rfl, rfl, .inl (SqL.of (led4.get 3 rfl)), ?_, ?_⟩
      · rw [nl1]
        omega
      · exact q _ _ led4.same (by omega)
    · walk_at "g"
      refine g_join ?_
      walk_at "g"
      refine ⟨⟨_, rfl⟩, ?_⟩
      walk_at "g"
      refine ⟨p, _, rfl, led1.sq 0 rfl, fun p2 n2 => ?_⟩
      rw [cutV_strs]
      have led2 := led1.alloc n2 (slst (cutA (lns z) none (some k)))
      generalize upd H1 p2 (slst (cutA (lns z) none (some k))) = H2 at led2 ⊢
      walk_at "g"
      refine ⟨p, _, rfl, led2.sq 0 rfl, fun p3 n3 => ?_⟩
      rw [cutV_strs]
      have led3 := led2.alloc n3 (slst (cutA (lns z) (some (k + 1)) none))
      generalize upd H2 p3 (slst (cutA (lns z) (some (k + 1)) none)) = H3 at led3 ⊢
      have fit := cuts_fit z2 (cutA_sub (lns z) none (some k)) (cutA_sub (lns z) (some (k + 1)) none)
      generalize cutA (lns z) none (some k) = A at led3 fit
      generalize cutA (lns z) (some (k + 1)) none = B at led3 fit
      refine g_catS (led3.get 1 rfl) (led3.get 2 rfl) (by omega) fun c nc => ?_
      have led4 := led3.alloc nc (slst (A ++ B))
      walk_at "g"
      have jl := join_le nl1 (A ++ B)
      refine ⟨_, c, _, rfl, rfl, .inl (SqL.of (led4.get 3 rfl)), ?_, ?_⟩
      · rw [nl1]
        omega
      · exact q _ _ led4.same (by omega)
  unfold t_changed
  obtain ⟨sg, hsg⟩ : ∃ sg : Str, sg = (" !\"#$&'()*+,-./0123456789:;<=>?@ABCDEFGHIJKLMNOPQRSTUVWXYZ[\\]^_`abcdefghijklmnopqrstuvwxyz{|}~\n" : Str) := ⟨_, rfl⟩
  have l1 : 1 ≤ sg.length ∧ sg.length ≤ 200 := by
    rw [hsg]
    decide +kernel
  rw [← hsg]
  clear hsg
  obtain ⟨sh, hsh⟩ : ∃ sh : Str, sh = ("0123456789 >\npit" : Str) := ⟨_, rfl⟩
  have l2 : sh.length = 16 := by
    rw [hsh]
    decide +kernel
  rw [← hsh]
  clear hsh
  have lc1 := len_cps sg
  have lc2 := len_cps sh
  walk_at "g"
  refine g_lenS (by omega) ?_
  walk_at "g"
  refine c_drawn S (by decide) (by decide) (by omega) fun d d0 d1 => ?_
  obtain ⟨c, hc⟩ : ∃ c, sg.cps.toList[d.toNat]? = some c := ⟨_, List.getElem?_eq_getElem (by omega)⟩
  refine g_ixS (c := c) (by omega) d0 hc ?_
  walk_at "g"
  refine c_drawn S (by decide) (by decide) (by decide) fun d2 e0 e1 => ?_
  walk_at "g"
  refine ifP (fun h1 => ?_) (fun h1 => ?_)
  · walk_at "g"
    refine c_drawn S (by decide) (by decide) (by decide) fun d3 f0 f1 => ?_
    obtain ⟨c2, hc2⟩ : ∃ c2, sh.cps.toList[d3.toNat]? = some c2 := ⟨_, List.getElem?_eq_getElem (by omega)⟩
    refine g_ixS (c := c2) (by omega) f0 hc2 ?_
    walk_at "g"
    exact rest _ _ rfl
  · refine g_next ?_
    exact rest _ _ rfl

@[irreducible] def sp_exit_shown (_ : PySem.W.Frag) (_ : Ads) : Sp := fun vs H Q _ => ∃ g : Int, vs = [.int g] ∧ -1 ≤ g ∧ g < 100 ∧ Q (.str (exS g)) H
theorem len_exit_shown {K : PySem.W.Frag} {G : Ads} {vs H Q E} (h : sp_exit_shown K G vs H Q E) : vs.length = 1 := by
  unfold sp_exit_shown at h
  obtain ⟨_, rfl, _⟩ := h
  rfl
theorem c_exit_shown {K : PySem.W.Frag} {G : Ads} {H : Hp} {Q : VK} {E : XK} {g : Int} (h0 : -1 ≤ g) (h1 : g < 100) (q : Q (.str (exS g)) H) : sp_exit_shown K G [.int g] H Q E := by
  unfold sp_exit_shown
  exact ⟨g, rfl, h0, h1, q⟩
def t_exit_shown (K : PySem.W.Frag) (G : Ads) (E : XK) : TS :=
  (tSeq (tIfS (tTest (tOp rEq (tVar 0) (tC (.int (-1)))))
    (tRet (tC (.str "pit")))
    tNext)
    (tRet (tCB mStr (tCons (tVar 0) tNil))))
abbrev N_exit_shown : List Str := ["gone"]

theorem pure_exit_shown {K : PySem.W.Frag} {G : Ads} {vs H Q E} (h : sp_exit_shown K G vs H Q E) : t_exit_shown K G E { nx := fun _ H' => Q .non H', rt := Q } (start N_exit_shown vs) H := by
  unfold sp_exit_shown at h
  obtain ⟨g, rfl, h0, h1, q⟩ := h
  show t_exit_shown K G E _ [some (.int g)] H
  unfold t_exit_shown
  walk_at "g"
  refine ifP (fun hg => ?_) (fun hg => ?_)
  · walk_at "g"
    have e : exS g = "pit" := if_pos (by omega)
    rw [e] at q
    exact q
  · walk_at "g"
    have e : exS g = toString g := if_neg (by omega)
    rw [e] at q
    exact g_str h0 (by omega) q

@[irreducible] def sp_written (_ : PySem.W.Frag) (G : Ads) : Sp := fun vs H Q _ => ∃ (b dx r t l s : Addr) (rows : List (List Int)) (C : Sta), vs = [.ref b] ∧ BdAt G.Board H b dx r t l s rows C.turns C.loads C.steps C.taken ∧ OkRows rows ∧ SOk rows C ∧ Small rows C ∧ ∀ H', Same H H' → Q (.str (textT rows C rows.length)) H'
theorem len_written {K : PySem.W.Frag} {G : Ads} {vs H Q E} (h : sp_written K G vs H Q E) : vs.length = 1 := by
  unfold sp_written at h
  obtain ⟨_, _, _, _, _, _, _, _, rfl, _⟩ := h
  rfl
theorem c_written {K : PySem.W.Frag} {G : Ads} {H : Hp} {Q : VK} {E : XK} {b dx r t l s : Addr} {rows : List (List Int)} {C : Sta} (X : BdAt G.Board H b dx r t l s rows C.turns C.loads C.steps C.taken) (ok : OkRows rows) (sk : SOk rows C) (sm : Small rows C) (q : ∀ H', Same H H' → Q (.str (textT rows C rows.length)) H') : sp_written K G [.ref b] H Q E := by
  unfold sp_written
  exact ⟨b, dx, r, t, l, s, rows, C, rfl, X, ok, sk, sm, q⟩
def t_written (K : PySem.W.Frag) (G : Ads) (E : XK) : TS :=
  (tSeq (tAsg (tLst (tCons (tOp mCatS (tC (.str "board ")) (tCB mStr (tCons (tFld K (tVar 0) "taken") tNil))) tNil)) (gName 1))
    (tSeq (tFor (iRng1 (tCons (tCB (mLen K) (tCons (tFld K (tVar 0) "rows") tNil)) tNil)) (gName 2)
    (tSeq (tAsg (tLst (tCons (tCB mStr (tCons (tOp (rIxL K) (tFld K (tVar 0) "turns") (tVar 2)) tNil)) (tCons (tCB mStr (tCons (tOp (rIxL K) (tFld K (tVar 0) "loads") (tVar 2)) tNil)) (tCons (tCB mStr (tCons (tOp (rIxL K) (tFld K (tVar 0) "steps") (tVar 2)) tNil)) (tCons (tC (.str ">")) tNil))))) (gName 3))
    (tSeq (tDrop (tBM K "list" rExtend (tVar 3) (tCons (tLc (iList K (tOp (rIxL K) (tFld K (tVar 0) "rows") (tVar 2))) (gName 4) tYes (tCall (sp_exit_shown K G) [] E0 (tCons (tVar 4) tNil)) [4]) tNil)))
    (tDrop (tBM K "list" rAppend (tVar 1) (tCons (tJoin K (tC (.str " ")) (tVar 3)) tNil))))))
    (tRet (tJoin K (tC (.str "\n")) (tVar 1)))))
abbrev N_written : List Str := ["board", "lines", "at", "words", "gone"]

theorem pure_written {K : PySem.W.Frag} {G : Ads} {vs H Q E} (bd : BdOk K G) (h : sp_written K G vs H Q E) : t_written K G E { nx := fun _ H' => Q .non H', rt := Q } (start N_written vs) H := by
  unfold sp_written at h
  obtain ⟨b, dx, r, t, l, s, rows, C, rfl, X, ok, sk, sm, q⟩ := h
  show t_written K G E _ [some (.ref b), none, none, none, none] H
  unfold t_written
  have hn := ok.2.1
  have lt := sk.tk.1
  have ll := sk.ll
  have ls := sk.ls
  have BL : 100000 ≤ sizeLine := by decide
  have e4 : ("board " : Str).length = 6 := by decide +kernel
  walk_at "g"
  refine g_bfld X.ins bd.cl bd.n_taken bf_taken ?_
  walk_at "g"
  refine g_str (by have := sm.n; omega) sm.n.2 ?_
  have ln := ts_len' sm.n.1 sm.n.2
  walk_at "g"
  refine g_cat (by omega) ?_
  walk_at "g"
  refine ⟨by show 1 ≤ sizeLine; omega, fun D nD => ?_⟩
  have led0 : Led H [(D, slst (linesT rows C 0))] (upd H D (.lst [V.str ("board " ++ toString C.taken)])) := (Led.nil H).alloc nD _
  walk_at "g"
  refine g_bfld (led0.same _ _ X.ins) bd.cl bd.n_rows bf_rows ?_
  walk_at "g"
  try refine g_lenR (X.rws.mono led0.same) ?_
  walk_at "g"
  refine loopR (fun k σ H' => (∃ v2 v3, σ = [some (.ref b), some (.ref D), v2, v3, none]) ∧ Led H [(D, slst (linesT rows C k))] H') ⟨⟨_, _, rfl⟩, led0⟩ ?_ ?_
  · rintro k σ H' hk ⟨⟨v2, v3, rfl⟩, led⟩
    have hk : k < rows.length := by simpa using hk
    have e0 : (0 + (k : Int)).toNat = k := by omega
    obtain ⟨t0, t1⟩ := sm.t k hk
    obtain ⟨l0, l1⟩ := sm.l k hk
    obtain ⟨s0, s1⟩ := sm.s k hk
    have X1 := X.mono led.same
    have row8 := (ok.row hk).2.1
    have nx := linesT_next rows C k
    have nl := linesT_len rows C k
    generalize linesT rows C k = L at led nx nl
    show tSeq _ _ _ [some (.ref b), some (.ref D), some (.int (0 + k)), v3, none] H'
    walk_at "g"
    refine g_bfld X1.ins bd.cl bd.n_turns bf_turns ?_
    walk_at "g"
    refine g_ixI (SqL.of X1.tns) (by omega) (by omega) ?_
    walk_at "g"
    rw [e0]
    refine g_str (by omega) t1 ?_
    walk_at "g"
    refine g_bfld X1.ins bd.cl bd.n_loads bf_loads ?_
    walk_at "g"
    refine g_ixI (SqL.of X1.lds) (by omega) (by omega) ?_
    walk_at "g"
    rw [e0]
    refine g_str (by omega) l1 ?_
    walk_at "g"
    refine g_bfld X1.ins bd.cl bd.n_steps bf_steps ?_
    walk_at "g"
    refine g_ixI (SqL.of X1.sts) (by omega) (by omega) ?_
    walk_at "g"
    rw [e0]
    refine g_str (by omega) s1 ?_
    walk_at "g"
    refine ⟨by show 4 ≤ sizeLine; omega, fun W nW => ?_⟩
    have led2 := led.alloc nW (.lst [V.str (toString (C.turns.getD k 0)), V.str (toString (C.loads.getD k 0)), V.str (toString (C.steps.getD k 0)), V.str ">"])
    have s2 := same_upd (o := .lst [V.str (toString (C.turns.getD k 0)), V.str (toString (C.loads.getD k 0)), V.str (toString (C.steps.getD k 0)), V.str ">"]) nW
    have X2 := X1.mono s2
    walk_at "g"
    try refine g_ty (led2.sq 1 rfl) ?_
    walk_at "g"
    refine g_bfld X2.ins bd.cl bd.n_rows bf_rows ?_
    walk_at "g"
    refine g_row X2.rws (by omega) (by omega) fun w hw => ?_
    rw [e0] at hw
    walk_at "g"
    try refine g_lstw hw ?_
    refine lcIS exS (by omega) hw (fun _ => rfl) (fun j H3 R hj s3 q3 => ?_) fun Y H3 nY s3 eY => ?_
    · have gr := ok.exit hk hj
      generalize (rows.getD k []).getD j 0 = g at gr q3
      show tCall _ _ _ _ [some (.ref b), some (.ref D), some (.int (0 + k)), some (.ref W), some (.int g)] H3 R
      walk_at "g"
      exact c_exit_shown (by omega) (by omega) q3
    have led3 := led2.ext s3
    walk_at "g"
    refine g_ext (K := K) led3 1 rfl eY (by rw [List.length_map, List.length_map]; show 4 + _ ≤ _; omega) fun H4 led4 => ?_
    have led4 : Led H [(D, slst L), (W, slst (([toString (C.turns.getD k 0), toString (C.loads.getD k 0), toString (C.steps.getD k 0), ">"] : List Str) ++ (rows.getD k []).map exS))] H4 := by
      rw [slst, slst, List.map_append]
      exact led4
    walk_at "g"
    try refine g_ty (led4.sq 0 rfl) ?_
    walk_at "g"
    refine g_join ?_
    walk_at "g"
    refine ⟨⟨_, rfl⟩, ?_⟩
    walk_at "g"
    have wl : ∀ y, y ∈ (([toString (C.turns.getD k 0), toString (C.loads.getD k 0), toString (C.steps.getD k 0), ">"] : List Str) ++ (rows.getD k []).map exS) → y.length ≤ 20 := fun y hy => by
      have a := ts_len' t0 t1
      have b' := ts_len' l0 l1
      have c := ts_len' s0 s1
      have e5 : (">" : Str).length = 1 := by decide +kernel
      rcases List.mem_append.mp hy with hy | hy
      · simp only [List.mem_cons, List.not_mem_nil, or_false] at hy
        rcases hy with rfl | rfl | rfl | rfl <;> omega
      · obtain ⟨g, hg1, rfl⟩ := List.mem_map.mp hy
        have := (ok.row hk).2.2 g hg1
        have := exS_len (g := g) (by omega) (by omega)
        omega
    have sl := sum_len _ 20 wl
    have e1 : (" " : Str).length = 1 := by decide +kernel
    refine ⟨_, W, _, rfl, rfl, .inl (SqL.of (led4.get 1 rfl)), ?_, ?_⟩
    · rw [List.length_append, List.length_map] at sl ⊢
      rw [e1]
      have e6 : ([toString (C.turns.getD k 0), toString (C.loads.getD k 0), toString (C.steps.getD k 0), ">"] : List Str).length = 4 := rfl
      rw [e6] at sl ⊢
      omega
    · rw [site_line]
      walk_at "g"
      refine g_app led4 0 rfl (by rw [List.length_map]; omega) fun H5 led5 => ?_
      walk_at "g"
      refine ⟨⟨_, _, rfl⟩, ?_⟩
      rw [nx]
      have led6 := led5.sub (L' := [(D, .lst (L.map V.str ++ [V.str (siteT (C.turns.getD k 0) (C.loads.getD k 0) (C.steps.getD k 0) (rows.getD k []))]))]) (by simp [List.set])
      rw [slst, List.map_append]
      exact led6
  · rintro σ H' ⟨⟨v2, v3, rfl⟩, led⟩
    have nl := linesT_len rows C rows.length
    have led : Led H [(D, slst (linesT rows C rows.length))] H' := by simpa using led
    walk_at "g"
    refine g_join ?_
    walk_at "g"
    refine ⟨⟨_, rfl⟩, ?_⟩
    walk_at "g"
    have sl := sum_len _ 96 (linesT_short ok sm)
    have e1 : ("\n" : Str).length = 1 := by decide +kernel
    refine ⟨_, D, _, rfl, rfl, .inl (SqL.of (led.get 0 rfl)), ?_, ?_⟩
    · rw [e1]
      omega
    · rw [linesT_join]
      exact q H' led.same

@[irreducible] def sp_odd (K : PySem.W.Frag) (_ : Ads) : Sp := fun vs H Q _ => ∃ (a : Addr) (ns : List Int), vs = [.ref a] ∧ SqL K H a (ns.map V.int) ∧ ∀ (y : Str) (H' : Hp), Same H H' → y.length ≤ 9000 → Q (.str y) H'
theorem len_odd {K : PySem.W.Frag} {G : Ads} {vs H Q E} (h : sp_odd K G vs H Q E) : vs.length = 1 := by
  unfold sp_odd at h
  obtain ⟨_, _, rfl, _⟩ := h
  rfl
theorem c_odd {K : PySem.W.Frag} {G : Ads} {H : Hp} {Q : VK} {E : XK} {a : Addr} {ns : List Int} (s : SqL K H a (ns.map V.int)) (q : ∀ (y : Str) (H' : Hp), Same H H' → y.length ≤ 9000 → Q (.str y) H') : sp_odd K G [.ref a] H Q E := by
  unfold sp_odd
  exact ⟨a, ns, rfl, s, q⟩
/-- so many texts, none too long -/
structure Sh (n : Nat) (xs : List V) : Prop where
  len : xs.length = n
  all : ∀ v, v ∈ xs → ∃ z : Str, v = .str z ∧ z.length ≤ 9000
def shB : V → Bool
  | .str z => decide (z.length ≤ 9000)
  | _ => false
theorem shB_ok {v : V} (h : shB v = true) : ∃ z : Str, v = .str z ∧ z.length ≤ 9000 := by
  cases v with
  | str z => exact ⟨z, rfl, of_decide_eq_true h⟩
  | _ => cases h
theorem sh_dec {n : Nat} {xs : List V} (h1 : xs.length = n) (h : xs.all shB = true) : Sh n xs := ⟨h1, fun v hv => shB_ok (List.all_eq_true.mp h v hv)⟩
theorem Sh.cons {n : Nat} {xs : List V} {z : Str} (h : z.length ≤ 9000) (s : Sh n xs) : Sh (n + 1) (.str z :: xs) := ⟨by rw [List.length_cons, s.len], fun v hv => by
  rcases List.mem_cons.mp hv with rfl | hv
  · exact ⟨z, rfl, h⟩
  · exact s.all v hv⟩
theorem Sh.app {n m : Nat} {xs ys : List V} (a : Sh n xs) (b : Sh m ys) : Sh (n + m) (xs ++ ys) := ⟨by rw [List.length_append, a.len, b.len], fun v hv => by
  rcases List.mem_append.mp hv with hv | hv
  · exact a.all v hv
  · exact b.all v hv⟩
theorem g_repS {z : Str} {k : Int} {H : Hp} {Q : VK} (hz : z.length ≤ 1000) (h0 : 0 ≤ k) (h1 : k ≤ 1000) (q : Q (.str (Txt.mul z k)) H) : rRepS (.str z) (.int k) H Q := ⟨z, k, rfl, rfl, hz, h0, h1, q⟩
theorem odd_step {H H1 : Hp} {Q : VK} {p : Addr} {xs ys : List V} {n m : Nat} (s1 : Same H H1) (e1 : H1 p = some (.lst xs)) (h1 : Sh n xs) (h2 : Sh m ys) (hn : n + m ≤ 1000) (q : ∀ (c : Addr) (H2 : Hp) (zs : List V), Same H H2 → H2 c = some (.lst zs) → Sh (n + m) zs → Q (.ref c) H2) :
    ys.length ≤ sizeLine ∧ ∀ p', H1 p' = none → rCat (.ref p) (.ref p') (upd H1 p' (.lst ys)) Q := by
  have BL : 100000 ≤ sizeLine := by decide
  have l1 := h1.len
  have l2 := h2.len
  refine ⟨by omega, fun p' np => ⟨p, p', xs, ys, rfl, rfl, same_upd np _ _ e1, upd_same, by omega, fun c nc => ?_⟩⟩
  exact q c _ _ (s1.trans ((same_upd np).trans (same_upd nc))) upd_same (h1.app h2)
def t_odd_c6 (K : PySem.W.Frag) (G : Ads) (E : XK) : TS :=
  (tSeq (tAsg (tOp rCat (tVar 2) (tLst (tCons (tOp mCatS (tC (.str "board 0")) (tOp rRepS (tVar 1) (tOp mAdd (tC (.int 12)) (tCall (sp_drawn K G) [] E0 (tCons (tVar 0) (tCons (tC (.int 520)) (tCons (tC (.int 3)) tNil))))))) (tCons (tC (.str "board 0\n0 0 0 > pit\n0 400 0 > 0\n0 1 0 > 1")) tNil)))) (gName 2))
    (tSeq (tAsg (tOp mCatS (tC (.str "1")) (tOp rRepS (tC (.str "0")) (tC (.int 20)))) (gName 3))
    (tSeq (tAsg (tOp rCat (tVar 2) (tLst (tCons (tOp mCatS (tOp mCatS (tC (.str "board 0\n0 0 ")) (tVar 3)) (tC (.str " > pit"))) (tCons (tOp mCatS (tOp mCatS (tC (.str "board 0\n0 ")) (tVar 3)) (tC (.str " 0 > pit"))) (tCons (tOp mCatS (tC (.str "board 1_0")) (tVar 1)) tNil))))) (gName 2))
    (tSeq (tAsg (tOp rCat (tVar 2) (tLst (tCons (tC (.str "board 0\n0 +1 0 > pit")) (tCons (tC (.str "board 0\n0 1_0 0 > pit")) (tCons (tC (.str "board 0\n0 0 0 > 0_0")) (tCons (tC (.str "board 0\n+0 0 0 > pit")) tNil)))))) (gName 2))
    (tRet (tOp (rIxL K) (tVar 2) (tCall (sp_drawn K G) [] E0 (tCons (tVar 0) (tCons (tC (.int 521)) (tCons (tCB (mLen K) (tCons (tVar 2) tNil)) tNil))))))))))
def t_odd_c2 (K : PySem.W.Frag) (G : Ads) (E : XK) : TS :=
  (tSeq (tAsg (tOp rCat (tVar 2) (tLst (tCons (tC (.str "board 0\n0 0 0 > PIT")) (tCons (tC (.str "board 0\n0 0 0 > -1")) (tCons (tOp mCatS (tC (.str "board +0")) (tVar 1)) (tCons (tOp mCatS (tC (.str "board 00")) (tVar 1)) (tCons (tOp mCatS (tC (.str "board")) (tVar 1)) tNil))))))) (gName 2))
    (tSeq (tAsg (tOp rCat (tVar 2) (tLst (tCons (tC (.str "board 0\n1 0 0 > pit")) (tCons (tC (.str "board 0\n0 401 0 > pit")) (tCons (tC (.str "board 0\n0 400 0 > pit")) (tCons (tC (.str "board 0\n0 0 0 > 1")) tNil)))))) (gName 2))
    (tSeq (tAsg (tOp rCat (tVar 2) (tLst (tCons (tC (.str "board 0\n0 0 0 > 0")) (tCons (tOp mCatS (tC (.str "board 0 ")) (tVar 1)) (tCons (tOp mCatS (tC (.str " board 0")) (tVar 1)) (tCons (tC (.str "board 0\n0 0 0  > pit")) (tCons (tVar 1) tNil))))))) (gName 2))
    (tSeq (tAsg (tOp rCat (tVar 2) (tLst (tCons (tOp mCatS (tC (.str "board 0\n0 0 0 >")) (tOp rRepS (tC (.str " pit")) (tC (.int 9)))) (tCons (tOp mCatS (tOp mCatS (tC (.str "board 1")) (tOp rRepS (tC (.str "0")) (tC (.int 20)))) (tVar 1)) (tCons (tOp mCatS (tOp mCatS (tC (.str "board 9")) (tVar 1)) (tOp rRepS (tC (.str " pit")) (tC (.int 7)))) tNil))))) (gName 2))
    (t_odd_c6 K G E)))))
def t_odd (K : PySem.W.Frag) (G : Ads) (E : XK) : TS :=
  (tSeq (tAsg (tC (.str "\n0 0 0 > pit")) (gName 1))
    (tSeq (tAsg (tLst (tCons (tC (.str "")) (tCons (tC (.str "board")) (tCons (tC (.str "board 0")) (tCons (tC (.str "board 0\n")) (tCons (tC (.str "board 0\n0 0 0 >")) (tCons (tOp mCatS (tOp mCatS (tC (.str "board 0")) (tVar 1)) (tC (.str "\n"))) (tCons (tOp mCatS (tC (.str "BOARD 0")) (tVar 1)) tNil)))))))) (gName 2))
    (t_odd_c2 K G E)))
abbrev N_odd : List Str := ["script", "site", "some", "many"]

theorem pure_odd {K : PySem.W.Frag} {G : Ads} {vs H Q E} (h : sp_odd K G vs H Q E) : t_odd K G E { nx := fun _ H' => Q .non H', rt := Q } (start N_odd vs) H := by
  unfold sp_odd at h
  obtain ⟨a, ns, rfl, S, q⟩ := h
  show t_odd K G E _ [some (.ref a), none, none, none] H
  have BL : 100000 ≤ sizeLine := by decide
  have rest6 : ∀ (p : Addr) (H1 : Hp) (xs : List V) (v3 : Option V), Same H H1 → H1 p = some (.lst xs) → Sh 24 xs → t_odd_c6 K G E { nx := fun _ H' => Q .non H', rt := Q } [some (.ref a), some (.str "\n0 0 0 > pit"), some (.ref p), v3] H1 := by
    intro p H1 xs v3 s1 e1 h1
    unfold t_odd_c6
    walk_at "g"
    refine c_drawn (s1.seq S) (by decide) (by decide) (by decide) fun d d0 d1 => ?_
    walk_at "g"
    refine g_repS (by decide +kernel) (by omega) (by omega) ?_
    have yl := mul_len ("\n0 0 0 > pit" : Str) (12 + d)
    have el : ("\n0 0 0 > pit" : Str).length = 12 := by decide +kernel
    have e7 : ("board 0" : Str).length = 7 := by decide +kernel
    have yl : (Txt.mul ("\n0 0 0 > pit" : Str) (12 + d)).length ≤ 168 := by
      rw [el] at yl
      omega
    generalize Txt.mul ("\n0 0 0 > pit" : Str) (12 + d) = y at yl ⊢
    walk_at "g"
    refine g_cat (by omega) ?_
    have yl2 : ("board 0" ++ y : Str).length ≤ 9000 := by
      rw [lenA]
      omega
    generalize ("board 0" ++ y : Str) = y2 at yl2 ⊢
    walk_at "g"
    refine odd_step s1 e1 h1 (.cons yl2 (sh_dec (n := 1) rfl (by decide +kernel))) (by decide) fun c2 H2 zs2 s2 e2 h2 => ?_
    walk_at "g"
    refine g_repS (by decide +kernel) (by decide) (by decide) ?_
    walk_at "g"
    refine g_cat (by decide +kernel) ?_
    walk_at "g"
    repeat (refine g_cat (by decide +kernel) ?_; walk_at "g")
    refine odd_step s2 e2 h2 (sh_dec (n := 3) rfl (by decide +kernel)) (by decide) fun c3 H3 zs3 s3 e3 h3 => ?_
    walk_at "g"
    refine odd_step s3 e3 h3 (sh_dec (n := 4) rfl (by decide +kernel)) (by decide) fun c4 H4 zs4 s4 e4 h4 => ?_
    have l4 := h4.len
    walk_at "g"
    try refine g_len (SqL.of e4) ?_
    try walk_at "g"
    refine c_drawn (s4.seq S) (by decide) (by decide) (by omega) fun i i0 i1 => ?_
    have hi : i.toNat < zs4.length := by omega
    obtain ⟨y, ey, hy⟩ := h4.all _ (List.getElem_mem hi)
    refine g_ixV (SqL.of e4) i0 (v := .str y) (by rw [List.getElem?_eq_getElem hi, ey]) ?_
    exact q y H4 s4 hy
  have rest : ∀ (p : Addr) (H1 : Hp) (xs : List V) (v3 : Option V), Same H H1 → H1 p = some (.lst xs) → Sh 7 xs → t_odd_c2 K G E { nx := fun _ H' => Q .non H', rt := Q } [some (.ref a), some (.str "\n0 0 0 > pit"), some (.ref p), v3] H1 := by
    intro p H1 xs v3 s1 e1 h1
    unfold t_odd_c2
    walk_at "g"
    repeat (refine g_cat (by decide +kernel) ?_; walk_at "g")
    refine odd_step s1 e1 h1 (sh_dec (n := 5) rfl (by decide +kernel)) (by decide) fun c2 H2 zs2 s2 e2 h2 => ?_
    walk_at "g"
    refine odd_step s2 e2 h2 (sh_dec (n := 4) rfl (by decide +kernel)) (by decide) fun c3 H3 zs3 s3 e3 h3 => ?_
    walk_at "g"
    repeat (refine g_cat (by decide +kernel) ?_; walk_at "g")
    refine odd_step s3 e3 h3 (sh_dec (n := 5) rfl (by decide +kernel)) (by decide) fun c4 H4 zs4 s4 e4 h4 => ?_
    walk_at "g"
    repeat ((first | refine g_cat (by decide +kernel) ?_ | refine g_repS (by decide +kernel) (by decide) (by decide) ?_); walk_at "g")
    refine odd_step s4 e4 h4 (sh_dec (n := 3) rfl (by decide +kernel)) (by decide) fun c5 H5 zs5 s5 e5 h5 => ?_
    walk_at "g"
    exact rest6 _ _ _ _ s5 e5 h5
  unfold t_odd
  walk_at "g"
  repeat (refine g_cat (by decide +kernel) ?_; walk_at "g")
  refine ⟨by show 7 ≤ sizeLine; omega, fun p np => ?_⟩
  exact rest p _ _ _ (same_upd np) upd_same (sh_dec rfl (by decide +kernel))

@[irreducible] def sp_number_of (_ : PySem.W.Frag) (G : Ads) : Sp := fun vs H Q E => ∃ w : Str, vs = [.str w] ∧ w.length ≤ 100000 ∧ (¬ NumOk w → E (.ref G.NoBoard) none H) ∧ (NumOk w → Q (.int (numOf w)) H)
theorem len_number_of {K : PySem.W.Frag} {G : Ads} {vs H Q E} (h : sp_number_of K G vs H Q E) : vs.length = 1 := by
  unfold sp_number_of at h
  obtain ⟨_, rfl, _⟩ := h
  rfl
theorem c_number_of {K : PySem.W.Frag} {G : Ads} {H : Hp} {Q : VK} {E : XK} {w : Str} (ok : NumOk w) (q : Q (.int (numOf w)) H) : sp_number_of K G [.str w] H Q E := by
  unfold sp_number_of
  exact ⟨w, rfl, by have := ok.2.1; omega, fun h => absurd ok h, fun _ => q⟩
def t_number_of (K : PySem.W.Frag) (G : Ads) (E : XK) : TS :=
  (tSeq (tIfS (tOr (tTest (tOp rEq (tVar 0) (tC (.str "")))) (tOr (tTest (tOp mGt (tCB mLenS (tCons (tVar 0) tNil)) (tC (.int 20)))) (tAnd (tTest (tOp rEq (tOp rIxS (tVar 0) (tC (.int 0))) (tC (.str "0")))) (tTest (tOp mGt (tCB mLenS (tCons (tVar 0) tNil)) (tC (.int 1)))))))
    (tRaise E G.NoBoard)
    tNext)
    (tSeq (tFor (iStr (tVar 0)) (gName 1)
    (tIfS (tTest (tOp rNotInS (tVar 1) (tC (.str "0123456789"))))
    (tRaise E G.NoBoard)
    tNext))
    (tRet (tCB mIntS (tCons (tVar 0) tNil)))))
abbrev N_number_of : List Str := ["word", "sign"]

theorem pure_number_of {K : PySem.W.Frag} {G : Ads} {vs H Q E} (h : sp_number_of K G vs H Q E) : t_number_of K G E { nx := fun _ H' => Q .non H', rt := Q } (start N_number_of vs) H := by
  unfold sp_number_of at h
  obtain ⟨w, rfl, hl, q1, q2⟩ := h
  show t_number_of K G E _ [some (.str w), none] H
  unfold t_number_of
  have lc := len_cps w
  walk_at "g"
  refine ifP (fun h0 => ?_) (fun h0 => ?_)
  · walk_at "g"
    exact q1 fun ok => ok.1 (empty_iff.mp h0)
  have ne : w.cps.toList ≠ [] := fun z => h0 (empty_iff.mpr z)
  walk_at "g"
  refine g_lenS hl ?_
  walk_at "g"
  refine ifP (fun h1 => ?_) (fun h1 => ?_)
  · walk_at "g"
    exact q1 fun ok => by have := ok.2.1; omega
  walk_at "g"
  obtain ⟨c, cs, hc⟩ : ∃ c cs, w.cps.toList = c :: cs := by
    cases z : w.cps.toList with
    | nil => exact absurd z ne
    | cons c cs => exact ⟨c, cs, rfl⟩
  refine g_ixS (c := c) hl (by omega) (by rw [hc]; rfl) ?_
  walk_at "g"
  have rest : (c = 48 → w.length = 1) → tSeq (tFor (iStr (tVar 0)) (gName 1) (tIfS (tTest (tOp rNotInS (tVar 1) (tC (.str "0123456789")))) (tRaise E G.NoBoard) tNext)) (tRet (tCB mIntS (tCons (tVar 0) tNil))) { nx := fun _ H' => Q .non H', rt := Q } [some (.str w), none] H := by
    intro h2
    walk_at "g"
    refine g_forS ?_
    walk_at "g"
    refine ⟨w, rfl, ?_⟩
    refine loopS (fun k σ H' => (∃ v, σ = [some (.str w), v]) ∧ H' = H ∧ ∀ j, j < k → ∀ d, w.cps.toList[j]? = some d → 48 ≤ d ∧ d ≤ 57) ⟨⟨_, rfl⟩, rfl, fun j hj => by omega⟩ ?_ ?_
    · rintro k d σ H' hd ⟨⟨v, rfl⟩, rfl, hall⟩
      show tIfS _ _ _ _ [some (.str w), some (.str ⟨#[d]⟩)] H'
      walk_at "g"
      refine ⟨d, _, rfl, rfl, ?_⟩
      walk_at "g"
      refine ifN (fun h3 => ?_) (fun h3 => ?_)
      · walk_at "g"
        exact q1 fun ok => h3 (in_figs.mpr (ok.2.2.2 d (List.mem_of_getElem? hd)))
      · walk_at "g"
        refine ⟨⟨_, rfl⟩, rfl, fun j hj d2 hd2 => ?_⟩
        by_cases z : j < k
        · exact hall j z d2 hd2
        · have : j = k := by omega
          subst this
          rw [hd] at hd2
          cases hd2
          exact in_figs.mp h3
    · rintro σ H' ⟨⟨v, rfl⟩, rfl, hall⟩
      have ok : NumOk w := ⟨ne, by omega, fun z => h2 (by rw [hc] at z; exact Option.some.inj z), fun d hd => by
        obtain ⟨j, hj, e⟩ := List.getElem_of_mem hd
        exact hall j hj d (by rw [List.getElem?_eq_getElem hj, e])⟩
      walk_at "g"
      refine g_intS ok.reads (by omega) ?_
      exact q2 ok
  refine ifP (fun h2 => ?_) (fun h2 => ?_)
  · walk_at "g"
    refine g_lenS hl ?_
    walk_at "g"
    refine ifP (fun h3 => ?_) (fun h3 => ?_)
    · walk_at "g"
      refine q1 fun ok => ?_
      have := ok.2.2.1 (by rw [hc, zero_iff.mp h2]; rfl)
      omega
    · refine g_next ?_
      exact rest fun _ => by
        have : w.cps.toList.length = cs.length + 1 := by rw [hc]; rfl
        omega
  · refine g_next ?_
    exact rest fun z => absurd (zero_iff.mpr z) h2

def ExitOk (w : Str) : Prop := w = "pit" ∨ NumOk w
def exitOfW (w : Str) : Int := if w = "pit" then -1 else numOf w
@[irreducible] def sp_exit_of (_ : PySem.W.Frag) (G : Ads) : Sp := fun vs H Q E => ∃ w : Str, vs = [.str w] ∧ w.length ≤ 100000 ∧ (¬ ExitOk w → E (.ref G.NoBoard) none H) ∧ (ExitOk w → Q (.int (exitOfW w)) H)
theorem len_exit_of {K : PySem.W.Frag} {G : Ads} {vs H Q E} (h : sp_exit_of K G vs H Q E) : vs.length = 1 := by
  unfold sp_exit_of at h
  obtain ⟨_, rfl, _⟩ := h
  rfl
theorem c_exit_of {K : PySem.W.Frag} {G : Ads} {H : Hp} {Q : VK} {E : XK} {w : Str} (hl : w.length ≤ 100000) (ok : ExitOk w) (q : Q (.int (exitOfW w)) H) : sp_exit_of K G [.str w] H Q E := by
  unfold sp_exit_of
  exact ⟨w, rfl, hl, fun h => absurd ok h, fun _ => q⟩
def t_exit_of (K : PySem.W.Frag) (G : Ads) (E : XK) : TS :=
  (tSeq (tIfS (tTest (tOp rEq (tVar 0) (tC (.str "pit"))))
    (tRet (tC (.int (-1))))
    tNext)
    (tRet (tCall (sp_number_of K G) [] E (tCons (tVar 0) tNil))))
abbrev N_exit_of : List Str := ["word"]

theorem pure_exit_of {K : PySem.W.Frag} {G : Ads} {vs H Q E} (h : sp_exit_of K G vs H Q E) : t_exit_of K G E { nx := fun _ H' => Q .non H', rt := Q } (start N_exit_of vs) H := by
  unfold sp_exit_of at h
  obtain ⟨w, rfl, hl, q1, q2⟩ := h
  show t_exit_of K G E _ [some (.str w)] H
  unfold t_exit_of
  walk_at "g"
  refine ifP (fun h0 => ?_) (fun h0 => ?_)
  · walk_at "g"
    have e : exitOfW w = -1 := if_pos h0
    have z := q2 (.inl h0)
    rw [e] at z
    exact z
  · walk_at "g"
    unfold sp_number_of
    refine ⟨w, rfl, hl, fun n => q1 fun z => z.elim h0 n, fun ok => ?_⟩
    have e : exitOfW w = numOf w := if_neg h0
    have z := q2 (.inr ok)
    rw [e] at z
    exact z

@[irreducible] def sp_site_of_k25 (_ : PySem.W.Frag) (G : Ads) : Sp := fun vs H Q E => ∃ z : Str, vs = [.str z] ∧ z.length ≤ 9000 ∧ (¬ SiteOk z → ∀ H', Same H H' → E (.ref G.NoBoard) none H') ∧
  (SiteOk z → ∀ (D p q : Addr) (H' : Hp), Same H H' → H D = none → H p = none → H q = none → H' D = some (.tup [.ref p, .ref q]) → H' p = some (ilst (siteN z)) → H' q = some (ilst (siteR z)) → Q (.ref D) H')
theorem len_site_of_k25 {K : PySem.W.Frag} {G : Ads} {vs H Q E} (h : sp_site_of_k25 K G vs H Q E) : vs.length = 1 := by
  unfold sp_site_of_k25 at h
  obtain ⟨_, rfl, _⟩ := h
  rfl
theorem c_site_of_k25 {K : PySem.W.Frag} {G : Ads} {H : Hp} {Q : VK} {E : XK} {z : Str} (hl : z.length ≤ 9000) (no : ¬ SiteOk z → ∀ H', Same H H' → E (.ref G.NoBoard) none H')
    (q : SiteOk z → ∀ (D p q : Addr) (H' : Hp), Same H H' → H D = none → H p = none → H q = none → H' D = some (.tup [.ref p, .ref q]) → H' p = some (ilst (siteN z)) → H' q = some (ilst (siteR z)) → Q (.ref D) H') : sp_site_of_k25 K G [.str z] H Q E := by
  unfold sp_site_of_k25
  exact ⟨z, rfl, hl, no, q⟩
def t_site_of_k25 (K : PySem.W.Frag) (G : Ads) (E : XK) : TS :=
  (tSeq (tAsg (tSplit K (tVar 0) (tC (.str " "))) (gName 1))
    (tSeq (tIfS (tOr (tTest (tOp mLt (tCB (mLen K) (tCons (tVar 1) tNil)) (tC (.int 5)))) (tTest (tOp rNe (tOp (rIxL K) (tVar 1) (tC (.int 3))) (tC (.str ">")))))
    (tRaise E G.NoBoard)
    tNext)
    (tSeq (tAsg (tLc (iList K (tSl (rSlL K) (tVar 1) tNoPart (tPart (tC (.int 3))))) (gName 3) tYes (tCall (sp_number_of K G) [] E (tCons (tVar 3) tNil)) [3]) (gName 2))
    (tRet (tTup (tCons (tVar 2) (tCons (tLc (iList K (tSl (rSlL K) (tVar 1) (tPart (tC (.int 4))) tNoPart)) (gName 3) tYes (tCall (sp_exit_of K G) [] E (tCons (tVar 3) tNil)) [3]) tNil)))))))
abbrev N_site_of_k25 : List Str := ["line", "words", "numbers", "word"]

theorem pure_site_of_k25 {K : PySem.W.Frag} {G : Ads} {vs H Q E} (h : sp_site_of_k25 K G vs H Q E) : t_site_of_k25 K G E { nx := fun _ H' => Q .non H', rt := Q } (start N_site_of_k25 vs) H := by
  unfold sp_site_of_k25 at h
  obtain ⟨line, rfl, hl, no, q⟩ := h
  show t_site_of_k25 K G E _ [some (.str line), none, none, none] H
  have BL : 100000 ≤ sizeLine := by decide
  have wl := wds_many line
  have wle : ∀ w, w ∈ wds line → w.length ≤ 9000 := fun w hw => Nat.le_trans (wds_le hw) hl
  obtain ⟨W, hW⟩ : ∃ W, (wds line).map V.str = W := ⟨_, rfl⟩
  have lw : W.length = (wds line).length := by rw [← hW, List.length_map]
  unfold t_site_of_k25
  walk_at "g"
  refine g_split ?_
  walk_at "g"
  refine ⟨⟨_, rfl⟩, ?_⟩
  walk_at "g"
  refine ⟨line, " ", rfl, rfl, by decide +kernel, by omega, ?_⟩
  intro p np
  show tSeq _ _ _ [some (.str line), some (.ref p), none, none] (upd H p (.lst ((wds line).map V.str)))
  rw [hW]
  have led1 : Led H [(p, .lst W)] (upd H p (.lst W)) := (Led.nil H).alloc np _
  generalize upd H p (.lst W) = H1 at led1
  walk_at "g"
  try refine g_len (led1.sq 0 rfl) ?_
  try walk_at "g"
  refine ifP (fun h5 => ?_) (fun h5 => ?_)
  · walk_at "g"
    exact no (fun ok => by have := ok.n; omega) _ led1.same
  have h5 : 5 ≤ (wds line).length := by omega
  walk_at "g"
  obtain ⟨w3, hw3⟩ : ∃ w3, (wds line)[3]? = some w3 := ⟨_, List.getElem?_eq_getElem (by omega)⟩
  have W3 : W[3]? = some (V.str w3) := by
    rw [← hW, List.getElem?_map, hw3]
    rfl
  refine g_ixV (led1.sq 0 rfl) (by omega) (v := .str w3) W3 ?_
  walk_at "g"
  refine ifN (fun h6 => ?_) (fun h6 => ?_)
  · walk_at "g"
    refine no (fun ok => ?_) _ led1.same
    have z := ok.gt
    rw [hw3] at z
    exact h6 (Option.some.inj z)
  have c3 : cutV W none (some (3 : Int)) = ((wds line).take 3).map V.str := (cut_take2 (i := 3) (by omega)).trans (by rw [← hW, List.map_take])
  have c4 : cutV W (some (4 : Int)) none = ((wds line).drop 4).map V.str := (cut_drop2 (i := 4) (by omega)).trans (by rw [← hW, List.map_drop])
  walk_at "g"
  refine ⟨p, _, rfl, led1.sq 0 rfl, fun p3 n3 => ?_⟩
  rw [c3]
  have led2 := led1.alloc n3 (.lst (((wds line).take 3).map V.str))
  generalize upd H1 p3 (.lst (((wds line).take 3).map V.str)) = H2 at led2 ⊢
  refine ⟨p3, rfl, ⟨_, led2.sq 1 rfl⟩, ?_⟩
  refine lcLI (xs := ((wds line).take 3).map V.str) (Upw ((wds line).take 3) NumOk numOf) Upw.nil (by rw [List.length_map, List.length_take]; omega) (led2.sq 1 rfl) (fun _ => rfl) ?_ ?_
  · intro D k v ns H3 R hx el pn l3 qs
    obtain ⟨w, hw, rfl⟩ := str_at hx
    have wm := List.mem_of_getElem? hw
    walk_at "g"
    unfold sp_number_of
    exact ⟨w, rfl, Nat.le_trans (wle w (List.mem_of_mem_take wm)) (by decide), fun bad => no (fun ok => bad (ok.nums w wm)) _ (led2.same.trans l3.same), fun ok => qs _ H3 (pn.push el hw ok) l3⟩
  intro A ns H3 nA el pn s3 e3
  obtain ⟨en, allN⟩ := pn.done (by rw [el, List.length_map])
  subst en
  have led3 := led2.add s3 nA e3
  walk_at "g"
  refine g_tup ?_
  walk_at "g"
  refine ⟨p, _, rfl, led3.sq 0 rfl, fun p4 n4 => ?_⟩
  rw [c4]
  have led4 := led3.alloc n4 (.lst (((wds line).drop 4).map V.str))
  generalize upd H3 p4 (.lst (((wds line).drop 4).map V.str)) = H4 at led4 ⊢
  refine ⟨p4, rfl, ⟨_, led4.sq 3 rfl⟩, ?_⟩
  refine lcLI (xs := ((wds line).drop 4).map V.str) (Upw ((wds line).drop 4) ExW exW) Upw.nil (by rw [List.length_map, List.length_drop]; omega) (led4.sq 3 rfl) (fun _ => rfl) ?_ ?_
  · intro D k v ns H5 R hx el pn l5 qs
    obtain ⟨w, hw, rfl⟩ := str_at hx
    have wm := List.mem_of_getElem? hw
    walk_at "g"
    unfold sp_exit_of
    exact ⟨w, rfl, Nat.le_trans (wle w (List.mem_of_mem_drop wm)) (by decide), fun bad => no (fun ok => bad (ok.exits w wm)) _ (led4.same.trans l5.same), fun ok => qs _ H5 (pn.push el hw ok) l5⟩
  intro X ms H5 nX el2 pm s5 e5
  obtain ⟨em, allX⟩ := pm.done (by rw [el2, List.length_map])
  subst em
  have led5 := led4.add s5 nX e5
  have ok : SiteOk line := ⟨h5, by rw [hw3, h6], allN, allX⟩
  walk_at "g"
  refine ⟨by show 2 ≤ sizeLine; decide, fun T nT => ?_⟩
  have led6 := led5.alloc nT (.tup [.ref A, .ref X])
  exact q ok T A X _ led6.same (led5.same.free nT) (led2.same.free nA) (led4.same.free nX) (led6.get 5 rfl) (led6.get 2 rfl) (led6.get 4 rfl)

@[irreducible] def sp_read_k25 (_ : PySem.W.Frag) (G : Ads) : Sp := fun vs H Q E => ∃ z : Str, vs = [.str z] ∧ z.length ≤ 9000 ∧ (¬ ReadOk z → ∀ H', Same H H' → E (.ref G.NoBoard) none H') ∧
  (ReadOk z → ∀ (b dx r t l s : Addr) (H' : Hp), NewB G.Board H H' b dx r t l s (rowsT z) (staT z).turns (staT z).loads (staT z).steps (staT z).taken → Q (.ref b) H')
theorem len_read_k25 {K : PySem.W.Frag} {G : Ads} {vs H Q E} (h : sp_read_k25 K G vs H Q E) : vs.length = 1 := by
  unfold sp_read_k25 at h
  obtain ⟨_, rfl, _⟩ := h
  rfl
theorem c_turn_any {K : PySem.W.Frag} {G : Ads} {H : Hp} {Q : VK} {E : XK} {B : Hp} {L : List (Addr × HO)} {i : Nat} {b dx r t l s : Addr} {rows : List (List Int)} {turns loads steps : List Int} {taken at_ place : Int}
    (led : Led B L H) (x : LB G.Board B L i b dx r t l s rows turns loads steps taken) (hl : turns.length = rows.length) (h0 : 0 ≤ at_) (h1 : at_ < rows.length) (no : ¬ (0 ≤ place ∧ place < (rows.getD at_.toNat []).length) → E (.ref G.NoPlace) none H)
    (q : 0 ≤ place → place < (rows.getD at_.toNat []).length → ∀ H', Led B (L.set (i + 1) (t, ilst (turns.set at_.toNat place))) H' → Q .non H') : sp_Board_turn_to K G [.ref b, .int at_, .int place] H Q E := by
  unfold sp_Board_turn_to
  exact ⟨B, L, i, b, dx, r, t, l, s, rows, turns, loads, steps, taken, at_, place, rfl, led, x, hl, fun h => absurd ⟨h0, h1⟩ h, fun _ _ h => no h, fun _ _ a b => q a b⟩
theorem c_load_any {K : PySem.W.Frag} {G : Ads} {H : Hp} {Q : VK} {E : XK} {B : Hp} {L : List (Addr × HO)} {i : Nat} {b dx r t l s : Addr} {rows : List (List Int)} {turns loads steps : List Int} {taken at_ many : Int}
    (led : Led B L H) (x : LB G.Board B L i b dx r t l s rows turns loads steps taken) (hl : loads.length = rows.length) (h0 : 0 ≤ at_) (h1 : at_ < rows.length) (no : 400 < loads.sum + many → E (.ref G.TooMany) none H)
    (q : loads.sum + many ≤ 400 → ∀ H', Led B (L.set (i + 2) (l, ilst (loads.set at_.toNat (loads.getD at_.toNat 0 + many)))) H' → Q .non H') : sp_Board_load K G [.ref b, .int at_, .int many] H Q E := by
  unfold sp_Board_load
  exact ⟨B, L, i, b, dx, r, t, l, s, rows, turns, loads, steps, taken, at_, many, rfl, led, x, hl, fun h => absurd ⟨h0, h1⟩ h, fun _ _ h => no h, fun _ _ h => q h⟩
def t_read_k25_c6 (K : PySem.W.Frag) (G : Ads) (E : XK) : TS :=
  (tSeq (sFld K (tVar 5) (tLc (iList K (tVar 4)) (gName 8) tYes (tOp (rIxL K) (tOp (rIxT K) (tVar 8) (tC (.int 0))) (tC (.int 2))) [8]) "steps")
    (tSeq (sFld K (tVar 5) (tVar 3) "taken")
    (tRet (tVar 5))))
def t_read_k25_c4 (K : PySem.W.Frag) (G : Ads) (E : XK) : TS :=
  (tSeq (tAsg (tLc (iList K (tSl (rSlL K) (tVar 1) (tPart (tC (.int 1))) tNoPart)) (gName 7) tYes (tCall (sp_site_of_k25 K G) [] E (tCons (tVar 7) tNil)) [7]) (gName 4))
    (tSeq (tTry1 K (.ref G.BoardError) (fun W => (tSeq (tAsg (tMakeT G.Board (sp_Board_init K G) (WE W) (tCons (tLc (iList K (tVar 4)) (gName 8) tYes (tOp (rIxT K) (tVar 8) (tC (.int 1))) [8]) tNil)) (gName 5))
    (tFor (iRng1 (tCons (tCB (mLen K) (tCons (tVar 4) tNil)) tNil)) (gName 6)
    (tSeq (tDrop (tMethT G.Board "turn_to" (sp_Board_turn_to K G) (WE W) (tVar 5) (tCons (tVar 6) (tCons (tOp (rIxL K) (tOp (rIxT K) (tOp (rIxL K) (tVar 4) (tVar 6)) (tC (.int 0))) (tC (.int 0))) tNil))))
    (tDrop (tMethT G.Board "load" (sp_Board_load K G) (WE W) (tVar 5) (tCons (tVar 6) (tCons (tOp (rIxL K) (tOp (rIxT K) (tOp (rIxL K) (tVar 4) (tVar 6)) (tC (.int 0))) (tC (.int 1))) tNil)))))))) (fun a cls d => tRaise E G.NoBoard) (fun cls d _ H => E cls d H))
    (t_read_k25_c6 K G E)))
def t_read_k25 (K : PySem.W.Frag) (G : Ads) (E : XK) : TS :=
  (tSeq (tAsg (tSplit K (tVar 0) (tC (.str "\n"))) (gName 1))
    (tSeq (tAsg (tSplit K (tOp (rIxL K) (tVar 1) (tC (.int 0))) (tC (.str " "))) (gName 2))
    (tSeq (tIfS (tOr (tTest (tOp rNe (tCB (mLen K) (tCons (tVar 2) tNil)) (tC (.int 2)))) (tTest (tOp rNe (tOp (rIxL K) (tVar 2) (tC (.int 0))) (tC (.str "board")))))
    (tRaise E G.NoBoard)
    tNext)
    (tSeq (tAsg (tCall (sp_number_of K G) [] E (tCons (tOp (rIxL K) (tVar 2) (tC (.int 1))) tNil)) (gName 3))
    (t_read_k25_c4 K G E)))))
abbrev N_read_k25 : List Str := ["text", "lines", "head", "taken", "parts", "board", "at", "line", "part"]

theorem pure_read_k25 {K : PySem.W.Frag} {G : Ads} {vs H Q E} (bd : BdOk K G) (e1 : PySem.W.exmOne K (.ref G.NoSite) (.ref G.BoardError) = some true) (e2 : PySem.W.exmOne K (.ref G.NoExit) (.ref G.BoardError) = some true) (e3 : PySem.W.exmOne K (.ref G.NoPlace) (.ref G.BoardError) = some true) (e4 : PySem.W.exmOne K (.ref G.TooMany) (.ref G.BoardError) = some true)
    (h : sp_read_k25 K G vs H Q E) : t_read_k25 K G E { nx := fun _ H' => Q .non H', rt := Q } (start N_read_k25 vs) H := by
  unfold sp_read_k25 at h
  obtain ⟨text, rfl, htl, no, q⟩ := h
  show t_read_k25 K G E _ [some (.str text), none, none, none, none, none, none, none, none] H
  have BL : 100000 ≤ sizeLine := by decide
  obtain ⟨head, more, el⟩ := lns_some text
  have hd0 : (lns text).getD 0 "" = head := by rw [el]; rfl
  have tlm : tailL text = more := by
    unfold tailL
    rw [el]
    rfl
  have many := lns_many text
  have lmore : more.length ≤ 9000 := by
    rw [el, List.length_cons] at many
    omega
  have hhl : head.length ≤ 9000 := Nat.le_trans (lns_le (by rw [el]; exact List.mem_cons_self)) htl
  have mle : ∀ l, l ∈ more → l.length ≤ 9000 := fun l hl => Nat.le_trans (lns_le (by rw [el]; exact List.mem_cons_of_mem _ hl)) htl
  unfold t_read_k25
  walk_at "g"
  refine g_split ?_
  walk_at "g"
  refine ⟨⟨_, rfl⟩, ?_⟩
  walk_at "g"
  refine ⟨text, "\n", rfl, rfl, by decide +kernel, by omega, ?_⟩
  intro p np
  show tSeq _ _ _ [some (.str text), some (.ref p), none, none, none, none, none, none, none] (upd H p (.lst ((lns text).map V.str)))
  rw [el]
  obtain ⟨W, hW⟩ : ∃ W, (head :: more).map V.str = W := ⟨_, rfl⟩
  have lw : W.length = more.length + 1 := by rw [← hW, List.length_map, List.length_cons]
  have w0 : W[0]? = some (.str head) := by rw [← hW]; rfl
  have c1 : cutV W (some (1 : Int)) none = more.map V.str := (cut_drop2 (i := 1) (by omega)).trans (by rw [← hW]; rfl)
  rw [hW]
  have led1 : Led H [(p, .lst W)] (upd H p (.lst W)) := (Led.nil H).alloc np _
  generalize upd H p (.lst W) = H1 at led1
  walk_at "g"
  refine g_split ?_
  walk_at "g"
  refine g_ixV (led1.sq 0 rfl) (by omega) (v := .str head) w0 ?_
  refine ⟨⟨_, rfl⟩, ?_⟩
  walk_at "g"
  refine ⟨head, " ", rfl, rfl, by decide +kernel, by omega, ?_⟩
  intro p2 np2
  show tSeq _ _ _ [some (.str text), some (.ref p), some (.ref p2), none, none, none, none, none, none] (upd H1 p2 (.lst ((wds head).map V.str)))
  have led2 : Led H [(p, .lst W), (p2, .lst ((wds head).map V.str))] (upd H1 p2 (.lst ((wds head).map V.str))) := led1.alloc np2 _
  generalize upd H1 p2 (.lst ((wds head).map V.str)) = H2 at led2
  walk_at "g"
  try refine g_len (led2.sq 1 rfl) ?_
  try walk_at "g"
  refine ifN (fun h2 => ?_) (fun h2 => ?_)
  · walk_at "g"
    refine no (fun ok => ?_) _ led2.same
    obtain ⟨w, ew, _⟩ := ok.head
    rw [hd0] at ew
    rw [ew] at h2
    exact h2 rfl
  obtain ⟨w1, w2, ew⟩ : ∃ w1 w2, wds head = [w1, w2] := by
    have z : (wds head).length = 2 := by
      rw [List.length_map] at h2
      omega
    match hh : wds head, z with
    | [a, b], _ => exact ⟨a, b, rfl⟩
  have w2l : w2.length ≤ 9000 := Nat.le_trans (wds_le (l := head) (by rw [ew]; simp)) hhl
  rw [ew] at led2
  walk_at "g"
  refine g_ixV (led2.sq 1 rfl) (by omega) (v := .str w1) rfl ?_
  walk_at "g"
  refine ifN (fun h3 => ?_) (fun h3 => ?_)
  · walk_at "g"
    refine no (fun ok => ?_) _ led2.same
    obtain ⟨w, ew2, _⟩ := ok.head
    rw [hd0, ew] at ew2
    exact h3 (List.cons.inj ew2).1
  subst h3
  walk_at "g"
  refine g_ixV (led2.sq 1 rfl) (by omega) (v := .str w2) rfl ?_
  walk_at "g"
  unfold sp_number_of
  refine ⟨w2, rfl, by omega, fun bad => no (fun ok => bad ?_) _ led2.same, fun nok => ?_⟩
  · obtain ⟨w, ew2, n⟩ := ok.head
    rw [hd0, ew] at ew2
    cases ew2
    exact n
  have hOk : HeadOk head := ⟨w2, ew, nok⟩
  have hN : headN ((lns text).getD 0 "") = numOf w2 := by
    rw [hd0]
    unfold headN
    rw [ew]
    rfl
  walk_at "g"
  unfold t_read_k25_c4
  walk_at "g"
  refine ⟨p, _, rfl, led2.sq 0 rfl, fun p3 np3 => ?_⟩
  rw [c1]
  have gX : ∀ j, j < more.length → (more.map V.str)[j]? = some (.str (more.getD j "")) := fun j hj => by
    rw [List.getElem?_map, List.getElem?_eq_getElem hj, List.getD_eq_getElem?_getD, List.getElem?_eq_getElem hj]
    rfl
  have lX : (more.map V.str).length = more.length := List.length_map _
  generalize more.map V.str = X at gX lX
  have led3 := led2.alloc np3 (.lst X)
  generalize upd H2 p3 (.lst X) = H3 at led3 ⊢
  have s03 := led3.same
  refine ⟨p3, rfl, ⟨_, led3.sq 2 rfl⟩, ?_⟩
  have rowG : ∀ i, i < more.length → (rowsT text).getD i [] = siteR (more.getD i "") := fun i hi => by
    unfold rowsT
    rw [tlm]
    exact map_getD hi
  have staG : ∀ i, i < more.length → SiteOk (more.getD i "") → siteN (more.getD i "") = [(staT text).turns.getD i 0, (staT text).loads.getD i 0, (staT text).steps.getD i 0] := fun i hi so => by
    have a : (staT text).turns.getD i 0 = (siteN (more.getD i "")).getD 0 0 := by
      show ((tailL text).map _).getD i 0 = _
      rw [tlm]
      exact map_getD hi
    have b : (staT text).loads.getD i 0 = (siteN (more.getD i "")).getD 1 0 := by
      show ((tailL text).map _).getD i 0 = _
      rw [tlm]
      exact map_getD hi
    have c : (staT text).steps.getD i 0 = (siteN (more.getD i "")).getD 2 0 := by
      show ((tailL text).map _).getD i 0 = _
      rw [tlm]
      exact map_getD hi
    obtain ⟨x, y, z, _, _, e2, _⟩ := so.words
    rw [a, b, c, e2]
    rfl
  refine lcL (xs := X) (fun D k H' => (∀ i, i < k → SiteOk (more.getD i "")) ∧ ∃ ds ps qs : List Addr, ds.length = k ∧ Parts (rowsT text) (staT text) H3 H' ds ps qs ∧ Led H3 [(D, .lst (ds.map V.ref))] H') (fun D nD => ⟨fun i hi => absurd hi (Nat.not_lt_zero i), [], [], [], rfl, ⟨rfl, rfl, fun i d p q h => by simp at h⟩, (Led.nil H3).alloc nD _⟩) (fun D k H1 _ ⟨_, _, _, _, _, _, l1⟩ => l1.base (led3.sq 2 rfl)) (fun _ => rfl) ?_ ?_
  · rintro D k v H' nD hv ⟨sos, ds, ps, qs, dl, P, l1⟩
    have hk : k < more.length := by
      have := (List.getElem?_eq_some_iff.mp hv).1
      omega
    rw [gX k hk] at hv
    cases hv
    walk_at "g"
    refine c_site_of_k25 (mle _ (getD_mem hk)) (fun bad H4 s4 => no (fun ok => bad (ok.line _ (by rw [tlm]; exact getD_mem hk)).site) H4 (s03.trans (l1.same.trans s4))) fun so T A Y H4 s4 nT nA nY eT eA eY => ?_
    rw [staG k hk so] at eA
    rw [← rowG k hk] at eY
    have l2 := l1.ext s4
    have hD := l2.get 0 rfl
    have hDH := l1.get 0 rfl
    have off : ∀ y, H' y = none → y ≠ D := fun y hy e => by rw [e, hDH] at hy; cases hy
    refine ⟨_, hD, by rw [List.length_map, dl]; exact Nat.lt_of_lt_of_le (show k < 10000 by omega) (by decide), fun i hi => ?_, ds ++ [T], ps ++ [A], qs ++ [Y], by rw [List.length_append, dl]; rfl, ⟨by rw [List.length_append, List.length_append, P.lp]; rfl, by rw [List.length_append, List.length_append, P.lq]; rfl, fun i d a y h1 h2 h3 => ?_⟩, ?_⟩
    · by_cases z : i < k
      · exact sos i z
      · have : i = k := by omega
        rw [this]
        exact so
    · have lp := P.lp
      have lq := P.lq
      by_cases z : i < k
      · rw [List.getElem?_append_left (by omega)] at h1 h2 h3
        obtain ⟨x1, x2, x3⟩ := P.at_ i d a y h1 h2 h3
        have o1 : d ≠ D := fun e => by rw [e, hDH] at x1; cases x1
        have o2 : a ≠ D := fun e => by
          rw [e, hDH] at x2
          have := (Option.some.inj x2)
          cases hds : ds with
          | nil => rw [hds] at this; cases this
          | cons u us => rw [hds] at this; cases this
        have o3 : y ≠ D := fun e => by
          rw [e, hDH] at x3
          have := (Option.some.inj x3)
          have r1 := (siteR_len (sos i z)).2
          rw [← rowG i (by omega)] at r1
          cases hrr : (rowsT text).getD i [] with
          | nil => rw [hrr] at r1; simp at r1
          | cons g gs =>
            rw [hrr] at this
            cases hds : ds with
            | nil => rw [hds] at this; cases this
            | cons u us => rw [hds] at this; cases this
        rw [upd_ne o1, upd_ne o2, upd_ne o3]
        exact ⟨s4 _ _ x1, s4 _ _ x2, s4 _ _ x3⟩
      · have hi : i < (ds ++ [T]).length := (List.getElem?_eq_some_iff.mp h1).1
        rw [List.length_append, dl] at hi
        have : i = k := by simp at hi; omega
        subst this
        rw [List.getElem?_append_right (by omega), dl, Nat.sub_self] at h1
        rw [List.getElem?_append_right (by omega), lp, dl, Nat.sub_self] at h2
        rw [List.getElem?_append_right (by omega), lq, dl, Nat.sub_self] at h3
        cases h1
        cases h2
        cases h3
        rw [upd_ne (off _ nT), upd_ne (off _ nA), upd_ne (off _ nY)]
        exact ⟨eT, eA, eY⟩
    · rw [List.map_append]
      exact l2.set (i := 0) rfl _
  rintro D H4 nD ⟨sos, ds, ps, qs, dl, P, l1⟩
  rw [lX] at dl sos
  have allS : ∀ l, l ∈ tailL text → SiteOk l := fun l hl => by
    rw [tlm] at hl
    obtain ⟨i, hi, e⟩ := List.getElem_of_mem hl
    have := sos i hi
    rw [List.getD_eq_getElem?_getD, List.getElem?_eq_getElem hi] at this
    rw [← e]
    exact this
  have nn : ∀ x, x ∈ (staT text).loads → 0 ≤ x := loads_low allS
  have rl : (rowsT text).length = more.length := by rw [rowsT_len, tlm]
  have ltn : (staT text).turns.length = (rowsT text).length := by
    show ((tailL text).map _).length = _
    rw [List.length_map, rl, tlm]
  have lln : (staT text).loads.length = (rowsT text).length := by
    show ((tailL text).map _).length = _
    rw [List.length_map, rl, tlm]
  have lsn : (staT text).steps.length = (rowsT text).length := by
    show ((tailL text).map _).length = _
    rw [List.length_map, rl, tlm]
  have rmax : ∀ row, row ∈ rowsT text → row.length ≤ 10000 := fun row hr => by
    obtain ⟨l, hl, rfl⟩ := List.mem_map.mp hr
    have z := siteR_len (allS l hl)
    have w := wds_many l
    have := mle l (by rw [← tlm]; exact hl)
    omega
  have build : OkRows (rowsT text) → (∀ k, k < (rowsT text).length → 0 ≤ (staT text).turns.getD k 0 ∧ (staT text).turns.getD k 0 < ((rowsT text).getD k []).length) → (staT text).loads.sum ≤ 400 → ReadOk text :=
    readOk_of (by rw [hd0]; exact hOk) allS
  rw [← hN]
  have tk0 : (staT text).taken = headN ((lns text).getD 0 "") := rfl
  rw [← tk0]
  rw [← rl] at dl
  generalize hrows : rowsT text = rows at *
  generalize hC : staT text = C at *
  have s34 := l1.same
  have sD : SqL K H4 D (ds.map V.ref) := l1.sq 0 rfl
  walk_at "g"
  try refine g_lstw sD ?_
  refine lcL (xs := ds.map V.ref) (fun Y k H' => Led H4 [(Y, .lst ((qs.take k).map V.ref))] H') (fun Y nY => (Led.nil H4).alloc nY _) (fun Y k H1 _ l => l.base sD) (fun _ => rfl) ?_ ?_
  · rintro Y k v H' nY hv l2
    have hk : k < ds.length := by
      have := (List.getElem?_eq_some_iff.mp hv).1
      simpa using this
    obtain ⟨d, a, y, ed, t1, t2, ey, t3⟩ := P.get hk
    rw [List.getElem?_map, ed] at hv
    cases hv
    walk_at "g"
    refine g_ixT (l2.same _ _ t1) (by decide) rfl ?_
    refine ⟨_, l2.get 0 rfl, by rw [List.length_map, List.length_take]; exact Nat.lt_of_lt_of_le (show min k qs.length < 10000 by omega) (by decide), ?_⟩
    have e : (qs.take (k + 1)).map V.ref = (qs.take k).map V.ref ++ [V.ref y] := by
      rw [List.take_add_one, ey, List.map_append]
      rfl
    rw [e]
    exact l2.set (i := 0) rfl _
  rintro Y H5 nY l2
  have lq := P.lq
  have RY : RowsAt H5 Y rows := by
    refine ⟨qs, ?_, by omega, fun i a row h1 h2 => ?_⟩
    · have := l2.get 0 rfl
      rw [List.length_map, show ds.length = qs.length by omega, List.take_length] at this
      exact this
    · have hi : i < rows.length := (List.getElem?_eq_some_iff.mp h2).1
      obtain ⟨d, p', y, ed, t1, t2, ey, t3⟩ := P.get (show i < ds.length by omega)
      rw [h1] at ey
      cases ey
      rw [List.getD_eq_getElem?_getD, h2] at t3
      exact l2.same _ _ t3
  have P5 := P.mono l2.same
  have sD5 := l2.base sD
  have s05 : Same H H5 := s03.trans (s34.trans l2.same)
  have noRows : ¬ OkRows rows → ∀ H', Same H5 H' → E (.ref G.NoBoard) none H' := fun bad H' s => no (fun ok => bad (by rw [← hrows]; exact ok.rows)) H' (s05.trans s)
  walk_at "g"
  refine c_Board RY (by omega) rmax (fun bad H6 s6 => ?_) (fun _ _ bad H6 s6 => ?_) fun ok b dx r t l s H6 N6 => ?_
  · refine ⟨true, e1, fun _ y ny => ?_, fun h => by cases h⟩
    walk_at "g"
    exact noRows (fun ok => by have := ok.1; have := ok.2.1; omega) H6 s6
  · refine ⟨true, e2, fun _ y ny => ?_, fun h => by cases h⟩
    walk_at "g"
    exact noRows bad H6 s6
  have hn := ok.2.1
  have hn0 := ok.1
  obtain ⟨B, sB, nr, led⟩ := N6
  have P6 := P5.mono sB
  have sDB := sB.seq sD5
  have hr : RowsAt B r rows := nr.at_
  have led : Led B (bl G.Board b dx r t l s (upTo 0 C.turns) (upTo 0 C.loads) (List.replicate rows.length 0) 0) H6 := by
    rw [upTo_zero, upTo_zero, ltn, lln]
    exact led
  walk_at "g"
  try refine g_len (led.base sDB) ?_
  try walk_at "g"
  try rw [List.length_map, dl]
  try walk_at "g"
  refine loopR (fun k σ H' => (∃ v, σ = [some (.str text), some (.ref p), some (.ref p2), some (.int C.taken), some (.ref D), some (.ref b), v, none, none]) ∧ (∀ j, j < k → 0 ≤ C.turns.getD j 0 ∧ C.turns.getD j 0 < (rows.getD j []).length) ∧ (upTo k C.loads).sum ≤ 400 ∧ Led B (bl G.Board b dx r t l s (upTo k C.turns) (upTo k C.loads) (List.replicate rows.length 0) 0) H') ⟨⟨_, rfl⟩, fun j hj => absurd hj (Nat.not_lt_zero j), by rw [upTo_zero]; simp, led⟩ ?_ ?_
  · rintro k σ H' hk ⟨⟨v, rfl⟩, tks, sm, led⟩
    have hk : k < rows.length := by simpa using hk
    have e0 : (0 + (k : Int)).toNat = k := by omega
    obtain ⟨d, a, y, ed, t1, t2, _, _⟩ := (P6.mono led.same).get (show k < ds.length by omega)
    have ixd : ∀ H'' : Hp, Same H' H'' → (ds.map V.ref)[(0 + (k : Int)).toNat]? = some (V.ref d) := fun _ _ => by rw [e0, List.getElem?_map, ed]; rfl
    show tSeq _ _ _ [some (.str text), some (.ref p), some (.ref p2), some (.int C.taken), some (.ref D), some (.ref b), some (.int (0 + k)), none, none] H'
    walk_at "g"
    refine g_self (led.get 0 rfl) bm_turn_to ?_
    walk_at "g"
    refine g_ixV (led.base sDB) (by omega) (ixd H' (Same.refl _)) ?_
    walk_at "g"
    refine g_ixT t1 (by decide) rfl ?_
    walk_at "g"
    try refine g_ixI (SqL.of t2) (by decide) (by show (0 : Int) < 3; decide) ?_
    try walk_at "g"
    refine c_turn_any led (i := 0) ⟨rfl, rfl, rfl, rfl, hr⟩ (by rw [upTo_len]; exact ltn) (by omega) (by omega) (fun bad => ?_) fun tk0 tk1 H7 led7 => ?_
    · refine ⟨true, e3, fun _ y ny => ?_, fun h => by cases h⟩
      walk_at "g"
      refine no (fun rok => bad ?_) H' (s05.trans (sB.trans led.same))
      have z := rok.sok.tk.2 k (by rw [hrows]; exact hk)
      rw [hrows, hC] at z
      rw [e0]
      exact z
    rw [e0] at led7 tk1
    have led7 : Led B (bl G.Board b dx r t l s ((upTo k C.turns).set k (C.turns.getD k 0)) (upTo k C.loads) (List.replicate rows.length 0) 0) H7 := led7
    rw [upTo_set (by omega)] at led7
    obtain ⟨d', a', y', ed', t1', t2', _, _⟩ := (P6.mono led7.same).get (show k < ds.length by omega)
    have dd : d' = d := by rw [ed] at ed'; exact (Option.some.inj ed').symm
    subst dd
    walk_at "g"
    refine g_self (led7.get 0 rfl) bm_load ?_
    walk_at "g"
    refine g_ixV (led7.base sDB) (by omega) (ixd H' (Same.refl _)) ?_
    walk_at "g"
    refine g_ixT t1' (by decide) rfl ?_
    walk_at "g"
    try refine g_ixI (SqL.of t2') (by decide) (by show (1 : Int) < 3; decide) ?_
    try walk_at "g"
    have hsum := upTo_sum nn k (by omega)
    refine c_load_any led7 (i := 0) ⟨rfl, rfl, rfl, rfl, hr⟩ (by rw [upTo_len]; exact lln) (by omega) (by omega) (fun bad => ?_) fun fit H8 led8 => ?_
    · refine ⟨true, e4, fun _ y ny => ?_, fun h => by cases h⟩
      walk_at "g"
      refine no (fun rok => ?_) H7 (s05.trans (sB.trans led7.same))
      have z : (staT text).loads.sum ≤ 400 := rok.sum
      rw [hC] at z
      have bad : 400 < (upTo k C.loads).sum + C.loads.getD k 0 := bad
      omega
    rw [e0, upTo_get (by omega), if_neg (by omega), Int.zero_add] at led8
    have led8 : Led B (bl G.Board b dx r t l s (upTo (k + 1) C.turns) ((upTo k C.loads).set k (C.loads.getD k 0)) (List.replicate rows.length 0) 0) H8 := led8
    have fit : (upTo k C.loads).sum + C.loads.getD k 0 ≤ 400 := fit
    rw [upTo_set (by omega)] at led8
    walk_at "g"
    refine ⟨⟨_, rfl⟩, fun j hj => ?_, ?_, led8⟩
    · by_cases z : j < k
      · exact tks j z
      · have : j = k := by omega
        subst this
        exact ⟨tk0, tk1⟩
    · rw [← upTo_set (by omega), sum_setD (by rw [upTo_len]; omega), upTo_get (by omega), if_neg (by omega)]
      omega
  · rintro σ H' ⟨⟨v, rfl⟩, tks, sm, led⟩
    have e : ((rows.length : Int)).toNat = rows.length := by omega
    have fin : (∀ j, j < rows.length → 0 ≤ C.turns.getD j 0 ∧ C.turns.getD j 0 < (rows.getD j []).length) ∧ C.loads.sum ≤ 400 ∧ Led B (bl G.Board b dx r t l s C.turns C.loads (List.replicate rows.length 0) 0) H' := by
      have z1 := upTo_all C.turns
      have z2 := upTo_all C.loads
      rw [ltn] at z1
      rw [lln] at z2
      first
        | (rw [e] at tks sm led; rw [z2] at sm; rw [z1, z2] at led; exact ⟨tks, sm, led⟩)
        | (rw [show ((rows.length : Int) - 0).toNat = rows.length by omega] at tks sm led; rw [z2] at sm; rw [z1, z2] at led; exact ⟨tks, sm, led⟩)
        | (rw [z2] at sm; rw [z1, z2] at led; exact ⟨tks, sm, led⟩)
    obtain ⟨tks, sm, led⟩ := fin
    have rok := build ok tks sm
    have PH := P6.mono led.same
    have sDH := led.base sDB
    walk_at "g"
    unfold t_read_k25_c6
    walk_at "g"
    try refine g_lstw sDH ?_
    refine lcLI (xs := ds.map V.ref) (fun ns => ns = C.steps.take ns.length) rfl (by rw [List.length_map]; omega) sDH (fun _ => rfl) ?_ ?_
    · intro Z k v ns H7 R hx el pn l7 qs'
      have hk : k < ds.length := by
        have := (List.getElem?_eq_some_iff.mp hx).1
        simpa using this
      obtain ⟨d, a, y, ed, t1, t2, _, _⟩ := (PH.mono l7.same).get hk
      rw [List.getElem?_map, ed] at hx
      cases hx
      walk_at "g"
      refine g_ixT t1 (by decide) rfl ?_
      walk_at "g"
      try refine g_ixI (SqL.of t2) (by decide) (by show (2 : Int) < 3; decide) ?_
      try walk_at "g"
      refine qs' (C.steps.getD k 0) H7 ?_ l7
      rw [List.length_append, el]
      show ns ++ [C.steps.getD k 0] = C.steps.take (k + 1)
      have pn2 : ns = C.steps.take k := by rw [el] at pn; exact pn
      rw [pn2, take_getD (d := (0 : Int)) (by omega)]
    intro Z ns H7 nZ el pn s7 e7
    have en : ns = C.steps := by
      rw [el, List.length_map, dl, ← lsn, List.take_length] at pn
      exact pn
    subst en
    have led7 := led.add s7 nZ e7
    walk_at "g"
    refine g_put led7 0 rfl bd.cl bd.n_steps bf_len bf_psteps fun H8 led8 => ?_
    walk_at "g"
    refine g_put led8 0 rfl bd.cl bd.n_taken bf_len bf_ptaken fun H9 led9 => ?_
    have led9 : Led B [(b, .ins G.Board dx (bf r t l Z C.taken)), (t, ilst C.turns), (l, ilst C.loads), (s, ilst (List.replicate rows.length 0)), (Z, ilst C.steps)] H9 := led9
    walk_at "g"
    refine q rok b dx r t l Z H9 ⟨B, s05.trans sB, nr.back s05, ?_⟩
    exact led9.sub (.cons₂ _ (.cons₂ _ (.cons₂ _ (.cons _ (.refl _)))))

@[irreducible] def sp_number (_ : PySem.W.Frag) (_ : Ads) : Sp := fun vs H Q _ => ∃ w : Str, vs = [.str w] ∧ w.length ≤ 100000 ∧ (¬ NumOk w → Q (.int (-2)) H) ∧ (NumOk w → Q (.int (numOf w)) H)
theorem len_number {K : PySem.W.Frag} {G : Ads} {vs H Q E} (h : sp_number K G vs H Q E) : vs.length = 1 := by
  unfold sp_number at h
  obtain ⟨_, rfl, _⟩ := h
  rfl
theorem c_number {K : PySem.W.Frag} {G : Ads} {H : Hp} {Q : VK} {E : XK} {w : Str} (hl : w.length ≤ 100000) (q : ∀ n : Int, (NumOk w ∧ n = numOf w ∨ ¬ NumOk w ∧ n = -2) → Q (.int n) H) : sp_number K G [.str w] H Q E := by
  unfold sp_number
  exact ⟨w, rfl, hl, fun h => q _ (.inr ⟨h, rfl⟩), fun h => q _ (.inl ⟨h, rfl⟩)⟩
def t_number (K : PySem.W.Frag) (G : Ads) (E : XK) : TS :=
  (tSeq (tIfS (tOr (tTest (tOp rEq (tVar 0) (tC (.str "")))) (tOr (tTest (tOp mGt (tCB mLenS (tCons (tVar 0) tNil)) (tC (.int 20)))) (tAnd (tTest (tOp mGt (tCB mLenS (tCons (tVar 0) tNil)) (tC (.int 1)))) (tTest (tOp rEq (tOp rIxS (tVar 0) (tC (.int 0))) (tC (.str "0")))))))
    (tRet (tUn mNeg (tC (.int 2))))
    tNext)
    (tSeq (tFor (iStr (tVar 0)) (gName 1)
    (tIfS (tTest (tOp rNotInS (tVar 1) (tC (.str "0123456789"))))
    (tRet (tUn mNeg (tC (.int 2))))
    tNext))
    (tRet (tCB mIntS (tCons (tVar 0) tNil)))))
abbrev N_number : List Str := ["word", "sign"]

theorem pure_number {K : PySem.W.Frag} {G : Ads} {vs H Q E} (h : sp_number K G vs H Q E) : t_number K G E { nx := fun _ H' => Q .non H', rt := Q } (start N_number vs) H := by
  unfold sp_number at h
  obtain ⟨w, rfl, hl, q1, q2⟩ := h
  show t_number K G E _ [some (.str w), none] H
  unfold t_number
  have lc := len_cps w
  walk_at "g"
  refine ifP (fun h0 => ?_) (fun h0 => ?_)
  · walk_at "g"
    exact q1 fun ok => ok.1 (empty_iff.mp h0)
  have ne : w.cps.toList ≠ [] := fun z => h0 (empty_iff.mpr z)
  walk_at "g"
  refine g_lenS hl ?_
  walk_at "g"
  refine ifP (fun h1 => ?_) (fun h1 => ?_)
  · walk_at "g"
    exact q1 fun ok => by have := ok.2.1; omega
  obtain ⟨c, cs, hc⟩ : ∃ c cs, w.cps.toList = c :: cs := by
    cases z : w.cps.toList with
    | nil => exact absurd z ne
    | cons c cs => exact ⟨c, cs, rfl⟩
  have rest : (c = 48 → w.length = 1) → tSeq (tFor (iStr (tVar 0)) (gName 1) (tIfS (tTest (tOp rNotInS (tVar 1) (tC (.str "0123456789")))) (tRet (tUn mNeg (tC (.int 2)))) tNext)) (tRet (tCB mIntS (tCons (tVar 0) tNil))) { nx := fun _ H' => Q .non H', rt := Q } [some (.str w), none] H := by
    intro h2
    walk_at "g"
    refine g_forS ?_
    walk_at "g"
    refine ⟨w, rfl, ?_⟩
    refine loopS (fun k σ H' => (∃ v, σ = [some (.str w), v]) ∧ H' = H ∧ ∀ j, j < k → ∀ d, w.cps.toList[j]? = some d → 48 ≤ d ∧ d ≤ 57) ⟨⟨_, rfl⟩, rfl, fun j hj => by omega⟩ ?_ ?_
    · rintro k d σ H' hd ⟨⟨v, rfl⟩, rfl, hall⟩
      show tIfS _ _ _ _ [some (.str w), some (.str ⟨#[d]⟩)] H'
      walk_at "g"
      refine ⟨d, _, rfl, rfl, ?_⟩
      walk_at "g"
      refine ifN (fun h3 => ?_) (fun h3 => ?_)
      · walk_at "g"
        exact q1 fun ok => h3 (in_figs.mpr (ok.2.2.2 d (List.mem_of_getElem? hd)))
      · walk_at "g"
        refine ⟨⟨_, rfl⟩, rfl, fun j hj d2 hd2 => ?_⟩
        by_cases z : j < k
        · exact hall j z d2 hd2
        · have : j = k := by omega
          subst this
          rw [hd] at hd2
          cases hd2
          exact in_figs.mp h3
    · rintro σ H' ⟨⟨v, rfl⟩, rfl, hall⟩
      have ok : NumOk w := ⟨ne, by omega, fun z => h2 (by rw [hc] at z; exact Option.some.inj z), fun d hd => by
        obtain ⟨j, hj, e⟩ := List.getElem_of_mem hd
        exact hall j hj d (by rw [List.getElem?_eq_getElem hj, e])⟩
      walk_at "g"
      refine g_intS ok.reads (by omega) ?_
      exact q2 ok
  walk_at "g"
  refine g_lenS hl ?_
  walk_at "g"
  refine ifP (fun h2 => ?_) (fun h2 => ?_)
  · walk_at "g"
    refine g_ixS (c := c) hl (by omega) (by rw [hc]; rfl) ?_
    walk_at "g"
    refine ifP (fun h3 => ?_) (fun h3 => ?_)
    · walk_at "g"
      refine q1 fun ok => ?_
      have := ok.2.2.1 (by rw [hc, zero_iff.mp h3]; rfl)
      omega
    · refine g_next ?_
      exact rest fun z => absurd (zero_iff.mpr z) h3
  · refine g_next ?_
    exact rest fun _ => by
      have : w.cps.toList.length = cs.length + 1 := by rw [hc]; rfl
      omega

@[irreducible] def sp_exit (_ : PySem.W.Frag) (_ : Ads) : Sp := fun vs H Q _ => ∃ w : Str, vs = [.str w] ∧ w.length ≤ 100000 ∧ ∀ n : Int, (ExW w ∧ n = exW w ∨ ¬ ExW w ∧ n = -2) → Q (.int n) H
theorem len_exit {K : PySem.W.Frag} {G : Ads} {vs H Q E} (h : sp_exit K G vs H Q E) : vs.length = 1 := by
  unfold sp_exit at h
  obtain ⟨_, rfl, _⟩ := h
  rfl
theorem c_exit {K : PySem.W.Frag} {G : Ads} {H : Hp} {Q : VK} {E : XK} {w : Str} (hl : w.length ≤ 100000) (q : ∀ n : Int, (ExW w ∧ n = exW w ∨ ¬ ExW w ∧ n = -2) → Q (.int n) H) : sp_exit K G [.str w] H Q E := by
  unfold sp_exit
  exact ⟨w, rfl, hl, q⟩
def t_exit (K : PySem.W.Frag) (G : Ads) (E : XK) : TS :=
  (tSeq (tIfS (tTest (tOp rEq (tVar 0) (tC (.str "pit"))))
    (tRet (tUn mNeg (tC (.int 1))))
    tNext)
    (tRet (tCall (sp_number K G) [] E0 (tCons (tVar 0) tNil))))
abbrev N_exit : List Str := ["word"]

theorem pure_exit {K : PySem.W.Frag} {G : Ads} {vs H Q E} (h : sp_exit K G vs H Q E) : t_exit K G E { nx := fun _ H' => Q .non H', rt := Q } (start N_exit vs) H := by
  unfold sp_exit at h
  obtain ⟨w, rfl, hl, q⟩ := h
  show t_exit K G E _ [some (.str w)] H
  unfold t_exit
  walk_at "g"
  refine ifP (fun h0 => ?_) (fun h0 => ?_)
  · walk_at "g"
    exact q (-1) (.inl ⟨.inl h0, (if_pos h0).symm⟩)
  · walk_at "g"
    refine c_number hl fun n hn => q n ?_
    rcases hn with ⟨a, e⟩ | ⟨a, e⟩
    · exact .inl ⟨.inr a, e.trans (if_neg h0).symm⟩
    · exact .inr ⟨fun z => z.elim h0 a, e⟩

@[irreducible] def sp_writes (_ : PySem.W.Frag) (_ : Ads) : Sp := fun vs H Q _ => ∃ z : Str, vs = [.str z] ∧ z.length ≤ 9000 ∧ ∀ (b : Bool) (H' : Hp), Same H H' → (b = true ↔ ReadOk z) → Q (.bl b) H'
theorem len_writes {K : PySem.W.Frag} {G : Ads} {vs H Q E} (h : sp_writes K G vs H Q E) : vs.length = 1 := by
  unfold sp_writes at h
  obtain ⟨_, rfl, _⟩ := h
  rfl
theorem c_writes {K : PySem.W.Frag} {G : Ads} {H : Hp} {Q : VK} {E : XK} {z : Str} (hl : z.length ≤ 9000) (q : ∀ (b : Bool) (H' : Hp), Same H H' → (b = true ↔ ReadOk z) → Q (.bl b) H') : sp_writes K G [.str z] H Q E := by
  unfold sp_writes
  exact ⟨z, rfl, hl, q⟩
def t_writes_c4_4 (K : PySem.W.Frag) (G : Ads) (E : XK) : TS :=
  (tSeq (tIfS (tOr (tTest (tOp mLt (tCB (rMin K) (tCons (tVar 6) tNil)) (tC (.int 0)))) (tOr (tTest (tOp mLt (tCB (rMin K) (tCons (tVar 7) tNil)) (tUn mNeg (tC (.int 1))))) (tOr (tTest (tOp mGe (tCB (rMax K) (tCons (tVar 7) tNil)) (tVar 2))) (tTest (tOp mGe (tOp (rIxL K) (tVar 6) (tC (.int 0))) (tCB (mLen K) (tCons (tVar 7) tNil)))))))
    (tRet (tC (.bl false)))
    tNext)
    (tAsg (tOp mAdd (tVar 3) (tOp (rIxL K) (tVar 6) (tC (.int 1)))) (gName 3)))
def t_writes (K : PySem.W.Frag) (G : Ads) (E : XK) : TS :=
  (tSeq (tAsg (tSplit K (tVar 0) (tC (.str "\n"))) (gName 1))
    (tSeq (tAsg (tOp mSub (tCB (mLen K) (tCons (tVar 1) tNil)) (tC (.int 1))) (gName 2))
    (tSeq (tIfS (tOr (tTest (tOp rNe (tSl rSlS (tOp (rIxL K) (tVar 1) (tC (.int 0))) tNoPart (tPart (tC (.int 6)))) (tC (.str "board ")))) (tOr (tTest (tOp mLt (tCall (sp_number K G) [] E0 (tCons (tSl rSlS (tOp (rIxL K) (tVar 1) (tC (.int 0))) (tPart (tC (.int 6))) tNoPart) tNil)) (tC (.int 0)))) (tOr (tTest (tOp mLt (tVar 2) (tC (.int 1)))) (tTest (tOp mGt (tVar 2) (tC (.int 12)))))))
    (tRet (tC (.bl false)))
    tNext)
    (tSeq (tAsg (tC (.int 0)) (gName 3))
    (tSeq (tFor (iList K (tSl (rSlL K) (tVar 1) (tPart (tC (.int 1))) tNoPart)) (gName 4)
    (tSeq (tAsg (tSplit K (tVar 4) (tC (.str " "))) (gName 5))
    (tSeq (tIfS (tOr (tTest (tOp mLt (tCB (mLen K) (tCons (tVar 5) tNil)) (tC (.int 5)))) (tOr (tTest (tOp mGt (tCB (mLen K) (tCons (tVar 5) tNil)) (tC (.int 12)))) (tTest (tOp rNe (tOp (rIxL K) (tVar 5) (tC (.int 3))) (tC (.str ">"))))))
    (tRet (tC (.bl false)))
    tNext)
    (tSeq (tAsg (tLc (iList K (tSl (rSlL K) (tVar 5) tNoPart (tPart (tC (.int 3))))) (gName 8) tYes (tCall (sp_number K G) [] E0 (tCons (tVar 8) tNil)) [8]) (gName 6))
    (tSeq (tAsg (tLc (iList K (tSl (rSlL K) (tVar 5) (tPart (tC (.int 4))) tNoPart)) (gName 8) tYes (tCall (sp_exit K G) [] E0 (tCons (tVar 8) tNil)) [8]) (gName 7))
    (t_writes_c4_4 K G E))))))
    (tRet (tOp mLe (tVar 3) (tC (.int 400)))))))))
abbrev N_writes : List Str := ["signs", "lines", "many", "lying", "line", "words", "numbers", "exits", "word"]

theorem writes_end {K : PySem.W.Frag} {G : Ads} {E : XK} {D : Ends} {H : Hp} {v0 v1 v4 v5 v8 : Option V} {M S : Int} {A X : Addr} {ns ms : List Int} (sA : SqL K H A (ns.map V.int)) (sX : SqL K H X (ms.map V.int)) (l3 : ns.length = 3) (lm : 1 ≤ ms.length)
    (no : ¬ ((∀ n, n ∈ ns → 0 ≤ n) ∧ (∀ n, n ∈ ms → -1 ≤ n) ∧ (∀ n, n ∈ ms → n < M) ∧ ns.getD 0 0 < ms.length) → D.rt (.bl false) H)
    (yes : (∀ n, n ∈ ns → 0 ≤ n) → (∀ n, n ∈ ms → -1 ≤ n) → (∀ n, n ∈ ms → n < M) → ns.getD 0 0 < ms.length → D.nx [v0, v1, some (.int M), some (.int (S + ns.getD 1 0)), v4, v5, some (.ref A), some (.ref X), v8] H) :
    t_writes_c4_4 K G E D [v0, v1, some (.int M), some (.int S), v4, v5, some (.ref A), some (.ref X), v8] H := by
  unfold t_writes_c4_4
  walk_at "g"
  refine g_min sA (by omega) fun m1 hm1 le1 => ?_
  walk_at "g"
  refine ifP (fun h8 => ?_) (fun h8 => ?_)
  · walk_at "g"
    exact no fun g => by
      have := g.1 m1 hm1
      omega
  walk_at "g"
  refine g_min sX (by omega) fun m2 hm2 le2 => ?_
  walk_at "g"
  refine ifP (fun h9 => ?_) (fun h9 => ?_)
  · walk_at "g"
    exact no fun g => by
      have := g.2.1 m2 hm2
      omega
  walk_at "g"
  refine g_max sX (by omega) fun m3 hm3 le3 => ?_
  walk_at "g"
  refine ifP (fun h10 => ?_) (fun h10 => ?_)
  · walk_at "g"
    exact no fun g => by
      have := g.2.2.1 m3 hm3
      omega
  walk_at "g"
  try refine g_ixI sA (by decide) (by omega) ?_
  try walk_at "g"
  try refine g_lenI sX ?_
  try walk_at "g"
  refine ifP (fun h11 => ?_) (fun h11 => ?_)
  · walk_at "g"
    refine no fun g => ?_
    have := g.2.2.2
    have h11 : (ms.length : Int) ≤ ns.getD 0 0 := h11
    omega
  have h11 : ¬ (ms.length : Int) ≤ ns.getD 0 0 := h11
  have y := yes (fun n hn => by have := le1 n hn; omega) (fun n hn => by have := le2 n hn; omega) (fun n hn => by have := le3 n hn; omega) (by omega)
  walk_at "g"
  try refine g_ixI sA (by decide) (by omega) ?_
  try walk_at "g"
  exact y
theorem pure_writes {K : PySem.W.Frag} {G : Ads} {vs H Q E} (h : sp_writes K G vs H Q E) : t_writes K G E { nx := fun _ H' => Q .non H', rt := Q } (start N_writes vs) H := by
  unfold sp_writes at h
  obtain ⟨text, rfl, htl, q⟩ := h
  show t_writes K G E _ [some (.str text), none, none, none, none, none, none, none, none] H
  have BL : 100000 ≤ sizeLine := by decide
  obtain ⟨head, more, el⟩ := lns_some text
  have hd0 : (lns text).getD 0 "" = head := by rw [el]; rfl
  have tlm : tailL text = more := by
    unfold tailL
    rw [el]
    rfl
  have many := lns_many text
  have lmore : more.length ≤ 9000 := by
    rw [el, List.length_cons] at many
    omega
  have hhl : head.length ≤ 9000 := Nat.le_trans (lns_le (by rw [el]; exact List.mem_cons_self)) htl
  have mle : ∀ l, l ∈ more → l.length ≤ 9000 := fun l hl => Nat.le_trans (lns_le (by rw [el]; exact List.mem_cons_of_mem _ hl)) htl
  have no : ∀ H', Same H H' → ¬ ReadOk text → Q (.bl false) H' := fun H' s bad => q false H' s ⟨fun z => (nomatch z), fun ok => absurd ok bad⟩
  unfold t_writes
  walk_at "g"
  refine g_split ?_
  walk_at "g"
  refine ⟨⟨_, rfl⟩, ?_⟩
  walk_at "g"
  refine ⟨text, "\n", rfl, rfl, by decide +kernel, by omega, ?_⟩
  intro p np
  show tSeq _ _ _ [some (.str text), some (.ref p), none, none, none, none, none, none, none] (upd H p (.lst ((lns text).map V.str)))
  rw [el]
  obtain ⟨W, hW⟩ : ∃ W, (head :: more).map V.str = W := ⟨_, rfl⟩
  have lw : W.length = more.length + 1 := by rw [← hW, List.length_map, List.length_cons]
  have w0 : W[0]? = some (.str head) := by rw [← hW]; rfl
  have c1 : cutV W (some (1 : Int)) none = more.map V.str := (cut_drop2 (i := 1) (by omega)).trans (by rw [← hW]; rfl)
  rw [hW]
  have led1 : Led H [(p, .lst W)] (upd H p (.lst W)) := (Led.nil H).alloc np _
  generalize upd H p (.lst W) = H1 at led1
  walk_at "g"
  refine g_ixV (led1.sq 0 rfl) (by omega) (v := .str head) w0 ?_
  walk_at "g"
  refine g_slS (by omega) ?_
  walk_at "g"
  refine ifN (fun h1 => ?_) (fun h1 => ?_)
  · walk_at "g"
    exact no _ led1.same fun ok => h1 (head_pre (by have := ok.head; rw [hd0] at this; exact this)).1
  have eh := pre_head h1
  have hif := head_iff eh
  walk_at "g"
  refine g_ixV (led1.sq 0 rfl) (by omega) (v := .str head) w0 ?_
  walk_at "g"
  refine g_slS (by omega) ?_
  walk_at "g"
  have wl : (cutS head (some (6 : Int)) none).length ≤ 9000 := Nat.le_trans (cutS_len _ _ _) hhl
  generalize cutS head (some (6 : Int)) none = w at eh hif wl ⊢
  refine c_number (by omega) fun n hn => ?_
  walk_at "g"
  refine ifP (fun h2 => ?_) (fun h2 => ?_)
  · walk_at "g"
    refine no _ led1.same fun ok => ?_
    have ho := ok.head
    rw [hd0] at ho
    have nk := hif.mp ho
    rcases hn with ⟨_, e⟩ | ⟨bad, _⟩
    · have := nk.range
      omega
    · exact bad nk
  have hOk : HeadOk head := by
    rcases hn with ⟨a, _⟩ | ⟨_, e⟩
    · exact hif.mpr a
    · omega
  clear hn h2 h1 eh hif wl
  walk_at "g"
  refine ifP (fun h3 => ?_) (fun h3 => ?_)
  · walk_at "g"
    exact no _ led1.same fun ok => by
      have := ok.m1
      rw [tlm] at this
      omega
  walk_at "g"
  refine ifP (fun h4 => ?_) (fun h4 => ?_)
  · walk_at "g"
    exact no _ led1.same fun ok => by
      have := ok.m12
      rw [tlm] at this
      omega
  walk_at "g"
  refine ⟨p, _, rfl, led1.sq 0 rfl, fun p3 n3 => ?_⟩
  rw [c1]
  have led2 := led1.alloc n3 (.lst (more.map V.str))
  generalize upd H1 p3 (.lst (more.map V.str)) = H2 at led2 ⊢
  refine ⟨p3, rfl, ⟨_, led2.sq 1 rfl⟩, ?_⟩
  have s02 := led2.same
  have ll : (loadsL text).length = more.length := by
    unfold loadsL
    rw [List.length_map, tlm]
  have f1 : ∀ i, i < more.length → (loadsL text).getD i 0 = (siteN (more.getD i "")).getD 1 0 := fun i hi => by
    unfold loadsL
    rw [tlm]
    exact map_getD hi
  refine loopL (xs := more.map V.str) (fun k σ H' => (∃ v4 v5 v6 v7, σ = [some (.str text), some (.ref p), some (.int ((W.length : Int) - 1)), some (.int ((loadsL text).take k).sum), v4, v5, v6, v7, none]) ∧ (∀ i, i < k → LineOk more.length (more.getD i "")) ∧ Same H2 H') ⟨⟨_, _, _, _, rfl⟩, fun i hi => absurd hi (Nat.not_lt_zero i), Same.refl _⟩ (fun k σ H' _ ⟨_, _, s⟩ => s.seq (led2.sq 1 rfl)) ?_ ?_
  · rintro k x σ H' hx ⟨⟨v4, v5, v6, v7, rfl⟩, lok, s2⟩
    obtain ⟨l, hl, rfl⟩ := str_at hx
    have lm := List.mem_of_getElem? hl
    have l9 := mle l lm
    have hk : k < more.length := (List.getElem?_eq_some_iff.mp hl).1
    have gl : more.getD k "" = l := by
      rw [List.getD_eq_getElem?_getD, hl]
      rfl
    have s0' : Same H H' := s02.trans s2
    have okl : ReadOk text → LineOk more.length l := fun ok => by
      have := ok.line l (by rw [tlm]; exact lm)
      rw [tlm] at this
      exact this
    have wl := wds_many l
    have wle : ∀ w, w ∈ wds l → w.length ≤ 9000 := fun w hw => Nat.le_trans (wds_le hw) l9
    show tSeq _ _ _ [some (.str text), some (.ref p), some (.int ((W.length : Int) - 1)), some (.int ((loadsL text).take k).sum), some (.str l), v5, v6, v7, none] H'
    walk_at "g"
    refine g_split ?_
    walk_at "g"
    refine ⟨⟨_, rfl⟩, ?_⟩
    walk_at "g"
    refine ⟨l, " ", rfl, rfl, by decide +kernel, by omega, ?_⟩
    intro p5 np5
    show tSeq _ _ _ [some (.str text), some (.ref p), some (.int ((W.length : Int) - 1)), some (.int ((loadsL text).take k).sum), some (.str l), some (.ref p5), v6, v7, none] (upd H' p5 (.lst ((wds l).map V.str)))
    obtain ⟨U, hU⟩ : ∃ U, (wds l).map V.str = U := ⟨_, rfl⟩
    have lu : U.length = (wds l).length := by rw [← hU, List.length_map]
    rw [hU]
    have led5 : Led H' [(p5, .lst U)] (upd H' p5 (.lst U)) := (Led.nil H').alloc np5 _
    generalize upd H' p5 (.lst U) = H5 at led5
    have s5 := s0'.trans led5.same
    walk_at "g"
    refine ifP (fun h5 => ?_) (fun h5 => ?_)
    · walk_at "g"
      exact no _ s5 fun ok => by
        have := (okl ok).site.n
        omega
    have h5 : 5 ≤ (wds l).length := by omega
    walk_at "g"
    refine ifP (fun h6 => ?_) (fun h6 => ?_)
    · walk_at "g"
      exact no _ s5 fun ok => by
        have := (okl ok).w12
        omega
    walk_at "g"
    obtain ⟨w3, hw3⟩ : ∃ w3, (wds l)[3]? = some w3 := ⟨_, List.getElem?_eq_getElem (by omega)⟩
    have U3 : U[3]? = some (V.str w3) := by
      rw [← hU, List.getElem?_map, hw3]
      rfl
    refine g_ixV (led5.sq 0 rfl) (by omega) (v := .str w3) U3 ?_
    walk_at "g"
    refine ifN (fun h7 => ?_) (fun h7 => ?_)
    · walk_at "g"
      refine no _ s5 fun ok => ?_
      have z := (okl ok).site.gt
      rw [hw3] at z
      exact h7 (Option.some.inj z)
    have c3 : cutV U none (some (3 : Int)) = ((wds l).take 3).map V.str := (cut_take2 (i := 3) (by omega)).trans (by rw [← hU, List.map_take])
    have c4 : cutV U (some (4 : Int)) none = ((wds l).drop 4).map V.str := (cut_drop2 (i := 4) (by omega)).trans (by rw [← hU, List.map_drop])
    walk_at "g"
    refine ⟨p5, _, rfl, led5.sq 0 rfl, fun p6 n6 => ?_⟩
    rw [c3]
    have led6 := led5.alloc n6 (.lst (((wds l).take 3).map V.str))
    generalize upd H5 p6 (.lst (((wds l).take 3).map V.str)) = H6 at led6 ⊢
    refine ⟨p6, rfl, ⟨_, led6.sq 1 rfl⟩, ?_⟩
    refine lcLI (xs := ((wds l).take 3).map V.str) (UpR ((wds l).take 3) (Rd NumOk numOf)) UpR.nil (by rw [List.length_map, List.length_take]; omega) (led6.sq 1 rfl) (fun _ => rfl) ?_ ?_
    · intro D j v ns H7 R hx el2 pn l7 qs
      obtain ⟨w, hw, rfl⟩ := str_at hx
      walk_at "g"
      exact c_number (Nat.le_trans (wle w (List.mem_of_mem_take (List.mem_of_getElem? hw))) (by decide)) fun n hn => qs n H7 (pn.push el2 hw hn) l7
    intro A ns H7 nA el2 pn s7 e7
    rw [List.length_map] at el2
    have led7 := led6.add s7 nA e7
    walk_at "g"
    refine ⟨p5, _, rfl, led7.sq 0 rfl, fun p8 n8 => ?_⟩
    rw [c4]
    have led8 := led7.alloc n8 (.lst (((wds l).drop 4).map V.str))
    generalize upd H7 p8 (.lst (((wds l).drop 4).map V.str)) = H8 at led8 ⊢
    refine ⟨p8, rfl, ⟨_, led8.sq 3 rfl⟩, ?_⟩
    refine lcLI (xs := ((wds l).drop 4).map V.str) (UpR ((wds l).drop 4) (Rd ExW exW)) UpR.nil (by rw [List.length_map, List.length_drop]; omega) (led8.sq 3 rfl) (fun _ => rfl) ?_ ?_
    · intro D j v ms H9 R hx el3 pm l9 qs
      obtain ⟨w, hw, rfl⟩ := str_at hx
      walk_at "g"
      exact c_exit (Nat.le_trans (wle w (List.mem_of_mem_drop (List.mem_of_getElem? hw))) (by decide)) fun n hn => qs n H9 (pm.push el3 hw hn) l9
    intro X ms H9 nX el3 pm s9 e9
    rw [List.length_map] at el3
    have led9 := led8.add s9 nX e9
    have s9' := s0'.trans led9.same
    have lns3 : ns.length = 3 := by rw [el2, List.length_take]; omega
    have lms : ms.length + 4 = (wds l).length := by rw [el3, List.length_drop]; omega
    walk_at "g"
    refine writes_end (G := G) (E := E) (led9.sq 2 rfl) (led9.sq 4 rfl) lns3 (by omega) (fun bad => no _ s9' fun ok => bad ⟨fun n hn => ?_, fun n hn => ?_, fun n hn => ?_, ?_⟩) fun g1 g2 g3 g4 => ?_
    · obtain ⟨w, nk, e⟩ := pn.mem el2 (okl ok).site.nums hn
      have := nk.range
      omega
    · obtain ⟨w, nk, e⟩ := pm.mem el3 (okl ok).site.exits hn
      have := nk.low
      omega
    · obtain ⟨_, eX⟩ := pm.all el3 fun n hn => by
        obtain ⟨w, nk, e⟩ := pm.mem el3 (okl ok).site.exits hn
        have := nk.low
        omega
      have eX : ms = siteR l := eX
      have := (okl ok).top n (by rw [← eX]; exact hn)
      omega
    · obtain ⟨_, eX⟩ := pm.all el3 fun n hn => by
        obtain ⟨w, nk, e⟩ := pm.mem el3 (okl ok).site.exits hn
        have := nk.low
        omega
      obtain ⟨_, eN⟩ := pn.all el2 fun n hn => by
        obtain ⟨w, nk, e⟩ := pn.mem el2 (okl ok).site.nums hn
        have := nk.range
        omega
      have eN : ns = siteN l := eN
      have eX : ms = siteR l := eX
      have z := (okl ok).turn
      rw [← eN, ← eX] at z
      exact z
    obtain ⟨allN, eN⟩ := pn.all el2 fun n hn => by
      have := g1 n hn
      omega
    obtain ⟨allX, eX⟩ := pm.all el3 fun n hn => by
      have := g2 n hn
      omega
    have so : SiteOk l := ⟨h5, by rw [hw3, h7], allN, allX⟩
    have eN : ns = siteN l := eN
    have eX : ms = siteR l := eX
    have e1 : ((loadsL text).take k).sum + ns.getD 1 0 = ((loadsL text).take (k + 1)).sum := by
      rw [take_getD (d := (0 : Int)) (by omega), List.sum_append, f1 k hk, gl, eN]
      simp
    refine ⟨⟨_, _, _, _, by rw [← e1]⟩, fun i hi => ?_, s2.trans led9.same⟩
    by_cases z : i < k
    · exact lok i z
    · have : i = k := by omega
      rw [this, gl]
      refine ⟨so, by omega, fun g hg => ?_, ?_⟩
      · have := g3 g (by rw [eX]; exact hg)
        omega
      · rw [← eN, ← eX]
        exact g4
  · rintro σ H' ⟨⟨v4, v5, v6, v7, rfl⟩, lok, s2⟩
    rw [List.length_map] at lok ⊢
    rw [List.take_of_length_le (by omega)]
    walk_at "g"
    refine q _ H' (s02.trans s2) ⟨fun z => ?_, fun ok => decide_eq_true ok.sum⟩
    refine ⟨by rw [hd0]; exact hOk, by rw [tlm]; omega, by rw [tlm]; omega, fun l hl => ?_, of_decide_eq_true z⟩
    rw [tlm] at hl ⊢
    obtain ⟨i, hi, e⟩ := List.getElem_of_mem hl
    have := lok i hi
    rw [List.getD_eq_getElem?_getD, List.getElem?_eq_getElem hi] at this
    rw [← e]
    exact this

theorem part_sum : ∀ (l : List Int), (∀ x, x ∈ l → 0 ≤ x) → ∀ j, 0 ≤ l.getD j 0 ∧ l.getD j 0 ≤ l.sum ∧ 0 ≤ l.sum
  | [], _, j => by simp
  | x :: xs, h, j => by
    have hx := h x (by simp)
    have ih := part_sum xs fun y hy => h y (by simp [hy])
    rw [List.sum_cons]
    cases j with
    | zero =>
      have := (ih 0).2.2
      show 0 ≤ x ∧ x ≤ _ ∧ _
      omega
    | succ j =>
      have := ih j
      show 0 ≤ xs.getD j 0 ∧ xs.getD j 0 ≤ _ ∧ _
      omega
theorem rep_get (n j : Nat) : (List.replicate n (0 : Int)).getD j 0 = 0 := by
  rw [List.getD_eq_getElem?_getD, List.getElem?_replicate]
  split <;> rfl
theorem textT_pos (rows : List (List Int)) (C : Sta) (k : Nat) : 1 ≤ (textT rows C k).length := by
  have e : ("board " : Str).length = 6 := by decide +kernel
  unfold textT
  rw [joinS_sum, lenA, e]
  omega
def t_law_k25_c4 (K : PySem.W.Frag) (G : Ads) (E : XK) : TS :=
  (tSeq (tTryAs K (.ref G.BoardError) 5 (fun W => (tAsg (tCallS (sp_read_k25 K G) (WE W) (tCons (tVar 3) tNil)) (gName 4))) (fun a cls d => (tSeq (tIfS (tOr (tB (tCall (sp_writes K G) [] E0 (tCons (tVar 3) tNil))) (tOr (tNot (tB (tCB (rIsX K a cls d) (tCons (tVar 5) (tCons (tC (.ty "ValueError")) tNil))))) (tNot (tB (tCB (rIsX K a cls d) (tCons (tVar 5) (tCons (tC (.ref G.NoBoard)) tNil)))))))
    (tRet (tC (.bl false)))
    tNext)
    (tRet (tNotV (tOrV (tCB (rIsX K a cls d) (tCons (tVar 5) (tCons (tC (.ref G.NoSite)) tNil))) (tOrV (tCB (rIsX K a cls d) (tCons (tVar 5) (tCons (tC (.ref G.NoExit)) tNil))) (tOrV (tCB (rIsX K a cls d) (tCons (tVar 5) (tCons (tC (.ref G.NoPlace)) tNil))) (tCB (rIsX K a cls d) (tCons (tVar 5) (tCons (tC (.ref G.TooMany)) tNil)))))))))) (fun _ _ _ _ => False))
    (tRet (tAndV (tCall (sp_writes K G) [] E0 (tCons (tVar 3) tNil)) (tAndV (tCB (rIsi K) (tCons (tVar 4) (tCons (tC (.ref G.Board)) tNil))) (tOp rEq (tCall (sp_written K G) [] E0 (tCons (tVar 4) tNil)) (tVar 3))))))
def t_law_k25 (K : PySem.W.Frag) (G : Ads) (E : XK) : TS :=
  (tSeq (tAsg (tCall (sp_rows_by K G) [] E0 (tCons (tVar 0) tNil)) (gName 1))
    (tSeq (tAsg (tCall (sp_board K G) [] E0 (tCons (tVar 1) (tCons (tCall (sp_turns_by K G) [] E0 (tCons (tVar 0) (tCons (tVar 1) tNil))) (tCons (tCall (sp_loads_by K G) [] E0 (tCons (tVar 0) (tCons (tVar 1) tNil))) tNil)))) (gName 2))
    (tSeq (tAsg (tCall (sp_changed K G) [] E0 (tCons (tVar 0) (tCons (tCall (sp_written K G) [] E0 (tCons (tVar 2) tNil)) tNil))) (gName 3))
    (tSeq (tIfS (tTest (tOp rEq (tCall (sp_drawn K G) [] E0 (tCons (tVar 0) (tCons (tC (.int 500)) (tCons (tC (.int 3)) tNil)))) (tC (.int 1))))
    (tAsg (tCall (sp_odd K G) [] E0 (tCons (tVar 0) tNil)) (gName 3))
    tNext)
    (t_law_k25_c4 K G E)))))
abbrev N_law_k25 : List Str := ["script", "rows", "board", "signs", "found", "e"]

theorem pure_law_k25 {K : PySem.W.Frag} {G : Ads} {vs H Q E} (bd : BdOk K G) (bi : BdIs K G) (e1 : PySem.W.exmOne K (.ref G.NoBoard) (.ref G.BoardError) = some true) (k1 : PySem.W.kitOne K (.ref G.NoBoard) (.type "ValueError") = some true)
    (k2 : PySem.W.kitOne K (.ref G.NoBoard) (.ref G.NoBoard) = some true) (k3 : PySem.W.kitOne K (.ref G.NoBoard) (.ref G.NoSite) = some false) (k4 : PySem.W.kitOne K (.ref G.NoBoard) (.ref G.NoExit) = some false) (k5 : PySem.W.kitOne K (.ref G.NoBoard) (.ref G.NoPlace) = some false) (k6 : PySem.W.kitOne K (.ref G.NoBoard) (.ref G.TooMany) = some false)
    (ec : ExcC K G.NoBoard) (h : spLaw K vs H Q E) : t_law_k25 K G E { nx := fun _ H' => Q .non H', rt := Q } (start N_law_k25 vs) H := by
  obtain ⟨a, ns, rfl, hS, _, q⟩ := h
  show t_law_k25 K G E _ [some (.ref a), none, none, none, none, none] H
  have rest : ∀ (v1 v2 : Option V) (z : Str) (H' : Hp), z.length ≤ 9000 → t_law_k25_c4 K G E { nx := fun _ H' => Q .non H', rt := Q } [some (.ref a), v1, v2, some (.str z), none, none] H' := by
    intro v1 v2 z H1 hz
    unfold t_law_k25_c4
    walk_at "g"
    unfold sp_read_k25
    refine ⟨z, rfl, hz, fun bad H2 s2 => ?_, fun ok b dx r t l s H2 N2 => ?_⟩
    · refine ⟨true, e1, fun _ y ny => ?_, fun h => by cases h⟩
      walk_at "g"
      refine c_writes hz fun w H3 s3 hw => ?_
      obtain rfl : w = false := by
        cases w with
        | false => rfl
        | true => exact absurd (hw.mp rfl) bad
      walk_at "g"
      refine g_isXt ec k1 ?_
      walk_at "g"
      refine g_isX ec k2 ?_
      walk_at "g"
      refine g_isX ec k3 ?_
      walk_at "g"
      refine g_isX ec k4 ?_
      walk_at "g"
      refine g_isX ec k5 ?_
      walk_at "g"
      refine g_isX ec k6 ?_
      walk_at "g"
      exact q _
    · walk_at "g"
      refine c_writes hz fun w H3 s3 hw => ?_
      obtain rfl : w = true := hw.mpr ok
      have X : BdAt G.Board H3 b dx r t l s (rowsT z) (staT z).turns (staT z).loads (staT z).steps (staT z).taken := N2.into fun p o e _ => s3 _ _ e
      walk_at "g"
      refine isi_board bi bd X.ins ?_
      walk_at "g"
      refine c_written X ok.rows ok.sok ok.small fun H5 s5 => ?_
      rw [ok.back]
      walk_at "g"
      rw [decide_eq_true rfl]
      exact q _
  unfold t_law_k25
  walk_at "g"
  refine c_rows_by hS fun p rows H1 sh s1 n1 => ?_
  have ok := sh.ok
  have hn := ok.2.1
  have hn0 := ok.1
  have S1 := s1.seq hS
  have R1 := n1.at_
  walk_at "g"
  refine c_turns_by S1 R1 ok fun tp turns H2 tk nD s2 e2 => ?_
  have led2 : Led H1 [(tp, ilst turns)] H2 := (Led.nil H1).add s2 nD e2
  walk_at "g"
  refine c_loads_by (led2.base S1) (led2.ra R1) ok fun lp loads H3 lk nD3 s3 e3 => ?_
  have led3 := led2.add s3 nD3 e3
  obtain ⟨ll, lnn, lsum⟩ := lk
  have ls20 : loads.sum ≤ 20 := by split at lsum <;> omega
  walk_at "g"
  refine c_board (led3.ra R1) ok tk (led3.sq 0 rfl) (led3.sq 1 rfl) ll lnn (by omega) fun b dx r t l s H5 N5 => ?_
  have S5 : SqL K H5 a (ns.map V.int) := N5.same.seq (led3.base S1)
  have sk : SOk rows ⟨turns, loads, List.replicate rows.length 0, 0⟩ := ⟨tk, ll, by simp⟩
  have sm : Small rows ⟨turns, loads, List.replicate rows.length 0, 0⟩ := ⟨fun j hj => by
    have := tk.2 j hj
    have := (ok.row hj).2.1
    show 0 ≤ turns.getD j 0 ∧ turns.getD j 0 < _
    omega, fun j _ => by
    have := part_sum loads lnn j
    show 0 ≤ loads.getD j 0 ∧ loads.getD j 0 < _
    omega, fun j _ => by
    show 0 ≤ (List.replicate rows.length (0 : Int)).getD j 0 ∧ (List.replicate rows.length (0 : Int)).getD j 0 < _
    rw [rep_get]
    omega, ⟨Int.le_refl _, show (0 : Int) < 100000000000000000000 by decide⟩⟩
  walk_at "g"
  refine c_written (C := ⟨turns, loads, List.replicate rows.length 0, 0⟩) N5.at_ ok sk sm fun H6 s6 => ?_
  have S6 := s6.seq S5
  have tl := textT_len ok sm rows.length (Nat.le_refl _)
  have tp := textT_pos rows ⟨turns, loads, List.replicate rows.length 0, 0⟩ rows.length
  generalize textT rows ⟨turns, loads, List.replicate rows.length 0, 0⟩ rows.length = shown at tl tp ⊢
  walk_at "g"
  refine c_changed S6 tp (by omega) fun z H7 s7 hz => ?_
  have S7 := s7.seq S6
  walk_at "g"
  refine c_drawn S7 (by decide) (by decide) (by decide) fun d d0 d1 => ?_
  walk_at "g"
  refine ifP (fun h1 => ?_) (fun h1 => ?_)
  · walk_at "g"
    refine c_odd S7 fun y H8 s8 hy => ?_
    walk_at "g"
    exact rest _ _ y H8 hy
  · refine g_next ?_
    exact rest _ _ z H7 hz

/-! ### the text by places -/
def top (i : Nat) : Stmt := PySem.Challenge.pw_marblerun_k25_texts_refused.main.body.getD i (.Pass ⟨0, 0, 0, 0⟩)
abbrev s_drawn : Stmt := (top 25)
theorem sc_drawn : FnScope N_drawn ["script", "k", "many"] (defScope s_drawn) := ⟨rfl, rfl, rfl, by decide +kernel, rfl, by decide +kernel, by decide +kernel⟩
abbrev s_other : Stmt := (top 26)
theorem sc_other : FnScope N_other ["gone", "many"] (defScope s_other) := ⟨rfl, rfl, rfl, by decide +kernel, rfl, by decide +kernel, by decide +kernel⟩
abbrev s_rows_by : Stmt := (top 27)
theorem sc_rows_by : FnScope N_rows_by ["script"] (defScope s_rows_by) := ⟨rfl, rfl, rfl, by decide +kernel, rfl, by decide +kernel, by decide +kernel⟩
abbrev s_checked : Stmt := (top 13)
theorem sc_checked : FnScope N_checked ["rows"] (defScope s_checked) := ⟨rfl, rfl, rfl, by decide +kernel, rfl, by decide +kernel, by decide +kernel⟩
abbrev s_Board_init : Stmt := (inClass (top 14) 0)
theorem sc_Board_init : FnScope N_Board_init ["self", "rows"] (defScope s_Board_init) := ⟨rfl, rfl, rfl, by decide +kernel, rfl, by decide +kernel, by decide +kernel⟩
abbrev s_Board_has_site : Stmt := (inClass (top 14) 1)
theorem sc_Board_has_site : FnScope N_Board_has_site ["self", "at"] (defScope s_Board_has_site) := ⟨rfl, rfl, rfl, by decide +kernel, rfl, by decide +kernel, by decide +kernel⟩
abbrev s_Board_turn_to : Stmt := (inClass (top 14) 2)
theorem sc_Board_turn_to : FnScope N_Board_turn_to ["self", "at", "place"] (defScope s_Board_turn_to) := ⟨rfl, rfl, rfl, by decide +kernel, rfl, by decide +kernel, by decide +kernel⟩
abbrev s_Board_load : Stmt := (inClass (top 14) 3)
theorem sc_Board_load : FnScope N_Board_load ["self", "at", "many"] (defScope s_Board_load) := ⟨rfl, rfl, rfl, by decide +kernel, rfl, by decide +kernel, by decide +kernel⟩
abbrev s_board : Stmt := (top 30)
theorem sc_board : FnScope N_board ["rows", "turns", "loads"] (defScope s_board) := ⟨rfl, rfl, rfl, by decide +kernel, rfl, by decide +kernel, by decide +kernel⟩
abbrev s_turns_by : Stmt := (top 28)
theorem sc_turns_by : FnScope N_turns_by ["script", "rows"] (defScope s_turns_by) := ⟨rfl, rfl, rfl, by decide +kernel, rfl, by decide +kernel, by decide +kernel⟩
abbrev s_loads_by : Stmt := (top 29)
theorem sc_loads_by : FnScope N_loads_by ["script", "rows"] (defScope s_loads_by) := ⟨rfl, rfl, rfl, by decide +kernel, rfl, by decide +kernel, by decide +kernel⟩
abbrev s_changed : Stmt := (top 35)
theorem sc_changed : FnScope N_changed ["script", "shown"] (defScope s_changed) := ⟨rfl, rfl, rfl, by decide +kernel, rfl, by decide +kernel, by decide +kernel⟩
abbrev s_exit_shown : Stmt := (top 18)
theorem sc_exit_shown : FnScope N_exit_shown ["gone"] (defScope s_exit_shown) := ⟨rfl, rfl, rfl, by decide +kernel, rfl, by decide +kernel, by decide +kernel⟩
abbrev s_written : Stmt := (top 19)
theorem sc_written : FnScope N_written ["board"] (defScope s_written) := ⟨rfl, rfl, rfl, by decide +kernel, rfl, by decide +kernel, by decide +kernel⟩
abbrev s_odd : Stmt := (top 34)
theorem sc_odd : FnScope N_odd ["script"] (defScope s_odd) := ⟨rfl, rfl, rfl, by decide +kernel, rfl, by decide +kernel, by decide +kernel⟩
abbrev s_number_of : Stmt := (top 20)
theorem sc_number_of : FnScope N_number_of ["word"] (defScope s_number_of) := ⟨rfl, rfl, rfl, by decide +kernel, rfl, by decide +kernel, by decide +kernel⟩
abbrev s_exit_of : Stmt := (top 21)
theorem sc_exit_of : FnScope N_exit_of ["word"] (defScope s_exit_of) := ⟨rfl, rfl, rfl, by decide +kernel, rfl, by decide +kernel, by decide +kernel⟩
abbrev s_site_of_k25 : Stmt := (top 22)
theorem sc_site_of_k25 : FnScope N_site_of_k25 ["line"] (defScope s_site_of_k25) := ⟨rfl, rfl, rfl, by decide +kernel, rfl, by decide +kernel, by decide +kernel⟩
abbrev s_read_k25 : Stmt := (top 23)
theorem sc_read_k25 : FnScope N_read_k25 ["text"] (defScope s_read_k25) := ⟨rfl, rfl, rfl, by decide +kernel, rfl, by decide +kernel, by decide +kernel⟩
abbrev s_number : Stmt := (top 31)
theorem sc_number : FnScope N_number ["word"] (defScope s_number) := ⟨rfl, rfl, rfl, by decide +kernel, rfl, by decide +kernel, by decide +kernel⟩
abbrev s_exit : Stmt := (top 32)
theorem sc_exit : FnScope N_exit ["word"] (defScope s_exit) := ⟨rfl, rfl, rfl, by decide +kernel, rfl, by decide +kernel, by decide +kernel⟩
abbrev s_writes : Stmt := (top 33)
theorem sc_writes : FnScope N_writes ["signs"] (defScope s_writes) := ⟨rfl, rfl, rfl, by decide +kernel, rfl, by decide +kernel, by decide +kernel⟩
abbrev s_law_k25 : Stmt := (top 36)
theorem sc_law_k25 : FnScope N_law_k25 ["script"] (defScope s_law_k25) := ⟨rfl, rfl, rfl, by decide +kernel, rfl, by decide +kernel, by decide +kernel⟩
/-- what the top has written -/
structure Txt (K : PySem.W.Frag) (mg : Str → Option Value) where
  G : Ads
  f_drawn : Addr
  d_drawn : FuncData
  F_drawn : Fun K "_law_drawn" "_law_drawn" s_drawn f_drawn d_drawn
  b_drawn : Binds K d_drawn ["script", "k", "many"] []
  g_drawn : mg "_law_drawn" = some (.ref f_drawn)
  f_other : Addr
  d_other : FuncData
  F_other : Fun K "_law_other" "_law_other" s_other f_other d_other
  b_other : Binds K d_other ["gone", "many"] []
  g_other : mg "_law_other" = some (.ref f_other)
  f_rows_by : Addr
  d_rows_by : FuncData
  F_rows_by : Fun K "_law_rows_by" "_law_rows_by" s_rows_by f_rows_by d_rows_by
  b_rows_by : Binds K d_rows_by ["script"] []
  g_rows_by : mg "_law_rows_by" = some (.ref f_rows_by)
  f_checked : Addr
  d_checked : FuncData
  F_checked : Fun K "checked" "checked" s_checked f_checked d_checked
  b_checked : Binds K d_checked ["rows"] []
  g_checked : mg "checked" = some (.ref f_checked)
  f_Board_init : Addr
  d_Board_init : FuncData
  F_Board_init : Fun K "__init__" "Board.__init__" s_Board_init f_Board_init d_Board_init
  b_Board_init : Binds K d_Board_init ["self", "rows"] []
  mk_Board : Mk K G.Board f_Board_init
  f_Board_has_site : Addr
  d_Board_has_site : FuncData
  F_Board_has_site : Fun K "has_site" "Board.has_site" s_Board_has_site f_Board_has_site d_Board_has_site
  b_Board_has_site : Binds K d_Board_has_site ["self", "at"] []
  m_Board_has_site : Meth K G.Board "has_site" f_Board_has_site
  f_Board_turn_to : Addr
  d_Board_turn_to : FuncData
  F_Board_turn_to : Fun K "turn_to" "Board.turn_to" s_Board_turn_to f_Board_turn_to d_Board_turn_to
  b_Board_turn_to : Binds K d_Board_turn_to ["self", "at", "place"] []
  m_Board_turn_to : Meth K G.Board "turn_to" f_Board_turn_to
  f_Board_load : Addr
  d_Board_load : FuncData
  F_Board_load : Fun K "load" "Board.load" s_Board_load f_Board_load d_Board_load
  b_Board_load : Binds K d_Board_load ["self", "at", "many"] []
  m_Board_load : Meth K G.Board "load" f_Board_load
  f_board : Addr
  d_board : FuncData
  F_board : Fun K "_law_board" "_law_board" s_board f_board d_board
  b_board : Binds K d_board ["rows", "turns", "loads"] []
  g_board : mg "_law_board" = some (.ref f_board)
  f_turns_by : Addr
  d_turns_by : FuncData
  F_turns_by : Fun K "_law_turns_by" "_law_turns_by" s_turns_by f_turns_by d_turns_by
  b_turns_by : Binds K d_turns_by ["script", "rows"] []
  g_turns_by : mg "_law_turns_by" = some (.ref f_turns_by)
  f_loads_by : Addr
  d_loads_by : FuncData
  F_loads_by : Fun K "_law_loads_by" "_law_loads_by" s_loads_by f_loads_by d_loads_by
  b_loads_by : Binds K d_loads_by ["script", "rows"] []
  g_loads_by : mg "_law_loads_by" = some (.ref f_loads_by)
  f_changed : Addr
  d_changed : FuncData
  F_changed : Fun K "_law_changed" "_law_changed" s_changed f_changed d_changed
  b_changed : Binds K d_changed ["script", "shown"] []
  g_changed : mg "_law_changed" = some (.ref f_changed)
  f_exit_shown : Addr
  d_exit_shown : FuncData
  F_exit_shown : Fun K "exit_shown" "exit_shown" s_exit_shown f_exit_shown d_exit_shown
  b_exit_shown : Binds K d_exit_shown ["gone"] []
  g_exit_shown : mg "exit_shown" = some (.ref f_exit_shown)
  f_written : Addr
  d_written : FuncData
  F_written : Fun K "written" "written" s_written f_written d_written
  b_written : Binds K d_written ["board"] []
  g_written : mg "written" = some (.ref f_written)
  f_odd : Addr
  d_odd : FuncData
  F_odd : Fun K "_law_odd" "_law_odd" s_odd f_odd d_odd
  b_odd : Binds K d_odd ["script"] []
  g_odd : mg "_law_odd" = some (.ref f_odd)
  f_number_of : Addr
  d_number_of : FuncData
  F_number_of : Fun K "number_of" "number_of" s_number_of f_number_of d_number_of
  b_number_of : Binds K d_number_of ["word"] []
  g_number_of : mg "number_of" = some (.ref f_number_of)
  f_exit_of : Addr
  d_exit_of : FuncData
  F_exit_of : Fun K "exit_of" "exit_of" s_exit_of f_exit_of d_exit_of
  b_exit_of : Binds K d_exit_of ["word"] []
  g_exit_of : mg "exit_of" = some (.ref f_exit_of)
  f_site_of_k25 : Addr
  d_site_of_k25 : FuncData
  F_site_of_k25 : Fun K "site_of" "site_of" s_site_of_k25 f_site_of_k25 d_site_of_k25
  b_site_of_k25 : Binds K d_site_of_k25 ["line"] []
  g_site_of_k25 : mg "site_of" = some (.ref f_site_of_k25)
  f_read_k25 : Addr
  d_read_k25 : FuncData
  F_read_k25 : Fun K "read" "read" s_read_k25 f_read_k25 d_read_k25
  b_read_k25 : Binds K d_read_k25 ["text"] []
  g_read_k25 : mg "read" = some (.ref f_read_k25)
  f_number : Addr
  d_number : FuncData
  F_number : Fun K "_law_number" "_law_number" s_number f_number d_number
  b_number : Binds K d_number ["word"] []
  g_number : mg "_law_number" = some (.ref f_number)
  f_exit : Addr
  d_exit : FuncData
  F_exit : Fun K "_law_exit" "_law_exit" s_exit f_exit d_exit
  b_exit : Binds K d_exit ["word"] []
  g_exit : mg "_law_exit" = some (.ref f_exit)
  f_writes : Addr
  d_writes : FuncData
  F_writes : Fun K "_law_writes" "_law_writes" s_writes f_writes d_writes
  b_writes : Binds K d_writes ["signs"] []
  g_writes : mg "_law_writes" = some (.ref f_writes)
  f_law_k25 : Addr
  d_law_k25 : FuncData
  F_law_k25 : Fun K "law" "law" s_law_k25 f_law_k25 d_law_k25
  b_law_k25 : Binds K d_law_k25 ["script"] []
  cl_Board : Cls K G.Board
  bd : BdOk K G
  g_Board : mg "Board" = some (.ref G.Board)
  tk_MOST_SITES : Tok
  g_MOST_SITES : mg "MOST_SITES" = some (.int 12 tk_MOST_SITES)
  tk_MOST_EXITS : Tok
  g_MOST_EXITS : mg "MOST_EXITS" = some (.int 8 tk_MOST_EXITS)
  tk_PIT : Tok
  g_PIT : mg "PIT" = some (.int (-1) tk_PIT)
  tk_MOST_MARBLES : Tok
  g_MOST_MARBLES : mg "MOST_MARBLES" = some (.int 400 tk_MOST_MARBLES)
  tk_MOST_FIGURES : Tok
  g_MOST_FIGURES : mg "MOST_FIGURES" = some (.int 20 tk_MOST_FIGURES)
  tk_FIGURES : Tok
  g_FIGURES : mg "FIGURES" = some (.str "0123456789" tk_FIGURES)
  n_len : mg "len" = none
  n_range : mg "range" = none
  n_reversed : mg "reversed" = none
  n_list : mg "list" = none
  n_sum : mg "sum" = none
  n_str : mg "str" = none
  n_int : mg "int" = none
  n_min : mg "min" = none
  n_max : mg "max" = none
  n_ValueError : mg "ValueError" = none
  n_isinstance : mg "isinstance" = none
  g_NoSite : mg "NoSite" = some (.ref G.NoSite)
  x_NoSite : PySem.W.excIn K G.NoSite [.type "ValueError", .type "Exception", .type "BaseException", .type "object"] "ValueError.__new__" = true
  k_NoSite : PySem.W.keepIn K (.ref G.NoSite) = true
  b_NoSite : PySem.W.subIn K (.ref G.NoSite) (.type "BaseException") = some true
  t_NoSite : PySem.W.typeIn K (.ref G.NoSite) = some (.type "type")
  g_NoExit : mg "NoExit" = some (.ref G.NoExit)
  x_NoExit : PySem.W.excIn K G.NoExit [.type "ValueError", .type "Exception", .type "BaseException", .type "object"] "ValueError.__new__" = true
  k_NoExit : PySem.W.keepIn K (.ref G.NoExit) = true
  b_NoExit : PySem.W.subIn K (.ref G.NoExit) (.type "BaseException") = some true
  t_NoExit : PySem.W.typeIn K (.ref G.NoExit) = some (.type "type")
  g_NoPlace : mg "NoPlace" = some (.ref G.NoPlace)
  x_NoPlace : PySem.W.excIn K G.NoPlace [.type "ValueError", .type "Exception", .type "BaseException", .type "object"] "ValueError.__new__" = true
  k_NoPlace : PySem.W.keepIn K (.ref G.NoPlace) = true
  b_NoPlace : PySem.W.subIn K (.ref G.NoPlace) (.type "BaseException") = some true
  t_NoPlace : PySem.W.typeIn K (.ref G.NoPlace) = some (.type "type")
  g_TooMany : mg "TooMany" = some (.ref G.TooMany)
  x_TooMany : PySem.W.excIn K G.TooMany [.type "ValueError", .type "Exception", .type "BaseException", .type "object"] "ValueError.__new__" = true
  k_TooMany : PySem.W.keepIn K (.ref G.TooMany) = true
  b_TooMany : PySem.W.subIn K (.ref G.TooMany) (.type "BaseException") = some true
  t_TooMany : PySem.W.typeIn K (.ref G.TooMany) = some (.type "type")
  g_NoBoard : mg "NoBoard" = some (.ref G.NoBoard)
  x_NoBoard : PySem.W.excIn K G.NoBoard [.type "ValueError", .type "Exception", .type "BaseException", .type "object"] "ValueError.__new__" = true
  k_NoBoard : PySem.W.keepIn K (.ref G.NoBoard) = true
  b_NoBoard : PySem.W.subIn K (.ref G.NoBoard) (.type "BaseException") = some true
  t_NoBoard : PySem.W.typeIn K (.ref G.NoBoard) = some (.type "type")
  g_BoardError : mg "BoardError" = some (.ref G.BoardError)
  x_BoardError : PySem.W.excIn K G.BoardError [.type "ValueError", .type "Exception", .type "BaseException", .type "object"] "ValueError.__new__" = true
  k_BoardError : PySem.W.keepIn K (.ref G.BoardError) = true
  b_BoardError : PySem.W.subIn K (.ref G.BoardError) (.type "BaseException") = some true
  t_BoardError : PySem.W.typeIn K (.ref G.BoardError) = some (.type "type")
  e_NoSite_BoardError : PySem.W.exmOne K (.ref G.NoSite) (.ref G.BoardError) = some true
  e_NoExit_BoardError : PySem.W.exmOne K (.ref G.NoExit) (.ref G.BoardError) = some true
  e_NoPlace_BoardError : PySem.W.exmOne K (.ref G.NoPlace) (.ref G.BoardError) = some true
  e_TooMany_BoardError : PySem.W.exmOne K (.ref G.TooMany) (.ref G.BoardError) = some true
  bi : BdIs K G
  e_NoBoard_BoardError : PySem.W.exmOne K (.ref G.NoBoard) (.ref G.BoardError) = some true
  kt_NoBoard_ValueError : PySem.W.kitOne K (.ref G.NoBoard) (.type "ValueError") = some true
  ki_NoBoard_NoBoard : PySem.W.kitOne K (.ref G.NoBoard) (.ref G.NoBoard) = some true
  ki_NoBoard_NoSite : PySem.W.kitOne K (.ref G.NoBoard) (.ref G.NoSite) = some false
  ki_NoBoard_NoExit : PySem.W.kitOne K (.ref G.NoBoard) (.ref G.NoExit) = some false
  ki_NoBoard_NoPlace : PySem.W.kitOne K (.ref G.NoBoard) (.ref G.NoPlace) = some false
  ki_NoBoard_TooMany : PySem.W.kitOne K (.ref G.NoBoard) (.ref G.TooMany) = some false
  ec_NoBoard : ExcC K G.NoBoard
section
variable {P : Program} {w : World} {K : PySem.W.Frag} {mg : Str → Option Value} {base : Heap}
theorem ok_drawn (T : Txt K mg) : FnOk P w K mg base CX0 1 T.f_drawn T.d_drawn ["script", "k", "many"] (sp_drawn K T.G) := by
  refine T.F_drawn.ok sc_drawn (fun vs H Q E h => len_drawn h) (fun cdv A outer s H vs Q E hr h => ⟨t_drawn K T.G E, ?_, pure_drawn  h⟩)
  exact (pss_cons (ps_set (i := 3) sc_drawn.nd rfl (by first | exact Or.inl rfl | exact Or.inr rfl) pe_int)
    (pss_cons (ps_if (pt_cmpR op_gt (pe_callB call_len_seq (by rfl) T.n_len bt_len (pa_cons (pv 0) pa_nil)) pe_int (nomark _))
    (pss_one (ps_set (i := 3) sc_drawn.nd rfl (by first | exact Or.inl rfl | exact Or.inr rfl) (pe_ix ix_list (pv 0) (pe_op op_mod (pv 1) (pe_callB call_len_seq (by rfl) T.n_len bt_len (pa_cons (pv 0) pa_nil))) (fun _ _ => rfl))))
    pss_nil)
    (pss_cons (ps_set (i := 4) sc_drawn.nd rfl (by first | exact Or.inl rfl | exact Or.inr rfl) (pe_op op_add (pe_op op_add (pe_op op_mul (pv 3) (pe_op op_add pe_int (pe_op op_mul pe_int (pe_op op_mod (pv 1) pe_int)))) (pe_op op_mul (pe_op op_mul (pe_op op_add (pv 1) pe_int) (pe_op op_add (pv 1) pe_int)) pe_int)) (pe_callB call_len_seq (by rfl) T.n_len bt_len (pa_cons (pv 0) pa_nil))))
    (pss_one (ps_ret (pe_op op_mod (pe_op op_fdiv (pe_op op_mod (pv 4) pe_int) pe_int) (pv 2)))))))
theorem ok_other (T : Txt K mg) : FnOk P w K mg base CX0 1 T.f_other T.d_other ["gone", "many"] (sp_other K T.G) := by
  refine T.F_other.ok sc_other (fun vs H Q E h => len_other h) (fun cdv A outer s H vs Q E hr h => ⟨t_other K T.G E, ?_, pure_other  h⟩)
  exact (pss_cons (ps_if (pt_cmpR op_lt (pv 0) pe_int (nomark _))
    (pss_one (ps_ret (pv 0)))
    pss_nil)
    (pss_one (ps_ret (pe_op op_sub (pe_op op_sub (pv 1) pe_int) (pv 0)))))
theorem ok_rows_by (T : Txt K mg) : FnOk P w K mg base CX0 2 T.f_rows_by T.d_rows_by ["script"] (sp_rows_by K T.G) := by
  refine T.F_rows_by.ok sc_rows_by (fun vs H Q E h => len_rows_by h) (fun cdv A outer s H vs Q E hr h => ⟨t_rows_by K T.G E, ?_, pure_rows_by  h⟩)
  exact (pss_cons (ps_set (i := 1) sc_rows_by.nd rfl (by first | exact Or.inl rfl | exact Or.inr rfl) (pe_cmpR op_eq (pe_call (ok_drawn T) (hr.mono (by decide)) (by rfl) T.g_drawn T.F_drawn.kp T.b_drawn .nil pass0 (pa_cons (pv 0) (pa_cons pe_int (pa_cons pe_int pa_nil)))) pe_int (nomark _)))
    (pss_cons (ps_set (i := 2) sc_rows_by.nd rfl (by first | exact Or.inl rfl | exact Or.inr rfl) (pe_op op_add pe_int (pe_call (ok_drawn T) (hr.mono (by decide)) (by rfl) T.g_drawn T.F_drawn.kp T.b_drawn .nil pass0 (pa_cons (pv 0) (pa_cons pe_int (pa_cons pe_int pa_nil))))))
    (pss_cons (ps_if (pt_val (pv 1))
    (pss_one (ps_set (i := 2) sc_rows_by.nd rfl (by first | exact Or.inl rfl | exact Or.inr rfl) (pe_op op_add pe_int (pe_call (ok_drawn T) (hr.mono (by decide)) (by rfl) T.g_drawn T.F_drawn.kp T.b_drawn .nil pass0 (pa_cons (pv 0) (pa_cons pe_int (pa_cons pe_int pa_nil)))))))
    pss_nil)
    (pss_cons (ps_set (i := 3) sc_rows_by.nd rfl (by first | exact Or.inl rfl | exact Or.inr rfl) (pe_lst pa_nil))
    (pss_cons (ps_for PassesOwn.never rfl (pi_range1 (by rfl) T.n_range (pa_cons (pv 2) pa_nil)) (pg_name (i := 4) sc_rows_by.nd rfl (by first | exact Or.inl rfl | exact Or.inr rfl))
    (pss_cons (ps_set (i := 5) sc_rows_by.nd rfl (by first | exact Or.inl rfl | exact Or.inr rfl) (pe_op op_add pe_int (pe_op op_mul pe_int (pv 4))))
    (pss_cons (ps_set (i := 6) sc_rows_by.nd rfl (by first | exact Or.inl rfl | exact Or.inr rfl) (pe_op op_add pe_int (pe_call (ok_drawn T) (hr.mono (by decide)) (by rfl) T.g_drawn T.F_drawn.kp T.b_drawn .nil pass0 (pa_cons (pv 0) (pa_cons (pv 5) (pa_cons pe_int pa_nil))))))
    (pss_cons (ps_set (i := 7) sc_rows_by.nd rfl (by first | exact Or.inl rfl | exact Or.inr rfl) (pe_op op_add (pv 2) pe_int))
    (pss_cons (ps_if (pt_val (pv 1))
    (pss_cons (ps_set (i := 6) sc_rows_by.nd rfl (by first | exact Or.inl rfl | exact Or.inr rfl) (pe_op op_add pe_int (pe_call (ok_drawn T) (hr.mono (by decide)) (by rfl) T.g_drawn T.F_drawn.kp T.b_drawn .nil pass0 (pa_cons (pv 0) (pa_cons (pv 5) (pa_cons pe_int pa_nil))))))
    (pss_one (ps_set (i := 7) sc_rows_by.nd rfl (by first | exact Or.inl rfl | exact Or.inr rfl) (pe_op op_add (pv 4) pe_int))))
    pss_nil)
    (pss_cons (ps_setLc (i := 9) (own := [("j", 8)]) (g := (gName 8)) (tt := tYes) rfl sc_rows_by.nd rfl rfl (sw_true rfl rfl rfl (by decide +kernel)) (pi_range1 (by rfl) T.n_range (pa_cons (pv 6) pa_nil)) (blkOk_by (own := [("j", 8)]) (N := N_rows_by) (by kernel_rfl))
      (fun _ _ _ _ _ => (pg_name (i := 8) sc_rows_by.nd rfl (by first | exact Or.inl rfl | exact Or.inr rfl))) (fun _ _ _ _ _ => pts_nil) (fun _ _ _ _ _ => (pe_op op_sub (pe_call (ok_drawn T) (hr.mono (by decide)) (by rfl) T.g_drawn T.F_drawn.kp T.b_drawn .nil pass0 (pa_cons (pv 0) (pa_cons (pe_op op_add (pe_op op_add (pv 5) pe_int) (pv 8)) (pa_cons (pv 7) pa_nil)))) pe_int)))
    (pss_cons (ps_asg (pe_op op_sub (pe_call (ok_drawn T) (hr.mono (by decide)) (by rfl) T.g_drawn T.F_drawn.kp T.b_drawn .nil pass0 (pa_cons (pv 0) (pa_cons (pe_op op_add (pv 5) pe_int) (pa_cons (pe_op op_add (pv 4) pe_int) pa_nil)))) pe_int) (pg_sub (pv 9) (pe_call (ok_drawn T) (hr.mono (by decide)) (by rfl) T.g_drawn T.F_drawn.kp T.b_drawn .nil pass0 (pa_cons (pv 0) (pa_cons (pe_op op_add (pv 5) pe_int) (pa_cons (pv 6) pa_nil)))) set_list))
    (pss_one (ps_expr (pe_bm PySem.F.plainAttrs_list PySem.F.slot_list_append PySem.F.type_list_append mt_append (pv 3) (pa_cons (pv 9) pa_nil)))))))))))
    (pss_cons (ps_if (PW.pt (pw_and (pt_val (pv 1)) (pw_and1 (pt_cmpR op_gt (pe_call (ok_drawn T) (hr.mono (by decide)) (by rfl) T.g_drawn T.F_drawn.kp T.b_drawn .nil pass0 (pa_cons (pv 0) (pa_cons pe_int (pa_cons pe_int pa_nil)))) pe_int (nomark _)))))
    (pss_one (ps_for PassesOwn.never rfl (pi_range1 (by rfl) T.n_range (pa_cons pe_int pa_nil)) (pg_name (i := 8) sc_rows_by.nd rfl (by first | exact Or.inl rfl | exact Or.inr rfl))
    (pss_cons (ps_set (i := 9) sc_rows_by.nd rfl (by first | exact Or.inl rfl | exact Or.inr rfl) (pe_ix ix_list (pv 3) (pe_call (ok_drawn T) (hr.mono (by decide)) (by rfl) T.g_drawn T.F_drawn.kp T.b_drawn .nil pass0 (pa_cons (pv 0) (pa_cons (pe_op op_add pe_int (pv 8)) (pa_cons (pv 2) pa_nil)))) (fun _ _ => rfl)))
    (pss_one (ps_if (pt_cmpR op_lt (pe_callB call_len_seq (by rfl) T.n_len bt_len (pa_cons (pv 9) pa_nil)) pe_int (nomark _))
    (pss_one (ps_expr (pe_bm PySem.F.plainAttrs_list PySem.F.slot_list_insert PySem.F.type_list_insert mt_insert (pv 9) (pa_cons (pe_call (ok_drawn T) (hr.mono (by decide)) (by rfl) T.g_drawn T.F_drawn.kp T.b_drawn .nil pass0 (pa_cons (pv 0) (pa_cons (pe_op op_add pe_int (pv 8)) (pa_cons (pe_op op_add (pe_callB call_len_seq (by rfl) T.n_len bt_len (pa_cons (pv 9) pa_nil)) pe_int) pa_nil)))) (pa_cons (pe_call (ok_drawn T) (hr.mono (by decide)) (by rfl) T.g_drawn T.F_drawn.kp T.b_drawn .nil pass0 (pa_cons (pv 0) (pa_cons (pe_op op_add pe_int (pv 8)) (pa_cons (pv 2) pa_nil)))) pa_nil)))))
    pss_nil)))))
    pss_nil)
    (pss_cons (ps_if (pt_cmpR op_eq (pe_call (ok_drawn T) (hr.mono (by decide)) (by rfl) T.g_drawn T.F_drawn.kp T.b_drawn .nil pass0 (pa_cons (pv 0) (pa_cons pe_int (pa_cons pe_int pa_nil)))) pe_int (nomark _))
    (pss_one (ps_setLc (i := 3) (own := [("row", 9)]) (g := (gName 9)) (tt := tYes) rfl sc_rows_by.nd rfl rfl (sw_true rfl rfl rfl (by decide +kernel)) (pi_reversed (by rfl) T.n_reversed (pa_cons (pv 3) pa_nil)) (blkOk_by (own := [("row", 9)]) (N := N_rows_by) (by kernel_rfl))
      (fun _ _ _ _ _ => (pg_name (i := 9) sc_rows_by.nd rfl (by first | exact Or.inl rfl | exact Or.inr rfl))) (fun _ _ _ _ _ => pts_nil) (fun _ _ _ _ _ => (pe_lc (own := [("gone", 10)]) (g := (gName 10)) (tt := tYes) rfl sc_rows_by.nd (pi_list (pv 9)) (blkOk_by (own := [("gone", 10)]) (N := N_rows_by) (by kernel_rfl))
      (fun _ _ _ _ _ => (pg_name (i := 10) sc_rows_by.nd rfl (by first | exact Or.inl rfl | exact Or.inr rfl))) (fun _ _ _ _ _ => pts_nil) (fun _ _ _ _ _ => (pe_call (ok_other T) (hr.mono (by decide)) (by rfl) T.g_other T.F_other.kp T.b_other .nil pass0 (pa_cons (pv 10) (pa_cons (pv 2) pa_nil))))))))
    pss_nil)
    (pss_one (ps_ret (pv 3))))))))))
theorem ok_checked (T : Txt K mg) : FnOk P w K mg base (L2.CX P w) 1 T.f_checked T.d_checked ["rows"] (sp_checked K T.G) := by
  refine T.F_checked.okX sc_checked (fun vs H Q E h => len_checked h) (fun cdv A outer s H vs Q E hr h => ⟨t_checked K T.G E, ?_, pure_checked  h⟩)
  exact (pss_cons (ps_if (PW.pt (pw_or (pt_cmpR op_lt (pe_callB call_len_seq (by rfl) T.n_len bt_len (pa_cons (pv 0) pa_nil)) pe_int (nomark _)) (pw_or1 (pt_cmpR op_gt (pe_callB call_len_seq (by rfl) T.n_len bt_len (pa_cons (pv 0) pa_nil)) (pe_glob (v := .int 12) (by rfl) T.g_MOST_SITES ⟨_, rfl⟩) (nomark _)))))
    (pss_one (ps_raise rfl (takes_of rfl rfl rfl rfl) (pmk_own PySem.F.excBase_ValueError T.x_NoSite T.g_NoSite T.k_NoSite (raises_own T.b_NoSite T.t_NoSite) (by rfl))))
    pss_nil)
    (pss_cons (ps_for (passes_of rfl) rfl (pi_list (pv 0)) (pg_name (i := 1) sc_checked.nd rfl (by first | exact Or.inl rfl | exact Or.inr rfl))
    (pss_cons (ps_if (PW.pt (pw_or (pt_cmpR op_lt (pe_callB call_len_seq (by rfl) T.n_len bt_len (pa_cons (pv 1) pa_nil)) pe_int (nomark _)) (pw_or1 (pt_cmpR op_gt (pe_callB call_len_seq (by rfl) T.n_len bt_len (pa_cons (pv 1) pa_nil)) (pe_glob (v := .int 8) (by rfl) T.g_MOST_EXITS ⟨_, rfl⟩) (nomark _)))))
    (pss_one (ps_raise rfl (takes_of rfl rfl rfl rfl) (pmk_own PySem.F.excBase_ValueError T.x_NoExit T.g_NoExit T.k_NoExit (raises_own T.b_NoExit T.t_NoExit) (by rfl))))
    pss_nil)
    (pss_one (ps_for (passes_of rfl) rfl (pi_list (pv 1)) (pg_name (i := 2) sc_checked.nd rfl (by first | exact Or.inl rfl | exact Or.inr rfl))
    (pss_one (ps_if (PW.pt (pw_or (pt_cmpR op_lt (pv 2) (pe_glob (v := .int (-1)) (by rfl) T.g_PIT ⟨_, rfl⟩) (nomark _)) (pw_or1 (pt_cmpR op_ge (pv 2) (pe_callB call_len_seq (by rfl) T.n_len bt_len (pa_cons (pv 0) pa_nil)) (nomark _)))))
    (pss_one (ps_raise rfl (takes_of rfl rfl rfl rfl) (pmk_own PySem.F.excBase_ValueError T.x_NoExit T.g_NoExit T.k_NoExit (raises_own T.b_NoExit T.t_NoExit) (by rfl))))
    pss_nil))))))
    (pss_one (ps_ret (pe_lc (own := [("row", 1)]) (g := (gName 1)) (tt := tYes) rfl sc_checked.nd (pi_list (pv 0)) (blkOk_by (own := [("row", 1)]) (N := N_checked) (by kernel_rfl))
      (fun _ _ _ _ _ => (pg_name (i := 1) sc_checked.nd rfl (by first | exact Or.inl rfl | exact Or.inr rfl))) (fun _ _ _ _ _ => pts_nil) (fun _ _ _ _ _ => (pe_callTy call_list_of (by rfl) T.n_list bt_list (pa_cons (pv 1) pa_nil))))))))
theorem okN_checked (T : Txt K mg) : FnOk P w K mg base (L2N.CX P w) 1 T.f_checked T.d_checked ["rows"] (sp_checked K T.G) := by
  refine okXN T.F_checked sc_checked (fun vs H Q E h => len_checked h) (fun cdv A outer s H vs Q E hr h => ⟨t_checked K T.G E, ?_, pure_checked  h⟩)
  exact (pss_cons (ps_if (PW.pt (pw_or (pt_cmpR op_lt (pe_callB call_len_seq (by rfl) T.n_len bt_len (pa_cons (pv 0) pa_nil)) pe_int (nomark _)) (pw_or1 (pt_cmpR op_gt (pe_callB call_len_seq (by rfl) T.n_len bt_len (pa_cons (pv 0) pa_nil)) (pe_glob (v := .int 12) (by rfl) T.g_MOST_SITES ⟨_, rfl⟩) (nomark _)))))
    (pss_one (L2N.ps_raise rfl (L2N.takes_of rfl rfl rfl rfl) (L2N.pmk_own PySem.F.excBase_ValueError T.x_NoSite T.g_NoSite T.k_NoSite (raises_own T.b_NoSite T.t_NoSite) (by rfl))))
    pss_nil)
    (pss_cons (ps_for (passes_of rfl) rfl (pi_list (pv 0)) (pg_name (i := 1) sc_checked.nd rfl (by first | exact Or.inl rfl | exact Or.inr rfl))
    (pss_cons (ps_if (PW.pt (pw_or (pt_cmpR op_lt (pe_callB call_len_seq (by rfl) T.n_len bt_len (pa_cons (pv 1) pa_nil)) pe_int (nomark _)) (pw_or1 (pt_cmpR op_gt (pe_callB call_len_seq (by rfl) T.n_len bt_len (pa_cons (pv 1) pa_nil)) (pe_glob (v := .int 8) (by rfl) T.g_MOST_EXITS ⟨_, rfl⟩) (nomark _)))))
    (pss_one (L2N.ps_raise rfl (L2N.takes_of rfl rfl rfl rfl) (L2N.pmk_own PySem.F.excBase_ValueError T.x_NoExit T.g_NoExit T.k_NoExit (raises_own T.b_NoExit T.t_NoExit) (by rfl))))
    pss_nil)
    (pss_one (ps_for (passes_of rfl) rfl (pi_list (pv 1)) (pg_name (i := 2) sc_checked.nd rfl (by first | exact Or.inl rfl | exact Or.inr rfl))
    (pss_one (ps_if (PW.pt (pw_or (pt_cmpR op_lt (pv 2) (pe_glob (v := .int (-1)) (by rfl) T.g_PIT ⟨_, rfl⟩) (nomark _)) (pw_or1 (pt_cmpR op_ge (pv 2) (pe_callB call_len_seq (by rfl) T.n_len bt_len (pa_cons (pv 0) pa_nil)) (nomark _)))))
    (pss_one (L2N.ps_raise rfl (L2N.takes_of rfl rfl rfl rfl) (L2N.pmk_own PySem.F.excBase_ValueError T.x_NoExit T.g_NoExit T.k_NoExit (raises_own T.b_NoExit T.t_NoExit) (by rfl))))
    pss_nil))))))
    (pss_one (ps_ret (pe_lc (own := [("row", 1)]) (g := (gName 1)) (tt := tYes) rfl sc_checked.nd (pi_list (pv 0)) (blkOk_by (own := [("row", 1)]) (N := N_checked) (by kernel_rfl))
      (fun _ _ _ _ _ => (pg_name (i := 1) sc_checked.nd rfl (by first | exact Or.inl rfl | exact Or.inr rfl))) (fun _ _ _ _ _ => pts_nil) (fun _ _ _ _ _ => (pe_callTy call_list_of (by rfl) T.n_list bt_list (pa_cons (pv 1) pa_nil))))))))
theorem ok_Board_init (T : Txt K mg) : FnOk P w K mg base (L2.CX P w) 2 T.f_Board_init T.d_Board_init ["self", "rows"] (sp_Board_init K T.G) := by
  refine T.F_Board_init.okX sc_Board_init (fun vs H Q E h => len_Board_init h) (fun cdv A outer s H vs Q E hr h => ⟨t_Board_init K T.G E, ?_, pure_Board_init T.bd h⟩)
  exact (pss_cons (ps_fld (pv 0) (pe_call (ok_checked T) (hr.mono (by decide)) (by rfl) T.g_checked T.F_checked.kp T.b_checked .nil (passes_call (takes_of rfl rfl rfl rfl) fun _ _ _ _ z => z) (pa_cons (pv 1) pa_nil)) rfl)
    (pss_cons (ps_fld (pv 0) (pe_lc (own := [("row", 2)]) (g := (gName 2)) (tt := tYes) rfl sc_Board_init.nd (pi_list (pv 1)) (blkOk_by (own := [("row", 2)]) (N := N_Board_init) (by kernel_rfl))
      (fun _ _ _ _ _ => (pg_name (i := 2) sc_Board_init.nd rfl (by first | exact Or.inl rfl | exact Or.inr rfl))) (fun _ _ _ _ _ => pts_nil) (fun _ _ _ _ _ => pe_int)) rfl)
    (pss_cons (ps_fld (pv 0) (pe_lc (own := [("row", 2)]) (g := (gName 2)) (tt := tYes) rfl sc_Board_init.nd (pi_list (pv 1)) (blkOk_by (own := [("row", 2)]) (N := N_Board_init) (by kernel_rfl))
      (fun _ _ _ _ _ => (pg_name (i := 2) sc_Board_init.nd rfl (by first | exact Or.inl rfl | exact Or.inr rfl))) (fun _ _ _ _ _ => pts_nil) (fun _ _ _ _ _ => pe_int)) rfl)
    (pss_cons (ps_fld (pv 0) (pe_lc (own := [("row", 2)]) (g := (gName 2)) (tt := tYes) rfl sc_Board_init.nd (pi_list (pv 1)) (blkOk_by (own := [("row", 2)]) (N := N_Board_init) (by kernel_rfl))
      (fun _ _ _ _ _ => (pg_name (i := 2) sc_Board_init.nd rfl (by first | exact Or.inl rfl | exact Or.inr rfl))) (fun _ _ _ _ _ => pts_nil) (fun _ _ _ _ _ => pe_int)) rfl)
    (pss_one (ps_fld (pv 0) pe_int rfl))))))
theorem okN_Board_init (T : Txt K mg) : FnOk P w K mg base (L2N.CX P w) 2 T.f_Board_init T.d_Board_init ["self", "rows"] (sp_Board_init K T.G) := by
  refine okXN T.F_Board_init sc_Board_init (fun vs H Q E h => len_Board_init h) (fun cdv A outer s H vs Q E hr h => ⟨t_Board_init K T.G E, ?_, pure_Board_init T.bd h⟩)
  exact (pss_cons (ps_fld (pv 0) (pe_call (okN_checked T) (hr.mono (by decide)) (by rfl) T.g_checked T.F_checked.kp T.b_checked .nil (L2N.passes_call (L2N.takes_of rfl rfl rfl rfl) fun _ _ _ _ z => z) (pa_cons (pv 1) pa_nil)) rfl)
    (pss_cons (ps_fld (pv 0) (pe_lc (own := [("row", 2)]) (g := (gName 2)) (tt := tYes) rfl sc_Board_init.nd (pi_list (pv 1)) (blkOk_by (own := [("row", 2)]) (N := N_Board_init) (by kernel_rfl))
      (fun _ _ _ _ _ => (pg_name (i := 2) sc_Board_init.nd rfl (by first | exact Or.inl rfl | exact Or.inr rfl))) (fun _ _ _ _ _ => pts_nil) (fun _ _ _ _ _ => pe_int)) rfl)
    (pss_cons (ps_fld (pv 0) (pe_lc (own := [("row", 2)]) (g := (gName 2)) (tt := tYes) rfl sc_Board_init.nd (pi_list (pv 1)) (blkOk_by (own := [("row", 2)]) (N := N_Board_init) (by kernel_rfl))
      (fun _ _ _ _ _ => (pg_name (i := 2) sc_Board_init.nd rfl (by first | exact Or.inl rfl | exact Or.inr rfl))) (fun _ _ _ _ _ => pts_nil) (fun _ _ _ _ _ => pe_int)) rfl)
    (pss_cons (ps_fld (pv 0) (pe_lc (own := [("row", 2)]) (g := (gName 2)) (tt := tYes) rfl sc_Board_init.nd (pi_list (pv 1)) (blkOk_by (own := [("row", 2)]) (N := N_Board_init) (by kernel_rfl))
      (fun _ _ _ _ _ => (pg_name (i := 2) sc_Board_init.nd rfl (by first | exact Or.inl rfl | exact Or.inr rfl))) (fun _ _ _ _ _ => pts_nil) (fun _ _ _ _ _ => pe_int)) rfl)
    (pss_one (ps_fld (pv 0) pe_int rfl))))))
theorem ok_Board_has_site (T : Txt K mg) : FnOk P w K mg base CX0 1 T.f_Board_has_site T.d_Board_has_site ["self", "at"] (sp_Board_has_site K T.G) := by
  refine T.F_Board_has_site.ok sc_Board_has_site (fun vs H Q E h => len_Board_has_site h) (fun cdv A outer s H vs Q E hr h => ⟨t_Board_has_site K T.G E, ?_, pure_Board_has_site T.bd h⟩)
  exact (pss_one (ps_ret (pe_and (pe_cmpR op_le pe_int (pv 1) (nomark _)) (pe_one (pe_cmpR op_lt (pv 1) (pe_callB call_len_seq (by rfl) T.n_len bt_len (pa_cons (pe_fld (pv 0) rfl) pa_nil)) (nomark _))))))
theorem ok_Board_turn_to (T : Txt K mg) : FnOk P w K mg base (L2.CX P w) 2 T.f_Board_turn_to T.d_Board_turn_to ["self", "at", "place"] (sp_Board_turn_to K T.G) := by
  refine T.F_Board_turn_to.okX sc_Board_turn_to (fun vs H Q E h => len_Board_turn_to h) (fun cdv A outer s H vs Q E hr h => ⟨t_Board_turn_to K T.G E, ?_, pure_Board_turn_to T.bd h⟩)
  exact (pss_cons (ps_if (pt_not (pt_val (pe_meth (pv 0) T.cl_Board T.m_Board_has_site (ok_Board_has_site T) (hr.mono (by decide)) T.b_Board_has_site .nil pass0 (pa_cons (pv 1) pa_nil))))
    (pss_one (ps_raise rfl (takes_of rfl rfl rfl rfl) (pmk_own PySem.F.excBase_ValueError T.x_NoSite T.g_NoSite T.k_NoSite (raises_own T.b_NoSite T.t_NoSite) (by rfl))))
    pss_nil)
    (pss_cons (ps_if (PW.pt (pw_or (pt_cmpR op_lt (pv 2) pe_int (nomark _)) (pw_or1 (pt_cmpR op_ge (pv 2) (pe_callB call_len_seq (by rfl) T.n_len bt_len (pa_cons (pe_ix ix_list (pe_fld (pv 0) rfl) (pv 1) (fun _ _ => rfl)) pa_nil)) (nomark _)))))
    (pss_one (ps_raise rfl (takes_of rfl rfl rfl rfl) (pmk_own PySem.F.excBase_ValueError T.x_NoPlace T.g_NoPlace T.k_NoPlace (raises_own T.b_NoPlace T.t_NoPlace) (by rfl))))
    pss_nil)
    (pss_one (ps_asg (pv 2) (pg_sub (pe_fld (pv 0) rfl) (pv 1) set_list)))))
theorem okN_Board_turn_to (T : Txt K mg) : FnOk P w K mg base (L2N.CX P w) 2 T.f_Board_turn_to T.d_Board_turn_to ["self", "at", "place"] (sp_Board_turn_to K T.G) := by
  refine okXN T.F_Board_turn_to sc_Board_turn_to (fun vs H Q E h => len_Board_turn_to h) (fun cdv A outer s H vs Q E hr h => ⟨t_Board_turn_to K T.G E, ?_, pure_Board_turn_to T.bd h⟩)
  exact (pss_cons (ps_if (pt_not (pt_val (pe_meth (pv 0) T.cl_Board T.m_Board_has_site (ok_Board_has_site T) (hr.mono (by decide)) T.b_Board_has_site .nil pass0 (pa_cons (pv 1) pa_nil))))
    (pss_one (L2N.ps_raise rfl (L2N.takes_of rfl rfl rfl rfl) (L2N.pmk_own PySem.F.excBase_ValueError T.x_NoSite T.g_NoSite T.k_NoSite (raises_own T.b_NoSite T.t_NoSite) (by rfl))))
    pss_nil)
    (pss_cons (ps_if (PW.pt (pw_or (pt_cmpR op_lt (pv 2) pe_int (nomark _)) (pw_or1 (pt_cmpR op_ge (pv 2) (pe_callB call_len_seq (by rfl) T.n_len bt_len (pa_cons (pe_ix ix_list (pe_fld (pv 0) rfl) (pv 1) (fun _ _ => rfl)) pa_nil)) (nomark _)))))
    (pss_one (L2N.ps_raise rfl (L2N.takes_of rfl rfl rfl rfl) (L2N.pmk_own PySem.F.excBase_ValueError T.x_NoPlace T.g_NoPlace T.k_NoPlace (raises_own T.b_NoPlace T.t_NoPlace) (by rfl))))
    pss_nil)
    (pss_one (ps_asg (pv 2) (pg_sub (pe_fld (pv 0) rfl) (pv 1) set_list)))))
theorem ok_Board_load (T : Txt K mg) : FnOk P w K mg base (L2.CX P w) 2 T.f_Board_load T.d_Board_load ["self", "at", "many"] (sp_Board_load K T.G) := by
  refine T.F_Board_load.okX sc_Board_load (fun vs H Q E h => len_Board_load h) (fun cdv A outer s H vs Q E hr h => ⟨t_Board_load K T.G E, ?_, pure_Board_load T.bd h⟩)
  exact (pss_cons (ps_if (pt_not (pt_val (pe_meth (pv 0) T.cl_Board T.m_Board_has_site (ok_Board_has_site T) (hr.mono (by decide)) T.b_Board_has_site .nil pass0 (pa_cons (pv 1) pa_nil))))
    (pss_one (ps_raise rfl (takes_of rfl rfl rfl rfl) (pmk_own PySem.F.excBase_ValueError T.x_NoSite T.g_NoSite T.k_NoSite (raises_own T.b_NoSite T.t_NoSite) (by rfl))))
    pss_nil)
    (pss_cons (ps_if (pt_cmpR op_gt (pe_op op_add (pe_callB (cr_sum rfl) (by rfl) T.n_sum bt_sum (pa_cons (pe_fld (pv 0) rfl) pa_nil)) (pv 2)) (pe_glob (v := .int 400) (by rfl) T.g_MOST_MARBLES ⟨_, rfl⟩) (nomark _))
    (pss_one (ps_raise rfl (takes_of rfl rfl rfl rfl) (pmk_own PySem.F.excBase_ValueError T.x_TooMany T.g_TooMany T.k_TooMany (raises_own T.b_TooMany T.t_TooMany) (by rfl))))
    pss_nil)
    (pss_one (ps_asg (pe_op op_add (pe_ix ix_list (pe_fld (pv 0) rfl) (pv 1) (fun _ _ => rfl)) (pv 2)) (pg_sub (pe_fld (pv 0) rfl) (pv 1) set_list)))))
theorem okN_Board_load (T : Txt K mg) : FnOk P w K mg base (L2N.CX P w) 2 T.f_Board_load T.d_Board_load ["self", "at", "many"] (sp_Board_load K T.G) := by
  refine okXN T.F_Board_load sc_Board_load (fun vs H Q E h => len_Board_load h) (fun cdv A outer s H vs Q E hr h => ⟨t_Board_load K T.G E, ?_, pure_Board_load T.bd h⟩)
  exact (pss_cons (ps_if (pt_not (pt_val (pe_meth (pv 0) T.cl_Board T.m_Board_has_site (ok_Board_has_site T) (hr.mono (by decide)) T.b_Board_has_site .nil pass0 (pa_cons (pv 1) pa_nil))))
    (pss_one (L2N.ps_raise rfl (L2N.takes_of rfl rfl rfl rfl) (L2N.pmk_own PySem.F.excBase_ValueError T.x_NoSite T.g_NoSite T.k_NoSite (raises_own T.b_NoSite T.t_NoSite) (by rfl))))
    pss_nil)
    (pss_cons (ps_if (pt_cmpR op_gt (pe_op op_add (pe_callB (cr_sum rfl) (by rfl) T.n_sum bt_sum (pa_cons (pe_fld (pv 0) rfl) pa_nil)) (pv 2)) (pe_glob (v := .int 400) (by rfl) T.g_MOST_MARBLES ⟨_, rfl⟩) (nomark _))
    (pss_one (L2N.ps_raise rfl (L2N.takes_of rfl rfl rfl rfl) (L2N.pmk_own PySem.F.excBase_ValueError T.x_TooMany T.g_TooMany T.k_TooMany (raises_own T.b_TooMany T.t_TooMany) (by rfl))))
    pss_nil)
    (pss_one (ps_asg (pe_op op_add (pe_ix ix_list (pe_fld (pv 0) rfl) (pv 1) (fun _ _ => rfl)) (pv 2)) (pg_sub (pe_fld (pv 0) rfl) (pv 1) set_list)))))
theorem ok_board (T : Txt K mg) : FnOk P w K mg base CX0 4 T.f_board T.d_board ["rows", "turns", "loads"] (sp_board K T.G) := by
  refine T.F_board.ok sc_board (fun vs H Q E h => len_board h) (fun cdv A outer s H vs Q E hr h => ⟨t_board K T.G E, ?_, pure_board  h⟩)
  exact (pss_cons (ps_set (i := 3) sc_board.nd rfl (by first | exact Or.inl rfl | exact Or.inr rfl) (pe_make T.mk_Board (ok_Board_init T) (hr.mono (by decide)) (by rfl) T.g_Board T.b_Board_init .nil passL (pa_cons (pe_lc (own := [("row", 5)]) (g := (gName 5)) (tt := tYes) rfl sc_board.nd (pi_list (pv 0)) (blkOk_by (own := [("row", 5)]) (N := N_board) (by kernel_rfl))
      (fun _ _ _ _ _ => (pg_name (i := 5) sc_board.nd rfl (by first | exact Or.inl rfl | exact Or.inr rfl))) (fun _ _ _ _ _ => pts_nil) (fun _ _ _ _ _ => (pe_callTy call_list_of (by rfl) T.n_list bt_list (pa_cons (pv 5) pa_nil)))) pa_nil)))
    (pss_cons (ps_for PassesOwn.never rfl (pi_range1 (by rfl) T.n_range (pa_cons (pe_callB call_len_seq (by rfl) T.n_len bt_len (pa_cons (pv 0) pa_nil)) pa_nil)) (pg_name (i := 4) sc_board.nd rfl (by first | exact Or.inl rfl | exact Or.inr rfl))
    (pss_cons (ps_expr (pe_meth (pv 3) T.cl_Board T.m_Board_turn_to (ok_Board_turn_to T) (hr.mono (by decide)) T.b_Board_turn_to .nil passL (pa_cons (pv 4) (pa_cons (pe_ix ix_list (pv 1) (pv 4) (fun _ _ => rfl)) pa_nil))))
    (pss_one (ps_expr (pe_meth (pv 3) T.cl_Board T.m_Board_load (ok_Board_load T) (hr.mono (by decide)) T.b_Board_load .nil passL (pa_cons (pv 4) (pa_cons (pe_ix ix_list (pv 2) (pv 4) (fun _ _ => rfl)) pa_nil)))))))
    (pss_one (ps_ret (pv 3)))))
theorem ok_turns_by (T : Txt K mg) : FnOk P w K mg base CX0 2 T.f_turns_by T.d_turns_by ["script", "rows"] (sp_turns_by K T.G) := by
  refine T.F_turns_by.ok sc_turns_by (fun vs H Q E h => len_turns_by h) (fun cdv A outer s H vs Q E hr h => ⟨t_turns_by K T.G E, ?_, pure_turns_by  h⟩)
  exact (pss_one (ps_ret (pe_lc (own := [("k", 2)]) (g := (gName 2)) (tt := tYes) rfl sc_turns_by.nd (pi_range1 (by rfl) T.n_range (pa_cons (pe_callB call_len_seq (by rfl) T.n_len bt_len (pa_cons (pv 1) pa_nil)) pa_nil)) (blkOk_by (own := [("k", 2)]) (N := N_turns_by) (by kernel_rfl))
      (fun _ _ _ _ _ => (pg_name (i := 2) sc_turns_by.nd rfl (by first | exact Or.inl rfl | exact Or.inr rfl))) (fun _ _ _ _ _ => pts_nil) (fun _ _ _ _ _ => (pe_call (ok_drawn T) (hr.mono (by decide)) (by rfl) T.g_drawn T.F_drawn.kp T.b_drawn .nil pass0 (pa_cons (pv 0) (pa_cons (pe_op op_add pe_int (pv 2)) (pa_cons (pe_callB call_len_seq (by rfl) T.n_len bt_len (pa_cons (pe_ix ix_list (pv 1) (pv 2) (fun _ _ => rfl)) pa_nil)) pa_nil))))))))
theorem ok_loads_by (T : Txt K mg) : FnOk P w K mg base CX0 2 T.f_loads_by T.d_loads_by ["script", "rows"] (sp_loads_by K T.G) := by
  refine T.F_loads_by.ok sc_loads_by (fun vs H Q E h => len_loads_by h) (fun cdv A outer s H vs Q E hr h => ⟨t_loads_by K T.G E, ?_, pure_loads_by  h⟩)
  exact (pss_cons (ps_setLc (i := 2) (own := [("row", 6)]) (g := (gName 6)) (tt := tYes) rfl sc_loads_by.nd rfl rfl (sw_true rfl rfl rfl (by decide +kernel)) (pi_list (pv 1)) (blkOk_by (own := [("row", 6)]) (N := N_loads_by) (by kernel_rfl))
      (fun _ _ _ _ _ => (pg_name (i := 6) sc_loads_by.nd rfl (by first | exact Or.inl rfl | exact Or.inr rfl))) (fun _ _ _ _ _ => pts_nil) (fun _ _ _ _ _ => pe_int))
    (pss_cons (ps_set (i := 3) sc_loads_by.nd rfl (by first | exact Or.inl rfl | exact Or.inr rfl) (pe_call (ok_drawn T) (hr.mono (by decide)) (by rfl) T.g_drawn T.F_drawn.kp T.b_drawn .nil pass0 (pa_cons (pv 0) (pa_cons pe_int (pa_cons pe_int pa_nil)))))
    (pss_cons (ps_if (pt_cmpR op_gt (pe_callB call_len_seq (by rfl) T.n_len bt_len (pa_cons (pv 1) pa_nil)) pe_int (nomark _))
    (pss_one (ps_set (i := 3) sc_loads_by.nd rfl (by first | exact Or.inl rfl | exact Or.inr rfl) (pe_call (ok_drawn T) (hr.mono (by decide)) (by rfl) T.g_drawn T.F_drawn.kp T.b_drawn .nil pass0 (pa_cons (pv 0) (pa_cons pe_int (pa_cons pe_int pa_nil))))))
    pss_nil)
    (pss_cons (ps_for PassesOwn.never rfl (pi_range1 (by rfl) T.n_range (pa_cons (pv 3) pa_nil)) (pg_name (i := 4) sc_loads_by.nd rfl (by first | exact Or.inl rfl | exact Or.inr rfl))
    (pss_cons (ps_set (i := 5) sc_loads_by.nd rfl (by first | exact Or.inl rfl | exact Or.inr rfl) (pe_call (ok_drawn T) (hr.mono (by decide)) (by rfl) T.g_drawn T.F_drawn.kp T.b_drawn .nil pass0 (pa_cons (pv 0) (pa_cons (pe_op op_add pe_int (pv 4)) (pa_cons (pe_callB call_len_seq (by rfl) T.n_len bt_len (pa_cons (pv 1) pa_nil)) pa_nil)))))
    (pss_one (ps_asg (pe_op op_add (pe_ix ix_list (pv 2) (pv 5) (fun _ _ => rfl)) pe_int) (pg_sub (pv 2) (pv 5) set_list)))))
    (pss_one (ps_ret (pv 2)))))))
theorem ok_changed (T : Txt K mg) : FnOk P w K mg base CX0 2 T.f_changed T.d_changed ["script", "shown"] (sp_changed K T.G) := by
  refine T.F_changed.ok sc_changed (fun vs H Q E h => len_changed h) (fun cdv A outer s H vs Q E hr h => ⟨t_changed K T.G E, ?_, pure_changed  h⟩)
  exact (pss_cons (ps_set (i := 2) sc_changed.nd rfl (by first | exact Or.inl rfl | exact Or.inr rfl) pe_str)
    (pss_cons (ps_set (i := 3) sc_changed.nd rfl (by first | exact Or.inl rfl | exact Or.inr rfl) (pe_ix ix_str (pv 2) (pe_call (ok_drawn T) (hr.mono (by decide)) (by rfl) T.g_drawn T.F_drawn.kp T.b_drawn .nil pass0 (pa_cons (pv 0) (pa_cons pe_int (pa_cons (pe_callB call_len_str (by rfl) T.n_len bt_len (pa_cons (pv 2) pa_nil)) pa_nil)))) (fun _ _ => rfl)))
    (pss_cons (ps_if (pt_cmpR op_eq (pe_call (ok_drawn T) (hr.mono (by decide)) (by rfl) T.g_drawn T.F_drawn.kp T.b_drawn .nil pass0 (pa_cons (pv 0) (pa_cons pe_int (pa_cons pe_int pa_nil)))) pe_int (nomark _))
    (pss_one (ps_set (i := 3) sc_changed.nd rfl (by first | exact Or.inl rfl | exact Or.inr rfl) (pe_ix ix_str pe_str (pe_call (ok_drawn T) (hr.mono (by decide)) (by rfl) T.g_drawn T.F_drawn.kp T.b_drawn .nil pass0 (pa_cons (pv 0) (pa_cons pe_int (pa_cons pe_int pa_nil)))) (fun _ _ => rfl))))
    pss_nil)
    (pss_cons (ps_set (i := 4) sc_changed.nd rfl (by first | exact Or.inl rfl | exact Or.inr rfl) (pe_call (ok_drawn T) (hr.mono (by decide)) (by rfl) T.g_drawn T.F_drawn.kp T.b_drawn .nil pass0 (pa_cons (pv 0) (pa_cons pe_int (pa_cons (pe_callB call_len_str (by rfl) T.n_len bt_len (pa_cons (pv 1) pa_nil)) pa_nil)))))
    (pss_cons (ps_set (i := 5) sc_changed.nd rfl (by first | exact Or.inl rfl | exact Or.inr rfl) (pe_call (ok_drawn T) (hr.mono (by decide)) (by rfl) T.g_drawn T.F_drawn.kp T.b_drawn .nil pass0 (pa_cons (pv 0) (pa_cons pe_int (pa_cons pe_int pa_nil)))))
    (pss_cons (ps_if (pt_cmpR op_eq (pv 5) pe_int (nomark _))
    (pss_one (ps_ret (pe_op op_add_str (pe_op op_add_str (pe_slice sl_str (pv 1) po_none (po_some (pv 4))) (pv 3)) (pe_slice sl_str (pv 1) (po_some (pv 4)) po_none))))
    pss_nil)
    (pss_cons (ps_if (pt_cmpR op_eq (pv 5) pe_int (nomark _))
    (pss_one (ps_ret (pe_op op_add_str (pe_slice sl_str (pv 1) po_none (po_some (pv 4))) (pe_slice sl_str (pv 1) (po_some (pe_op op_add (pv 4) pe_int)) po_none))))
    pss_nil)
    (pss_cons (ps_if (pt_cmpR op_eq (pv 5) pe_int (nomark _))
    (pss_one (ps_ret (pe_op op_add_str (pe_op op_add_str (pe_slice sl_str (pv 1) po_none (po_some (pv 4))) (pv 3)) (pe_slice sl_str (pv 1) (po_some (pe_op op_add (pv 4) pe_int)) po_none))))
    pss_nil)
    (pss_cons (ps_set (i := 6) sc_changed.nd rfl (by first | exact Or.inl rfl | exact Or.inr rfl) (pe_split (pv 1) pe_str))
    (pss_cons (ps_set (i := 7) sc_changed.nd rfl (by first | exact Or.inl rfl | exact Or.inr rfl) (pe_call (ok_drawn T) (hr.mono (by decide)) (by rfl) T.g_drawn T.F_drawn.kp T.b_drawn .nil pass0 (pa_cons (pv 0) (pa_cons pe_int (pa_cons (pe_callB call_len_seq (by rfl) T.n_len bt_len (pa_cons (pv 6) pa_nil)) pa_nil)))))
    (pss_cons (ps_if (pt_cmpR op_eq (pv 5) pe_int (nomark _))
    (pss_one (ps_ret (pe_join pe_str (pe_op op_cat (pe_slice sl_list (pv 6) po_none (po_some (pe_op op_add (pv 7) pe_int))) (pe_slice sl_list (pv 6) (po_some (pv 7)) po_none)))))
    pss_nil)
    (pss_one (ps_ret (pe_join pe_str (pe_op op_cat (pe_slice sl_list (pv 6) po_none (po_some (pv 7))) (pe_slice sl_list (pv 6) (po_some (pe_op op_add (pv 7) pe_int)) po_none))))))))))))))))
theorem ok_exit_shown (T : Txt K mg) : FnOk P w K mg base CX0 1 T.f_exit_shown T.d_exit_shown ["gone"] (sp_exit_shown K T.G) := by
  refine T.F_exit_shown.ok sc_exit_shown (fun vs H Q E h => len_exit_shown h) (fun cdv A outer s H vs Q E hr h => ⟨t_exit_shown K T.G E, ?_, pure_exit_shown  h⟩)
  exact (pss_cons (ps_if (pt_cmpR op_eq (pv 0) (pe_glob (v := .int (-1)) (by rfl) T.g_PIT ⟨_, rfl⟩) (nomark _))
    (pss_one (ps_ret pe_str))
    pss_nil)
    (pss_one (ps_ret (pe_callTy call_str_int (by rfl) T.n_str bt_str (pa_cons (pv 0) pa_nil)))))
theorem ok_written (T : Txt K mg) : FnOk P w K mg base CX0 2 T.f_written T.d_written ["board"] (sp_written K T.G) := by
  refine T.F_written.ok sc_written (fun vs H Q E h => len_written h) (fun cdv A outer s H vs Q E hr h => ⟨t_written K T.G E, ?_, pure_written T.bd h⟩)
  exact (pss_cons (ps_set (i := 1) sc_written.nd rfl (by first | exact Or.inl rfl | exact Or.inr rfl) (pe_lst (pa_cons (pe_op op_add_str pe_str (pe_callTy call_str_int (by rfl) T.n_str bt_str (pa_cons (pe_fld (pv 0) rfl) pa_nil))) pa_nil)))
    (pss_cons (ps_for PassesOwn.never rfl (pi_range1 (by rfl) T.n_range (pa_cons (pe_callB call_len_seq (by rfl) T.n_len bt_len (pa_cons (pe_fld (pv 0) rfl) pa_nil)) pa_nil)) (pg_name (i := 2) sc_written.nd rfl (by first | exact Or.inl rfl | exact Or.inr rfl))
    (pss_cons (ps_set (i := 3) sc_written.nd rfl (by first | exact Or.inl rfl | exact Or.inr rfl) (pe_lst (pa_cons (pe_callTy call_str_int (by rfl) T.n_str bt_str (pa_cons (pe_ix ix_list (pe_fld (pv 0) rfl) (pv 2) (fun _ _ => rfl)) pa_nil)) (pa_cons (pe_callTy call_str_int (by rfl) T.n_str bt_str (pa_cons (pe_ix ix_list (pe_fld (pv 0) rfl) (pv 2) (fun _ _ => rfl)) pa_nil)) (pa_cons (pe_callTy call_str_int (by rfl) T.n_str bt_str (pa_cons (pe_ix ix_list (pe_fld (pv 0) rfl) (pv 2) (fun _ _ => rfl)) pa_nil)) (pa_cons pe_str pa_nil))))))
    (pss_cons (ps_expr (pe_bm PySem.F.plainAttrs_list PySem.F.slot_list_extend PySem.F.type_list_extend mt_extend (pv 3) (pa_cons (pe_lc (own := [("gone", 4)]) (g := (gName 4)) (tt := tYes) rfl sc_written.nd (pi_list (pe_ix ix_list (pe_fld (pv 0) rfl) (pv 2) (fun _ _ => rfl))) (blkOk_by (own := [("gone", 4)]) (N := N_written) (by kernel_rfl))
      (fun _ _ _ _ _ => (pg_name (i := 4) sc_written.nd rfl (by first | exact Or.inl rfl | exact Or.inr rfl))) (fun _ _ _ _ _ => pts_nil) (fun _ _ _ _ _ => (pe_call (ok_exit_shown T) (hr.mono (by decide)) (by rfl) T.g_exit_shown T.F_exit_shown.kp T.b_exit_shown .nil pass0 (pa_cons (pv 4) pa_nil)))) pa_nil)))
    (pss_one (ps_expr (pe_bm PySem.F.plainAttrs_list PySem.F.slot_list_append PySem.F.type_list_append mt_append (pv 1) (pa_cons (pe_join pe_str (pv 3)) pa_nil)))))))
    (pss_one (ps_ret (pe_join pe_str (pv 1))))))
theorem ok_odd (T : Txt K mg) : FnOk P w K mg base CX0 2 T.f_odd T.d_odd ["script"] (sp_odd K T.G) := by
  refine T.F_odd.ok sc_odd (fun vs H Q E h => len_odd h) (fun cdv A outer s H vs Q E hr h => ⟨t_odd K T.G E, ?_, pure_odd  h⟩)
  exact (pss_cons (ps_set (i := 1) sc_odd.nd rfl (by first | exact Or.inl rfl | exact Or.inr rfl) pe_str)
    (pss_cons (ps_set (i := 2) sc_odd.nd rfl (by first | exact Or.inl rfl | exact Or.inr rfl) (pe_lst (pa_cons pe_str (pa_cons pe_str (pa_cons pe_str (pa_cons pe_str (pa_cons pe_str (pa_cons (pe_op op_add_str (pe_op op_add_str pe_str (pv 1)) pe_str) (pa_cons (pe_op op_add_str pe_str (pv 1)) pa_nil)))))))))
    (pss_cons (ps_set (i := 2) sc_odd.nd rfl (by first | exact Or.inl rfl | exact Or.inr rfl) (pe_op op_cat (pv 2) (pe_lst (pa_cons pe_str (pa_cons pe_str (pa_cons (pe_op op_add_str pe_str (pv 1)) (pa_cons (pe_op op_add_str pe_str (pv 1)) (pa_cons (pe_op op_add_str pe_str (pv 1)) pa_nil))))))))
    (pss_cons (ps_set (i := 2) sc_odd.nd rfl (by first | exact Or.inl rfl | exact Or.inr rfl) (pe_op op_cat (pv 2) (pe_lst (pa_cons pe_str (pa_cons pe_str (pa_cons pe_str (pa_cons pe_str pa_nil)))))))
    (pss_cons (ps_set (i := 2) sc_odd.nd rfl (by first | exact Or.inl rfl | exact Or.inr rfl) (pe_op op_cat (pv 2) (pe_lst (pa_cons pe_str (pa_cons (pe_op op_add_str pe_str (pv 1)) (pa_cons (pe_op op_add_str pe_str (pv 1)) (pa_cons pe_str (pa_cons (pv 1) pa_nil))))))))
    (pss_cons (ps_set (i := 2) sc_odd.nd rfl (by first | exact Or.inl rfl | exact Or.inr rfl) (pe_op op_cat (pv 2) (pe_lst (pa_cons (pe_op op_add_str pe_str (pe_op op_repS pe_str pe_int)) (pa_cons (pe_op op_add_str (pe_op op_add_str pe_str (pe_op op_repS pe_str pe_int)) (pv 1)) (pa_cons (pe_op op_add_str (pe_op op_add_str pe_str (pv 1)) (pe_op op_repS pe_str pe_int)) pa_nil))))))
    (pss_cons (ps_set (i := 2) sc_odd.nd rfl (by first | exact Or.inl rfl | exact Or.inr rfl) (pe_op op_cat (pv 2) (pe_lst (pa_cons (pe_op op_add_str pe_str (pe_op op_repS (pv 1) (pe_op op_add pe_int (pe_call (ok_drawn T) (hr.mono (by decide)) (by rfl) T.g_drawn T.F_drawn.kp T.b_drawn .nil pass0 (pa_cons (pv 0) (pa_cons pe_int (pa_cons pe_int pa_nil))))))) (pa_cons pe_str pa_nil)))))
    (pss_cons (ps_set (i := 3) sc_odd.nd rfl (by first | exact Or.inl rfl | exact Or.inr rfl) (pe_op op_add_str pe_str (pe_op op_repS pe_str pe_int)))
    (pss_cons (ps_set (i := 2) sc_odd.nd rfl (by first | exact Or.inl rfl | exact Or.inr rfl) (pe_op op_cat (pv 2) (pe_lst (pa_cons (pe_op op_add_str (pe_op op_add_str pe_str (pv 3)) pe_str) (pa_cons (pe_op op_add_str (pe_op op_add_str pe_str (pv 3)) pe_str) (pa_cons (pe_op op_add_str pe_str (pv 1)) pa_nil))))))
    (pss_cons (ps_set (i := 2) sc_odd.nd rfl (by first | exact Or.inl rfl | exact Or.inr rfl) (pe_op op_cat (pv 2) (pe_lst (pa_cons pe_str (pa_cons pe_str (pa_cons pe_str (pa_cons pe_str pa_nil)))))))
    (pss_one (ps_ret (pe_ix ix_list (pv 2) (pe_call (ok_drawn T) (hr.mono (by decide)) (by rfl) T.g_drawn T.F_drawn.kp T.b_drawn .nil pass0 (pa_cons (pv 0) (pa_cons pe_int (pa_cons (pe_callB call_len_seq (by rfl) T.n_len bt_len (pa_cons (pv 2) pa_nil)) pa_nil)))) (fun _ _ => rfl))))))))))))))
theorem ok_number_of (T : Txt K mg) : FnOk P w K mg base (L2N.CX P w) 1 T.f_number_of T.d_number_of ["word"] (sp_number_of K T.G) := by
  refine okXN T.F_number_of sc_number_of (fun vs H Q E h => len_number_of h) (fun cdv A outer s H vs Q E hr h => ⟨t_number_of K T.G E, ?_, pure_number_of  h⟩)
  exact (pss_cons (ps_if (PW.pt (pw_or (pt_cmpR op_eq (pv 0) pe_str (nomark _)) (pw_or (pt_cmpR op_gt (pe_callB call_len_str (by rfl) T.n_len bt_len (pa_cons (pv 0) pa_nil)) (pe_glob (v := .int 20) (by rfl) T.g_MOST_FIGURES ⟨_, rfl⟩) (nomark _)) (pw_or1 (PW.pt (pw_and (pt_cmpR op_eq (pe_ix ix_str (pv 0) pe_int (fun _ _ => rfl)) pe_str (nomark _)) (pw_and1 (pt_cmpR op_gt (pe_callB call_len_str (by rfl) T.n_len bt_len (pa_cons (pv 0) pa_nil)) pe_int (nomark _)))))))))
    (pss_one (L2N.ps_raise rfl (L2N.takes_of rfl rfl rfl rfl) (L2N.pmk_own PySem.F.excBase_ValueError T.x_NoBoard T.g_NoBoard T.k_NoBoard (raises_own T.b_NoBoard T.t_NoBoard) (by rfl))))
    pss_nil)
    (pss_cons (ps_for (passes_of rfl) rfl (pi_str (pv 0)) (pg_name (i := 1) sc_number_of.nd rfl (by first | exact Or.inl rfl | exact Or.inr rfl))
    (pss_one (ps_if (pt_cmpR op_notIn_sign (pv 1) (pe_glob (v := .str "0123456789") (by rfl) T.g_FIGURES ⟨_, rfl⟩) (by rfl))
    (pss_one (L2N.ps_raise rfl (L2N.takes_of rfl rfl rfl rfl) (L2N.pmk_own PySem.F.excBase_ValueError T.x_NoBoard T.g_NoBoard T.k_NoBoard (raises_own T.b_NoBoard T.t_NoBoard) (by rfl))))
    pss_nil)))
    (pss_one (ps_ret (pe_callTy call_int_str (by rfl) T.n_int bt_int (pa_cons (pv 0) pa_nil))))))
theorem ok_exit_of (T : Txt K mg) : FnOk P w K mg base (L2N.CX P w) 2 T.f_exit_of T.d_exit_of ["word"] (sp_exit_of K T.G) := by
  refine okXN T.F_exit_of sc_exit_of (fun vs H Q E h => len_exit_of h) (fun cdv A outer s H vs Q E hr h => ⟨t_exit_of K T.G E, ?_, pure_exit_of  h⟩)
  exact (pss_cons (ps_if (pt_cmpR op_eq (pv 0) pe_str (nomark _))
    (pss_one (ps_ret (pe_glob (v := .int (-1)) (by rfl) T.g_PIT ⟨_, rfl⟩)))
    pss_nil)
    (pss_one (ps_ret (pe_call (ok_number_of T) (hr.mono (by decide)) (by rfl) T.g_number_of T.F_number_of.kp T.b_number_of .nil (L2N.passes_call (L2N.takes_of rfl rfl rfl rfl) fun _ _ _ _ z => z) (pa_cons (pv 0) pa_nil)))))
theorem ok_site_of_k25 (T : Txt K mg) : FnOk P w K mg base (L2N.CX P w) 3 T.f_site_of_k25 T.d_site_of_k25 ["line"] (sp_site_of_k25 K T.G) := by
  refine okXN T.F_site_of_k25 sc_site_of_k25 (fun vs H Q E h => len_site_of_k25 h) (fun cdv A outer s H vs Q E hr h => ⟨t_site_of_k25 K T.G E, ?_, pure_site_of_k25  h⟩)
  exact (pss_cons (ps_set (i := 1) sc_site_of_k25.nd rfl (by first | exact Or.inl rfl | exact Or.inr rfl) (pe_split (pv 0) pe_str))
    (pss_cons (ps_if (PW.pt (pw_or (pt_cmpR op_lt (pe_callB call_len_seq (by rfl) T.n_len bt_len (pa_cons (pv 1) pa_nil)) pe_int (nomark _)) (pw_or1 (pt_cmpR op_ne (pe_ix ix_list (pv 1) pe_int (fun _ _ => rfl)) pe_str (nomark _)))))
    (pss_one (L2N.ps_raise rfl (L2N.takes_of rfl rfl rfl rfl) (L2N.pmk_own PySem.F.excBase_ValueError T.x_NoBoard T.g_NoBoard T.k_NoBoard (raises_own T.b_NoBoard T.t_NoBoard) (by rfl))))
    pss_nil)
    (pss_cons (ps_setLcX (E := E) (i := 2) (mine := [("word", 3)]) (tg := (gName 3)) (tt := tYes) ⟨rfl, rfl, L2N.takes_of rfl rfl rfl rfl⟩ rfl sc_site_of_k25.nd rfl rfl (sw_true rfl rfl rfl (by decide +kernel)) (pi_list (pe_slice sl_list (pv 1) po_none (po_some pe_int))) (blkOk_by (own := [("word", 3)]) (N := N_site_of_k25) (by kernel_rfl))
      (fun _ _ _ _ _ => (pg_name (i := 3) sc_site_of_k25.nd rfl (by first | exact Or.inl rfl | exact Or.inr rfl))) (fun _ _ _ _ _ => pts_nil) (fun _ _ _ _ _ => (pe_call (ok_number_of T) (hr.mono (by decide)) (by rfl) T.g_number_of T.F_number_of.kp T.b_number_of .nil passB (pa_cons (pv 3) pa_nil))))
    (pss_one (ps_ret (pe_tup (pa_cons (pv 2) (pa_cons (pe_lcX (E := E) (mine := [("word", 3)]) (tg := (gName 3)) (tt := tYes) ⟨rfl, rfl, L2N.takes_of rfl rfl rfl rfl⟩ rfl sc_site_of_k25.nd (pi_list (pe_slice sl_list (pv 1) (po_some pe_int) po_none)) (blkOk_by (own := [("word", 3)]) (N := N_site_of_k25) (by kernel_rfl))
      (fun _ _ _ _ _ => (pg_name (i := 3) sc_site_of_k25.nd rfl (by first | exact Or.inl rfl | exact Or.inr rfl))) (fun _ _ _ _ _ => pts_nil) (fun _ _ _ _ _ => (pe_call (ok_exit_of T) (hr.mono (by decide)) (by rfl) T.g_exit_of T.F_exit_of.kp T.b_exit_of .nil passB (pa_cons (pv 3) pa_nil)))) pa_nil))))))))
theorem ok_read_k25 (T : Txt K mg) : FnOk P w K mg base (CX2 P w) 4 T.f_read_k25 T.d_read_k25 ["text"] (sp_read_k25 K T.G) := by
  refine okX2 T.F_read_k25 sc_read_k25 (fun vs H Q E h => len_read_k25 h) (fun cdv A outer s H vs Q E hr h => ⟨t_read_k25 K T.G E, ?_, pure_read_k25 T.bd T.e_NoSite_BoardError T.e_NoExit_BoardError T.e_NoPlace_BoardError T.e_TooMany_BoardError h⟩)
  exact (pss_cons (ps_set (i := 1) sc_read_k25.nd rfl (by first | exact Or.inl rfl | exact Or.inr rfl) (pe_split (pv 0) pe_str))
    (pss_cons (ps_set (i := 2) sc_read_k25.nd rfl (by first | exact Or.inl rfl | exact Or.inr rfl) (pe_split (pe_ix ix_list (pv 1) pe_int (fun _ _ => rfl)) pe_str))
    (pss_cons (ps_if (PW.pt (pw_or (pt_cmpR op_ne (pe_callB call_len_seq (by rfl) T.n_len bt_len (pa_cons (pv 2) pa_nil)) pe_int (nomark _)) (pw_or1 (pt_cmpR op_ne (pe_ix ix_list (pv 2) pe_int (fun _ _ => rfl)) pe_str (nomark _)))))
    (pss_one (L2N.ps_raise rfl (Takes2.n (takes2_of rfl rfl rfl rfl)) (L2N.pmk_own PySem.F.excBase_ValueError T.x_NoBoard T.g_NoBoard T.k_NoBoard (raises_own T.b_NoBoard T.t_NoBoard) (by rfl))))
    pss_nil)
    (pss_cons (ps_set (i := 3) sc_read_k25.nd rfl (by first | exact Or.inl rfl | exact Or.inr rfl) (pe_call (ok_number_of T) (hr.mono (by decide)) (by rfl) T.g_number_of T.F_number_of.kp T.b_number_of .nil (L2N.passes_call (Takes2.n (takes2_of rfl rfl rfl rfl)) fun _ _ _ _ z => z) (pa_cons (pe_ix ix_list (pv 2) pe_int (fun _ _ => rfl)) pa_nil)))
    (pss_cons (ps_setLcX (E := E) (i := 4) (mine := [("line", 7)]) (tg := (gName 7)) (tt := tYes) ⟨rfl, rfl, Takes2.n (takes2_of rfl rfl rfl rfl)⟩ rfl sc_read_k25.nd rfl rfl (sw_true rfl rfl rfl (by decide +kernel)) (pi_list (pe_slice sl_list (pv 1) (po_some pe_int) po_none)) (blkOk_by (own := [("line", 7)]) (N := N_read_k25) (by kernel_rfl))
      (fun _ _ _ _ _ => (pg_name (i := 7) sc_read_k25.nd rfl (by first | exact Or.inl rfl | exact Or.inr rfl))) (fun _ _ _ _ _ => pts_nil) (fun _ _ _ _ _ => (pe_call (ok_site_of_k25 T) (hr.mono (by decide)) (by rfl) T.g_site_of_k25 T.F_site_of_k25.kp T.b_site_of_k25 .nil passB (pa_cons (pv 7) pa_nil))))
    (pss_cons (ps_try_only2 (tb := (fun W => (tSeq (tAsg (tMakeT T.G.Board (sp_Board_init K T.G) (WE W) (tCons (tLc (iList K (tVar 4)) (gName 8) tYes (tOp (rIxT K) (tVar 8) (tC (.int 1))) [8]) tNil)) (gName 5))
    (tFor (iRng1 (tCons (tCB (mLen K) (tCons (tVar 4) tNil)) tNil)) (gName 6)
    (tSeq (tDrop (tMethT T.G.Board "turn_to" (sp_Board_turn_to K T.G) (WE W) (tVar 5) (tCons (tVar 6) (tCons (tOp (rIxL K) (tOp (rIxT K) (tOp (rIxL K) (tVar 4) (tVar 6)) (tC (.int 0))) (tC (.int 0))) tNil))))
    (tDrop (tMethT T.G.Board "load" (sp_Board_load K T.G) (WE W) (tVar 5) (tCons (tVar 6) (tCons (tOp (rIxL K) (tOp (rIxT K) (tOp (rIxL K) (tVar 4) (tVar 6)) (tC (.int 0))) (tC (.int 1))) tNil))))))))) rfl rfl ⟨rfl, by decide, .inl T.g_BoardError⟩ (fun hd => L2H.passesAt_of rfl hd) (takes2_of rfl rfl rfl rfl)
    (fun W pn xe tk po => (pss_cons (ps_set (i := 5) sc_read_k25.nd rfl (by first | exact Or.inl rfl | exact Or.inr rfl) (pe_makeT T.mk_Board (okN_Board_init T) (hr.mono (by decide)) (by rfl) T.g_Board T.b_Board_init (fun σ => L2N.passAt tk σ) (pa_cons (pe_lc (own := [("part", 8)]) (g := (gName 8)) (tt := tYes) rfl sc_read_k25.nd (pi_list (pv 4)) (blkOk_by (own := [("part", 8)]) (N := N_read_k25) (by kernel_rfl))
      (fun _ _ _ _ _ => (pg_name (i := 8) sc_read_k25.nd rfl (by first | exact Or.inl rfl | exact Or.inr rfl))) (fun _ _ _ _ _ => pts_nil) (fun _ _ _ _ _ => (pe_ix ix_tup (pv 8) pe_int (fun _ _ => rfl)))) pa_nil)))
    (pss_one (ps_for po rfl (pi_range1 (by rfl) T.n_range (pa_cons (pe_callB call_len_seq (by rfl) T.n_len bt_len (pa_cons (pv 4) pa_nil)) pa_nil)) (pg_name (i := 6) sc_read_k25.nd rfl (by first | exact Or.inl rfl | exact Or.inr rfl))
    (pss_cons (ps_expr (pe_methT (pv 5) T.cl_Board T.m_Board_turn_to (okN_Board_turn_to T) (hr.mono (by decide)) T.b_Board_turn_to (fun σ => L2N.passAt tk σ) (pa_cons (pv 6) (pa_cons (pe_ix ix_list (pe_ix ix_tup (pe_ix ix_list (pv 4) (pv 6) (fun _ _ => rfl)) pe_int (fun _ _ => rfl)) pe_int (fun _ _ => rfl)) pa_nil))))
    (pss_one (ps_expr (pe_methT (pv 5) T.cl_Board T.m_Board_load (okN_Board_load T) (hr.mono (by decide)) T.b_Board_load (fun σ => L2N.passAt tk σ) (pa_cons (pv 6) (pa_cons (pe_ix ix_list (pe_ix ix_tup (pe_ix ix_list (pv 4) (pv 6) (fun _ _ => rfl)) pe_int (fun _ _ => rfl)) pe_int (fun _ _ => rfl)) pa_nil))))))))))
    (fun a oe cls d pn hz hf tkS hot => (pss_one (ps_raise2 hot tkS (L2N.pmk_own PySem.F.excBase_ValueError T.x_NoBoard T.g_NoBoard T.k_NoBoard (raises_own T.b_NoBoard T.t_NoBoard) (by rfl))))))
    (pss_cons (ps_fld (pv 5) (pe_lc (own := [("part", 8)]) (g := (gName 8)) (tt := tYes) rfl sc_read_k25.nd (pi_list (pv 4)) (blkOk_by (own := [("part", 8)]) (N := N_read_k25) (by kernel_rfl))
      (fun _ _ _ _ _ => (pg_name (i := 8) sc_read_k25.nd rfl (by first | exact Or.inl rfl | exact Or.inr rfl))) (fun _ _ _ _ _ => pts_nil) (fun _ _ _ _ _ => (pe_ix ix_list (pe_ix ix_tup (pv 8) pe_int (fun _ _ => rfl)) pe_int (fun _ _ => rfl)))) rfl)
    (pss_cons (ps_fld (pv 5) (pv 3) rfl)
    (pss_one (ps_ret (pv 5)))))))))))
theorem ok_number (T : Txt K mg) : FnOk P w K mg base CX0 1 T.f_number T.d_number ["word"] (sp_number K T.G) := by
  refine T.F_number.ok sc_number (fun vs H Q E h => len_number h) (fun cdv A outer s H vs Q E hr h => ⟨t_number K T.G E, ?_, pure_number  h⟩)
  exact (pss_cons (ps_if (PW.pt (pw_or (pt_cmpR op_eq (pv 0) pe_str (nomark _)) (pw_or (pt_cmpR op_gt (pe_callB call_len_str (by rfl) T.n_len bt_len (pa_cons (pv 0) pa_nil)) pe_int (nomark _)) (pw_or1 (PW.pt (pw_and (pt_cmpR op_gt (pe_callB call_len_str (by rfl) T.n_len bt_len (pa_cons (pv 0) pa_nil)) pe_int (nomark _)) (pw_and1 (pt_cmpR op_eq (pe_ix ix_str (pv 0) pe_int (fun _ _ => rfl)) pe_str (nomark _)))))))))
    (pss_one (ps_ret (pe_un un_neg pe_int)))
    pss_nil)
    (pss_cons (ps_for PassesOwn.never rfl (pi_str (pv 0)) (pg_name (i := 1) sc_number.nd rfl (by first | exact Or.inl rfl | exact Or.inr rfl))
    (pss_one (ps_if (pt_cmpR op_notIn_sign (pv 1) pe_str (by rfl))
    (pss_one (ps_ret (pe_un un_neg pe_int)))
    pss_nil)))
    (pss_one (ps_ret (pe_callTy call_int_str (by rfl) T.n_int bt_int (pa_cons (pv 0) pa_nil))))))
theorem okB_number (T : Txt K mg) : FnB P w K mg base 1 T.f_number T.d_number ["word"] (sp_number K T.G) := by
  refine okB T.F_number sc_number (fun vs H Q E h => len_number h) (fun cdv p pn A outer s H vs Q hr hot h => ⟨t_number K T.G E0, ?_, pure_number  h⟩)
  exact (pss_cons (ps_if (PW.pt (pw_or (pt_cmpR op_eq (pv 0) pe_str (nomark _)) (pw_or (pt_cmpR op_gt (pe_callB call_len_str (by rfl) T.n_len bt_len (pa_cons (pv 0) pa_nil)) pe_int (nomark _)) (pw_or1 (PW.pt (pw_and (pt_cmpR op_gt (pe_callB call_len_str (by rfl) T.n_len bt_len (pa_cons (pv 0) pa_nil)) pe_int (nomark _)) (pw_and1 (pt_cmpR op_eq (pe_ix ix_str (pv 0) pe_int (fun _ _ => rfl)) pe_str (nomark _)))))))))
    (pss_one (ps_ret (pe_un un_neg pe_int)))
    pss_nil)
    (pss_cons (ps_forB PassesOwn.never hot (pib_str (pv 0)) (pg_name (i := 1) sc_number.nd rfl (by first | exact Or.inl rfl | exact Or.inr rfl))
    (pss_one (ps_if (pt_cmpR op_notIn_sign (pv 1) pe_str (by rfl))
    (pss_one (ps_ret (pe_un un_neg pe_int)))
    pss_nil)))
    (pss_one (ps_ret (pe_callTy call_int_str (by rfl) T.n_int bt_int (pa_cons (pv 0) pa_nil))))))
theorem ok_exit (T : Txt K mg) : FnOk P w K mg base CX0 2 T.f_exit T.d_exit ["word"] (sp_exit K T.G) := by
  refine T.F_exit.ok sc_exit (fun vs H Q E h => len_exit h) (fun cdv A outer s H vs Q E hr h => ⟨t_exit K T.G E, ?_, pure_exit  h⟩)
  exact (pss_cons (ps_if (pt_cmpR op_eq (pv 0) pe_str (nomark _))
    (pss_one (ps_ret (pe_un un_neg pe_int)))
    pss_nil)
    (pss_one (ps_ret (pe_call (ok_number T) (hr.mono (by decide)) (by rfl) T.g_number T.F_number.kp T.b_number .nil pass0 (pa_cons (pv 0) pa_nil)))))
theorem okB_exit (T : Txt K mg) : FnB P w K mg base 2 T.f_exit T.d_exit ["word"] (sp_exit K T.G) := by
  refine okB T.F_exit sc_exit (fun vs H Q E h => len_exit h) (fun cdv p pn A outer s H vs Q hr hot h => ⟨t_exit K T.G E0, ?_, pure_exit  h⟩)
  exact (pss_cons (ps_if (pt_cmpR op_eq (pv 0) pe_str (nomark _))
    (pss_one (ps_ret (pe_un un_neg pe_int)))
    pss_nil)
    (pss_one (ps_ret (pe_callB' (okB_number T) (hr.mono (by decide)) hot (by rfl) T.g_number T.F_number.kp T.b_number (pa_cons (pv 0) pa_nil)))))
theorem ok_writes (T : Txt K mg) : FnOk P w K mg base CX0 3 T.f_writes T.d_writes ["signs"] (sp_writes K T.G) := by
  refine T.F_writes.ok sc_writes (fun vs H Q E h => len_writes h) (fun cdv A outer s H vs Q E hr h => ⟨t_writes K T.G E, ?_, pure_writes  h⟩)
  exact (pss_cons (ps_set (i := 1) sc_writes.nd rfl (by first | exact Or.inl rfl | exact Or.inr rfl) (pe_split (pv 0) pe_str))
    (pss_cons (ps_set (i := 2) sc_writes.nd rfl (by first | exact Or.inl rfl | exact Or.inr rfl) (pe_op op_sub (pe_callB call_len_seq (by rfl) T.n_len bt_len (pa_cons (pv 1) pa_nil)) pe_int))
    (pss_cons (ps_if (PW.pt (pw_or (pt_cmpR op_ne (pe_slice sl_str (pe_ix ix_list (pv 1) pe_int (fun _ _ => rfl)) po_none (po_some pe_int)) pe_str (nomark _)) (pw_or (pt_cmpR op_lt (pe_call (ok_number T) (hr.mono (by decide)) (by rfl) T.g_number T.F_number.kp T.b_number .nil pass0 (pa_cons (pe_slice sl_str (pe_ix ix_list (pv 1) pe_int (fun _ _ => rfl)) (po_some pe_int) po_none) pa_nil)) pe_int (nomark _)) (pw_or (pt_cmpR op_lt (pv 2) pe_int (nomark _)) (pw_or1 (pt_cmpR op_gt (pv 2) pe_int (nomark _)))))))
    (pss_one (ps_ret pe_bl))
    pss_nil)
    (pss_cons (ps_set (i := 3) sc_writes.nd rfl (by first | exact Or.inl rfl | exact Or.inr rfl) pe_int)
    (pss_cons (ps_for PassesOwn.never rfl (pi_list (pe_slice sl_list (pv 1) (po_some pe_int) po_none)) (pg_name (i := 4) sc_writes.nd rfl (by first | exact Or.inl rfl | exact Or.inr rfl))
    (pss_cons (ps_set (i := 5) sc_writes.nd rfl (by first | exact Or.inl rfl | exact Or.inr rfl) (pe_split (pv 4) pe_str))
    (pss_cons (ps_if (PW.pt (pw_or (pt_cmpR op_lt (pe_callB call_len_seq (by rfl) T.n_len bt_len (pa_cons (pv 5) pa_nil)) pe_int (nomark _)) (pw_or (pt_cmpR op_gt (pe_callB call_len_seq (by rfl) T.n_len bt_len (pa_cons (pv 5) pa_nil)) pe_int (nomark _)) (pw_or1 (pt_cmpR op_ne (pe_ix ix_list (pv 5) pe_int (fun _ _ => rfl)) pe_str (nomark _))))))
    (pss_one (ps_ret pe_bl))
    pss_nil)
    (pss_cons (ps_setLc (i := 6) (own := [("word", 8)]) (g := (gName 8)) (tt := tYes) rfl sc_writes.nd rfl rfl (sw_true rfl rfl rfl (by decide +kernel)) (pi_list (pe_slice sl_list (pv 5) po_none (po_some pe_int))) (blkOk_by (own := [("word", 8)]) (N := N_writes) (by kernel_rfl))
      (fun _ _ _ _ _ => (pg_name (i := 8) sc_writes.nd rfl (by first | exact Or.inl rfl | exact Or.inr rfl))) (fun _ _ _ _ _ => pts_nil) (fun _ _ _ _ _ => (pe_call (ok_number T) (hr.mono (by decide)) (by rfl) T.g_number T.F_number.kp T.b_number .nil pass0 (pa_cons (pv 8) pa_nil))))
    (pss_cons (ps_setLc (i := 7) (own := [("word", 8)]) (g := (gName 8)) (tt := tYes) rfl sc_writes.nd rfl rfl (sw_true rfl rfl rfl (by decide +kernel)) (pi_list (pe_slice sl_list (pv 5) (po_some pe_int) po_none)) (blkOk_by (own := [("word", 8)]) (N := N_writes) (by kernel_rfl))
      (fun _ _ _ _ _ => (pg_name (i := 8) sc_writes.nd rfl (by first | exact Or.inl rfl | exact Or.inr rfl))) (fun _ _ _ _ _ => pts_nil) (fun _ _ _ _ _ => (pe_call (ok_exit T) (hr.mono (by decide)) (by rfl) T.g_exit T.F_exit.kp T.b_exit .nil pass0 (pa_cons (pv 8) pa_nil))))
    (pss_cons (ps_if (PW.pt (pw_or (pt_cmpR op_lt (pe_callB (cr_min rfl) (by rfl) T.n_min bt_min (pa_cons (pv 6) pa_nil)) pe_int (nomark _)) (pw_or (pt_cmpR op_lt (pe_callB (cr_min rfl) (by rfl) T.n_min bt_min (pa_cons (pv 7) pa_nil)) (pe_un un_neg pe_int) (nomark _)) (pw_or (pt_cmpR op_ge (pe_callB (cr_max rfl) (by rfl) T.n_max bt_max (pa_cons (pv 7) pa_nil)) (pv 2) (nomark _)) (pw_or1 (pt_cmpR op_ge (pe_ix ix_list (pv 6) pe_int (fun _ _ => rfl)) (pe_callB call_len_seq (by rfl) T.n_len bt_len (pa_cons (pv 7) pa_nil)) (nomark _)))))))
    (pss_one (ps_ret pe_bl))
    pss_nil)
    (pss_one (ps_set (i := 3) sc_writes.nd rfl (by first | exact Or.inl rfl | exact Or.inr rfl) (pe_op op_add (pv 3) (pe_ix ix_list (pv 6) pe_int (fun _ _ => rfl)))))))))))
    (pss_one (ps_ret (pe_cmpR op_le (pv 3) pe_int (nomark _)))))))))
theorem okB_writes (T : Txt K mg) : FnB P w K mg base 3 T.f_writes T.d_writes ["signs"] (sp_writes K T.G) := by
  refine okB T.F_writes sc_writes (fun vs H Q E h => len_writes h) (fun cdv p pn A outer s H vs Q hr hot h => ⟨t_writes K T.G E0, ?_, pure_writes  h⟩)
  exact (pss_cons (ps_set (i := 1) sc_writes.nd rfl (by first | exact Or.inl rfl | exact Or.inr rfl) (pe_split (pv 0) pe_str))
    (pss_cons (ps_set (i := 2) sc_writes.nd rfl (by first | exact Or.inl rfl | exact Or.inr rfl) (pe_op op_sub (pe_callB call_len_seq (by rfl) T.n_len bt_len (pa_cons (pv 1) pa_nil)) pe_int))
    (pss_cons (ps_if (PW.pt (pw_or (pt_cmpR op_ne (pe_slice sl_str (pe_ix ix_list (pv 1) pe_int (fun _ _ => rfl)) po_none (po_some pe_int)) pe_str (nomark _)) (pw_or (pt_cmpR op_lt (pe_callB' (okB_number T) (hr.mono (by decide)) hot (by rfl) T.g_number T.F_number.kp T.b_number (pa_cons (pe_slice sl_str (pe_ix ix_list (pv 1) pe_int (fun _ _ => rfl)) (po_some pe_int) po_none) pa_nil)) pe_int (nomark _)) (pw_or (pt_cmpR op_lt (pv 2) pe_int (nomark _)) (pw_or1 (pt_cmpR op_gt (pv 2) pe_int (nomark _)))))))
    (pss_one (ps_ret pe_bl))
    pss_nil)
    (pss_cons (ps_set (i := 3) sc_writes.nd rfl (by first | exact Or.inl rfl | exact Or.inr rfl) pe_int)
    (pss_cons (ps_forB PassesOwn.never hot (pib_list (pe_slice sl_list (pv 1) (po_some pe_int) po_none)) (pg_name (i := 4) sc_writes.nd rfl (by first | exact Or.inl rfl | exact Or.inr rfl))
    (pss_cons (ps_set (i := 5) sc_writes.nd rfl (by first | exact Or.inl rfl | exact Or.inr rfl) (pe_split (pv 4) pe_str))
    (pss_cons (ps_if (PW.pt (pw_or (pt_cmpR op_lt (pe_callB call_len_seq (by rfl) T.n_len bt_len (pa_cons (pv 5) pa_nil)) pe_int (nomark _)) (pw_or (pt_cmpR op_gt (pe_callB call_len_seq (by rfl) T.n_len bt_len (pa_cons (pv 5) pa_nil)) pe_int (nomark _)) (pw_or1 (pt_cmpR op_ne (pe_ix ix_list (pv 5) pe_int (fun _ _ => rfl)) pe_str (nomark _))))))
    (pss_one (ps_ret pe_bl))
    pss_nil)
    (pss_cons (ps_setLcB (i := 6) (mine := [("word", 8)]) (tg := (gName 8)) (tt := tYes) hot sc_writes.nd rfl rfl (sw_true rfl rfl rfl (by decide +kernel)) (pib_list (pe_slice sl_list (pv 5) po_none (po_some pe_int))) (blkOk_by (own := [("word", 8)]) (N := N_writes) (by kernel_rfl))
      (fun _ _ _ _ _ => (pg_name (i := 8) sc_writes.nd rfl (by first | exact Or.inl rfl | exact Or.inr rfl))) (fun _ _ _ _ _ => pts_nil) (fun _ _ _ _ _ => (pe_callB' (okB_number T) (hr.mono (by decide)) hot (by rfl) T.g_number T.F_number.kp T.b_number (pa_cons (pv 8) pa_nil))))
    (pss_cons (ps_setLcB (i := 7) (mine := [("word", 8)]) (tg := (gName 8)) (tt := tYes) hot sc_writes.nd rfl rfl (sw_true rfl rfl rfl (by decide +kernel)) (pib_list (pe_slice sl_list (pv 5) (po_some pe_int) po_none)) (blkOk_by (own := [("word", 8)]) (N := N_writes) (by kernel_rfl))
      (fun _ _ _ _ _ => (pg_name (i := 8) sc_writes.nd rfl (by first | exact Or.inl rfl | exact Or.inr rfl))) (fun _ _ _ _ _ => pts_nil) (fun _ _ _ _ _ => (pe_callB' (okB_exit T) (hr.mono (by decide)) hot (by rfl) T.g_exit T.F_exit.kp T.b_exit (pa_cons (pv 8) pa_nil))))
    (pss_cons (ps_if (PW.pt (pw_or (pt_cmpR op_lt (pe_callB (cr_minB hot) (by rfl) T.n_min bt_min (pa_cons (pv 6) pa_nil)) pe_int (nomark _)) (pw_or (pt_cmpR op_lt (pe_callB (cr_minB hot) (by rfl) T.n_min bt_min (pa_cons (pv 7) pa_nil)) (pe_un un_neg pe_int) (nomark _)) (pw_or (pt_cmpR op_ge (pe_callB (cr_maxB hot) (by rfl) T.n_max bt_max (pa_cons (pv 7) pa_nil)) (pv 2) (nomark _)) (pw_or1 (pt_cmpR op_ge (pe_ix ix_list (pv 6) pe_int (fun _ _ => rfl)) (pe_callB call_len_seq (by rfl) T.n_len bt_len (pa_cons (pv 7) pa_nil)) (nomark _)))))))
    (pss_one (ps_ret pe_bl))
    pss_nil)
    (pss_one (ps_set (i := 3) sc_writes.nd rfl (by first | exact Or.inl rfl | exact Or.inr rfl) (pe_op op_add (pv 3) (pe_ix ix_list (pv 6) pe_int (fun _ _ => rfl)))))))))))
    (pss_one (ps_ret (pe_cmpR op_le (pv 3) pe_int (nomark _)))))))))
theorem ok_law_k25 (T : Txt K mg) : FnOk P w K mg base CX0 5 T.f_law_k25 T.d_law_k25 ["script"] (spLaw K) := by
  refine T.F_law_k25.ok sc_law_k25 (fun vs H Q E h => lenLaw h) (fun cdv A outer s H vs Q E hr h => ⟨t_law_k25 K T.G E, ?_, pure_law_k25 T.bd T.bi T.e_NoBoard_BoardError T.kt_NoBoard_ValueError T.ki_NoBoard_NoBoard T.ki_NoBoard_NoSite T.ki_NoBoard_NoExit T.ki_NoBoard_NoPlace T.ki_NoBoard_TooMany T.ec_NoBoard h⟩)
  exact (pss_cons (ps_set (i := 1) sc_law_k25.nd rfl (by first | exact Or.inl rfl | exact Or.inr rfl) (pe_call (ok_rows_by T) (hr.mono (by decide)) (by rfl) T.g_rows_by T.F_rows_by.kp T.b_rows_by .nil pass0 (pa_cons (pv 0) pa_nil)))
    (pss_cons (ps_set (i := 2) sc_law_k25.nd rfl (by first | exact Or.inl rfl | exact Or.inr rfl) (pe_call (ok_board T) (hr.mono (by decide)) (by rfl) T.g_board T.F_board.kp T.b_board .nil pass0 (pa_cons (pv 1) (pa_cons (pe_call (ok_turns_by T) (hr.mono (by decide)) (by rfl) T.g_turns_by T.F_turns_by.kp T.b_turns_by .nil pass0 (pa_cons (pv 0) (pa_cons (pv 1) pa_nil))) (pa_cons (pe_call (ok_loads_by T) (hr.mono (by decide)) (by rfl) T.g_loads_by T.F_loads_by.kp T.b_loads_by .nil pass0 (pa_cons (pv 0) (pa_cons (pv 1) pa_nil))) pa_nil)))))
    (pss_cons (ps_set (i := 3) sc_law_k25.nd rfl (by first | exact Or.inl rfl | exact Or.inr rfl) (pe_call (ok_changed T) (hr.mono (by decide)) (by rfl) T.g_changed T.F_changed.kp T.b_changed .nil pass0 (pa_cons (pv 0) (pa_cons (pe_call (ok_written T) (hr.mono (by decide)) (by rfl) T.g_written T.F_written.kp T.b_written .nil pass0 (pa_cons (pv 2) pa_nil)) pa_nil))))
    (pss_cons (ps_if (pt_cmpR op_eq (pe_call (ok_drawn T) (hr.mono (by decide)) (by rfl) T.g_drawn T.F_drawn.kp T.b_drawn .nil pass0 (pa_cons (pv 0) (pa_cons pe_int (pa_cons pe_int pa_nil)))) pe_int (nomark _))
    (pss_one (ps_set (i := 3) sc_law_k25.nd rfl (by first | exact Or.inl rfl | exact Or.inr rfl) (pe_call (ok_odd T) (hr.mono (by decide)) (by rfl) T.g_odd T.F_odd.kp T.b_odd .nil pass0 (pa_cons (pv 0) pa_nil))))
    pss_nil)
    (pss_cons (ps_try_as2 (tb := (fun W => (tAsg (tCallS (sp_read_k25 K T.G) (WE W) (tCons (tVar 3) tNil)) (gName 4)))) (i := 5) rfl rfl sc_law_k25.nd rfl rfl ⟨rfl, by decide, .inl T.g_BoardError⟩ takes02
    (fun W pn xe tk po => (pss_one (ps_set (i := 4) sc_law_k25.nd rfl (by first | exact Or.inl rfl | exact Or.inr rfl) (pe_callS (ok_read_k25 T) (hr.mono (by decide)) (by rfl) T.g_read_k25 T.F_read_k25.kp T.b_read_k25 (fun σ => passAt2 tk σ) (pa_cons (pv 3) pa_nil)))))
    (fun a oe cls d pn hz hf hot => (pss_cons (ps_if (PW.pt (pw_or (pt_val (pe_callB' (okB_writes T) ((roomMark hr).mono (by decide)) hot (by rfl) T.g_writes T.F_writes.kp T.b_writes (pa_cons (pv 3) pa_nil))) (pw_or (pt_not (pt_val (pe_callB (call_isX hz hf) (by rfl) T.n_isinstance bt_isinstance (pa_cons (pv 5) (pa_cons (pe_bltn (v := .ty "ValueError") (by rfl) T.n_ValueError bt_ValueError rfl) pa_nil))))) (pw_or1 (pt_not (pt_val (pe_callB (call_isX hz hf) (by rfl) T.n_isinstance bt_isinstance (pa_cons (pv 5) (pa_cons (pe_glob (v := .ref T.G.NoBoard) (by rfl) T.g_NoBoard rfl) pa_nil)))))))))
    (pss_one (ps_ret pe_bl))
    pss_nil)
    (pss_one (ps_ret (pe_not (pe_or (pe_callB (call_isX hz hf) (by rfl) T.n_isinstance bt_isinstance (pa_cons (pv 5) (pa_cons (pe_glob (v := .ref T.G.NoSite) (by rfl) T.g_NoSite rfl) pa_nil))) (pe_or (pe_callB (call_isX hz hf) (by rfl) T.n_isinstance bt_isinstance (pa_cons (pv 5) (pa_cons (pe_glob (v := .ref T.G.NoExit) (by rfl) T.g_NoExit rfl) pa_nil))) (pe_or (pe_callB (call_isX hz hf) (by rfl) T.n_isinstance bt_isinstance (pa_cons (pv 5) (pa_cons (pe_glob (v := .ref T.G.NoPlace) (by rfl) T.g_NoPlace rfl) pa_nil))) (pe_one (pe_callB (call_isX hz hf) (by rfl) T.n_isinstance bt_isinstance (pa_cons (pv 5) (pa_cons (pe_glob (v := .ref T.G.TooMany) (by rfl) T.g_TooMany rfl) pa_nil)))))))))))))
    (pss_one (ps_ret (pe_and (pe_call (ok_writes T) (hr.mono (by decide)) (by rfl) T.g_writes T.F_writes.kp T.b_writes .nil pass0 (pa_cons (pv 3) pa_nil)) (pe_and (pe_callB call_isi (by rfl) T.n_isinstance bt_isinstance (pa_cons (pv 4) (pa_cons (pe_glob (v := .ref T.G.Board) (by rfl) T.g_Board rfl) pa_nil))) (pe_one (pe_cmpR op_eq (pe_call (ok_written T) (hr.mono (by decide)) (by rfl) T.g_written T.F_written.kp T.b_written .nil pass0 (pa_cons (pv 4) pa_nil)) (pv 3) (nomark _))))))))))))
end
theorem all_mk {l : PySem.W.OpenLaw} {w : World} {K : PySem.W.Frag} {h : Heap} {mg : Str → Option Value} {fa f_drawn f_other f_rows_by f_checked f_Board_init f_Board_has_site f_Board_turn_to f_Board_load f_board f_turns_by f_loads_by f_changed f_exit_shown f_written f_odd f_number_of f_exit_of f_site_of_k25 f_read_k25 f_number f_exit f_writes f_law_k25 c_Board c_NoSite c_NoExit c_NoPlace c_TooMany c_NoBoard c_BoardError : Addr} (X : K.In h) (G : h.Ns mainGlobals mg) (hfa : mg "law" = some (.ref fa))
    {od_drawn an_drawn : Option Addr} {sl_drawn : Array (Option Value)} {oc_drawn kV_drawn dc_drawn pm_drawn cd_drawn ct_drawn : Value}
    {od_other an_other : Option Addr} {sl_other : Array (Option Value)} {oc_other kV_other dc_other pm_other cd_other ct_other : Value}
    {od_rows_by an_rows_by : Option Addr} {sl_rows_by : Array (Option Value)} {oc_rows_by kV_rows_by dc_rows_by pm_rows_by cd_rows_by ct_rows_by : Value}
    {od_checked an_checked : Option Addr} {sl_checked : Array (Option Value)} {oc_checked kV_checked dc_checked pm_checked cd_checked ct_checked : Value}
    {od_Board_init an_Board_init : Option Addr} {sl_Board_init : Array (Option Value)} {oc_Board_init kV_Board_init dc_Board_init pm_Board_init cd_Board_init ct_Board_init : Value}
    {od_Board_has_site an_Board_has_site : Option Addr} {sl_Board_has_site : Array (Option Value)} {oc_Board_has_site kV_Board_has_site dc_Board_has_site pm_Board_has_site cd_Board_has_site ct_Board_has_site : Value}
    {od_Board_turn_to an_Board_turn_to : Option Addr} {sl_Board_turn_to : Array (Option Value)} {oc_Board_turn_to kV_Board_turn_to dc_Board_turn_to pm_Board_turn_to cd_Board_turn_to ct_Board_turn_to : Value}
    {od_Board_load an_Board_load : Option Addr} {sl_Board_load : Array (Option Value)} {oc_Board_load kV_Board_load dc_Board_load pm_Board_load cd_Board_load ct_Board_load : Value}
    {od_board an_board : Option Addr} {sl_board : Array (Option Value)} {oc_board kV_board dc_board pm_board cd_board ct_board : Value}
    {od_turns_by an_turns_by : Option Addr} {sl_turns_by : Array (Option Value)} {oc_turns_by kV_turns_by dc_turns_by pm_turns_by cd_turns_by ct_turns_by : Value}
    {od_loads_by an_loads_by : Option Addr} {sl_loads_by : Array (Option Value)} {oc_loads_by kV_loads_by dc_loads_by pm_loads_by cd_loads_by ct_loads_by : Value}
    {od_changed an_changed : Option Addr} {sl_changed : Array (Option Value)} {oc_changed kV_changed dc_changed pm_changed cd_changed ct_changed : Value}
    {od_exit_shown an_exit_shown : Option Addr} {sl_exit_shown : Array (Option Value)} {oc_exit_shown kV_exit_shown dc_exit_shown pm_exit_shown cd_exit_shown ct_exit_shown : Value}
    {od_written an_written : Option Addr} {sl_written : Array (Option Value)} {oc_written kV_written dc_written pm_written cd_written ct_written : Value}
    {od_odd an_odd : Option Addr} {sl_odd : Array (Option Value)} {oc_odd kV_odd dc_odd pm_odd cd_odd ct_odd : Value}
    {od_number_of an_number_of : Option Addr} {sl_number_of : Array (Option Value)} {oc_number_of kV_number_of dc_number_of pm_number_of cd_number_of ct_number_of : Value}
    {od_exit_of an_exit_of : Option Addr} {sl_exit_of : Array (Option Value)} {oc_exit_of kV_exit_of dc_exit_of pm_exit_of cd_exit_of ct_exit_of : Value}
    {od_site_of_k25 an_site_of_k25 : Option Addr} {sl_site_of_k25 : Array (Option Value)} {oc_site_of_k25 kV_site_of_k25 dc_site_of_k25 pm_site_of_k25 cd_site_of_k25 ct_site_of_k25 : Value}
    {od_read_k25 an_read_k25 : Option Addr} {sl_read_k25 : Array (Option Value)} {oc_read_k25 kV_read_k25 dc_read_k25 pm_read_k25 cd_read_k25 ct_read_k25 : Value}
    {od_number an_number : Option Addr} {sl_number : Array (Option Value)} {oc_number kV_number dc_number pm_number cd_number ct_number : Value}
    {od_exit an_exit : Option Addr} {sl_exit : Array (Option Value)} {oc_exit kV_exit dc_exit pm_exit cd_exit ct_exit : Value}
    {od_writes an_writes : Option Addr} {sl_writes : Array (Option Value)} {oc_writes kV_writes dc_writes pm_writes cd_writes ct_writes : Value}
    {od_law_k25 an_law_k25 : Option Addr} {sl_law_k25 : Array (Option Value)} {oc_law_k25 kV_law_k25 dc_law_k25 pm_law_k25 cd_law_k25 ct_law_k25 : Value}
    {tk_MOST_SITES : Tok}
    {tk_MOST_EXITS : Tok}
    {tk_PIT : Tok}
    {tk_MOST_MARBLES : Tok}
    {tk_MOST_FIGURES : Tok}
    {tk_FIGURES : Tok}
    (a_cBoard : PySem.W.nsIn K mainGlobals "Board" = some (some (.ref c_Board)))
    (a_drawn : PySem.W.nsIn K mainGlobals "_law_drawn" = some (some (.ref f_drawn)))
    (l_drawn : K.lookup f_drawn = some ⟨oc_drawn, od_drawn, .func (PySem.W.fnOf "_law_drawn" "_law_drawn" (defArgs s_drawn) (defBody s_drawn) (defScope s_drawn) .none kV_drawn dc_drawn pm_drawn an_drawn cd_drawn ct_drawn), sl_drawn⟩)
    (c_drawn : PySem.W.codeIn K cd_drawn "_law_drawn" = true)
    (k_drawn : PySem.W.keepIn K (.ref f_drawn) = true)
    (a_other : PySem.W.nsIn K mainGlobals "_law_other" = some (some (.ref f_other)))
    (l_other : K.lookup f_other = some ⟨oc_other, od_other, .func (PySem.W.fnOf "_law_other" "_law_other" (defArgs s_other) (defBody s_other) (defScope s_other) .none kV_other dc_other pm_other an_other cd_other ct_other), sl_other⟩)
    (c_other : PySem.W.codeIn K cd_other "_law_other" = true)
    (k_other : PySem.W.keepIn K (.ref f_other) = true)
    (a_rows_by : PySem.W.nsIn K mainGlobals "_law_rows_by" = some (some (.ref f_rows_by)))
    (l_rows_by : K.lookup f_rows_by = some ⟨oc_rows_by, od_rows_by, .func (PySem.W.fnOf "_law_rows_by" "_law_rows_by" (defArgs s_rows_by) (defBody s_rows_by) (defScope s_rows_by) .none kV_rows_by dc_rows_by pm_rows_by an_rows_by cd_rows_by ct_rows_by), sl_rows_by⟩)
    (c_rows_by : PySem.W.codeIn K cd_rows_by "_law_rows_by" = true)
    (k_rows_by : PySem.W.keepIn K (.ref f_rows_by) = true)
    (a_checked : PySem.W.nsIn K mainGlobals "checked" = some (some (.ref f_checked)))
    (l_checked : K.lookup f_checked = some ⟨oc_checked, od_checked, .func (PySem.W.fnOf "checked" "checked" (defArgs s_checked) (defBody s_checked) (defScope s_checked) .none kV_checked dc_checked pm_checked an_checked cd_checked ct_checked), sl_checked⟩)
    (c_checked : PySem.W.codeIn K cd_checked "checked" = true)
    (k_checked : PySem.W.keepIn K (.ref f_checked) = true)
    (a_Board_init : PySem.W.findIn K (.ref c_Board) "__init__" = some (some (.ref f_Board_init)))
    (i_Board_init : PySem.W.isFn K (.ref f_Board_init) = true)
    (l_Board_init : K.lookup f_Board_init = some ⟨oc_Board_init, od_Board_init, .func (PySem.W.fnOf "__init__" "Board.__init__" (defArgs s_Board_init) (defBody s_Board_init) (defScope s_Board_init) .none kV_Board_init dc_Board_init pm_Board_init an_Board_init cd_Board_init ct_Board_init), sl_Board_init⟩)
    (c_Board_init : PySem.W.codeIn K cd_Board_init "Board.__init__" = true)
    (k_Board_init : PySem.W.keepIn K (.ref f_Board_init) = true)
    (a_Board_has_site : PySem.W.findIn K (.ref c_Board) "has_site" = some (some (.ref f_Board_has_site)))
    (i_Board_has_site : PySem.W.isFn K (.ref f_Board_has_site) = true)
    (l_Board_has_site : K.lookup f_Board_has_site = some ⟨oc_Board_has_site, od_Board_has_site, .func (PySem.W.fnOf "has_site" "Board.has_site" (defArgs s_Board_has_site) (defBody s_Board_has_site) (defScope s_Board_has_site) .none kV_Board_has_site dc_Board_has_site pm_Board_has_site an_Board_has_site cd_Board_has_site ct_Board_has_site), sl_Board_has_site⟩)
    (c_Board_has_site : PySem.W.codeIn K cd_Board_has_site "Board.has_site" = true)
    (k_Board_has_site : PySem.W.keepIn K (.ref f_Board_has_site) = true)
    (a_Board_turn_to : PySem.W.findIn K (.ref c_Board) "turn_to" = some (some (.ref f_Board_turn_to)))
    (i_Board_turn_to : PySem.W.isFn K (.ref f_Board_turn_to) = true)
    (l_Board_turn_to : K.lookup f_Board_turn_to = some ⟨oc_Board_turn_to, od_Board_turn_to, .func (PySem.W.fnOf "turn_to" "Board.turn_to" (defArgs s_Board_turn_to) (defBody s_Board_turn_to) (defScope s_Board_turn_to) .none kV_Board_turn_to dc_Board_turn_to pm_Board_turn_to an_Board_turn_to cd_Board_turn_to ct_Board_turn_to), sl_Board_turn_to⟩)
    (c_Board_turn_to : PySem.W.codeIn K cd_Board_turn_to "Board.turn_to" = true)
    (k_Board_turn_to : PySem.W.keepIn K (.ref f_Board_turn_to) = true)
    (a_Board_load : PySem.W.findIn K (.ref c_Board) "load" = some (some (.ref f_Board_load)))
    (i_Board_load : PySem.W.isFn K (.ref f_Board_load) = true)
    (l_Board_load : K.lookup f_Board_load = some ⟨oc_Board_load, od_Board_load, .func (PySem.W.fnOf "load" "Board.load" (defArgs s_Board_load) (defBody s_Board_load) (defScope s_Board_load) .none kV_Board_load dc_Board_load pm_Board_load an_Board_load cd_Board_load ct_Board_load), sl_Board_load⟩)
    (c_Board_load : PySem.W.codeIn K cd_Board_load "Board.load" = true)
    (k_Board_load : PySem.W.keepIn K (.ref f_Board_load) = true)
    (a_board : PySem.W.nsIn K mainGlobals "_law_board" = some (some (.ref f_board)))
    (l_board : K.lookup f_board = some ⟨oc_board, od_board, .func (PySem.W.fnOf "_law_board" "_law_board" (defArgs s_board) (defBody s_board) (defScope s_board) .none kV_board dc_board pm_board an_board cd_board ct_board), sl_board⟩)
    (c_board : PySem.W.codeIn K cd_board "_law_board" = true)
    (k_board : PySem.W.keepIn K (.ref f_board) = true)
    (a_turns_by : PySem.W.nsIn K mainGlobals "_law_turns_by" = some (some (.ref f_turns_by)))
    (l_turns_by : K.lookup f_turns_by = some ⟨oc_turns_by, od_turns_by, .func (PySem.W.fnOf "_law_turns_by" "_law_turns_by" (defArgs s_turns_by) (defBody s_turns_by) (defScope s_turns_by) .none kV_turns_by dc_turns_by pm_turns_by an_turns_by cd_turns_by ct_turns_by), sl_turns_by⟩)
    (c_turns_by : PySem.W.codeIn K cd_turns_by "_law_turns_by" = true)
    (k_turns_by : PySem.W.keepIn K (.ref f_turns_by) = true)
    (a_loads_by : PySem.W.nsIn K mainGlobals "_law_loads_by" = some (some (.ref f_loads_by)))
    (l_loads_by : K.lookup f_loads_by = some ⟨oc_loads_by, od_loads_by, .func (PySem.W.fnOf "_law_loads_by" "_law_loads_by" (defArgs s_loads_by) (defBody s_loads_by) (defScope s_loads_by) .none kV_loads_by dc_loads_by pm_loads_by an_loads_by cd_loads_by ct_loads_by), sl_loads_by⟩)
    (c_loads_by : PySem.W.codeIn K cd_loads_by "_law_loads_by" = true)
    (k_loads_by : PySem.W.keepIn K (.ref f_loads_by) = true)
    (a_changed : PySem.W.nsIn K mainGlobals "_law_changed" = some (some (.ref f_changed)))
    (l_changed : K.lookup f_changed = some ⟨oc_changed, od_changed, .func (PySem.W.fnOf "_law_changed" "_law_changed" (defArgs s_changed) (defBody s_changed) (defScope s_changed) .none kV_changed dc_changed pm_changed an_changed cd_changed ct_changed), sl_changed⟩)
    (c_changed : PySem.W.codeIn K cd_changed "_law_changed" = true)
    (k_changed : PySem.W.keepIn K (.ref f_changed) = true)
    (a_exit_shown : PySem.W.nsIn K mainGlobals "exit_shown" = some (some (.ref f_exit_shown)))
    (l_exit_shown : K.lookup f_exit_shown = some ⟨oc_exit_shown, od_exit_shown, .func (PySem.W.fnOf "exit_shown" "exit_shown" (defArgs s_exit_shown) (defBody s_exit_shown) (defScope s_exit_shown) .none kV_exit_shown dc_exit_shown pm_exit_shown an_exit_shown cd_exit_shown ct_exit_shown), sl_exit_shown⟩)
    (c_exit_shown : PySem.W.codeIn K cd_exit_shown "exit_shown" = true)
    (k_exit_shown : PySem.W.keepIn K (.ref f_exit_shown) = true)
    (a_written : PySem.W.nsIn K mainGlobals "written" = some (some (.ref f_written)))
    (l_written : K.lookup f_written = some ⟨oc_written, od_written, .func (PySem.W.fnOf "written" "written" (defArgs s_written) (defBody s_written) (defScope s_written) .none kV_written dc_written pm_written an_written cd_written ct_written), sl_written⟩)
    (c_written : PySem.W.codeIn K cd_written "written" = true)
    (k_written : PySem.W.keepIn K (.ref f_written) = true)
    (a_odd : PySem.W.nsIn K mainGlobals "_law_odd" = some (some (.ref f_odd)))
    (l_odd : K.lookup f_odd = some ⟨oc_odd, od_odd, .func (PySem.W.fnOf "_law_odd" "_law_odd" (defArgs s_odd) (defBody s_odd) (defScope s_odd) .none kV_odd dc_odd pm_odd an_odd cd_odd ct_odd), sl_odd⟩)
    (c_odd : PySem.W.codeIn K cd_odd "_law_odd" = true)
    (k_odd : PySem.W.keepIn K (.ref f_odd) = true)
    (a_number_of : PySem.W.nsIn K mainGlobals "number_of" = some (some (.ref f_number_of)))
    (l_number_of : K.lookup f_number_of = some ⟨oc_number_of, od_number_of, .func (PySem.W.fnOf "number_of" "number_of" (defArgs s_number_of) (defBody s_number_of) (defScope s_number_of) .none kV_number_of dc_number_of pm_number_of an_number_of cd_number_of ct_number_of), sl_number_of⟩)
    (c_number_of : PySem.W.codeIn K cd_number_of "number_of" = true)
    (k_number_of : PySem.W.keepIn K (.ref f_number_of) = true)
    (a_exit_of : PySem.W.nsIn K mainGlobals "exit_of" = some (some (.ref f_exit_of)))
    (l_exit_of : K.lookup f_exit_of = some ⟨oc_exit_of, od_exit_of, .func (PySem.W.fnOf "exit_of" "exit_of" (defArgs s_exit_of) (defBody s_exit_of) (defScope s_exit_of) .none kV_exit_of dc_exit_of pm_exit_of an_exit_of cd_exit_of ct_exit_of), sl_exit_of⟩)
    (c_exit_of : PySem.W.codeIn K cd_exit_of "exit_of" = true)
    (k_exit_of : PySem.W.keepIn K (.ref f_exit_of) = true)
    (a_site_of_k25 : PySem.W.nsIn K mainGlobals "site_of" = some (some (.ref f_site_of_k25)))
    (l_site_of_k25 : K.lookup f_site_of_k25 = some ⟨oc_site_of_k25, od_site_of_k25, .func (PySem.W.fnOf "site_of" "site_of" (defArgs s_site_of_k25) (defBody s_site_of_k25) (defScope s_site_of_k25) .none kV_site_of_k25 dc_site_of_k25 pm_site_of_k25 an_site_of_k25 cd_site_of_k25 ct_site_of_k25), sl_site_of_k25⟩)
    (c_site_of_k25 : PySem.W.codeIn K cd_site_of_k25 "site_of" = true)
    (k_site_of_k25 : PySem.W.keepIn K (.ref f_site_of_k25) = true)
    (a_read_k25 : PySem.W.nsIn K mainGlobals "read" = some (some (.ref f_read_k25)))
    (l_read_k25 : K.lookup f_read_k25 = some ⟨oc_read_k25, od_read_k25, .func (PySem.W.fnOf "read" "read" (defArgs s_read_k25) (defBody s_read_k25) (defScope s_read_k25) .none kV_read_k25 dc_read_k25 pm_read_k25 an_read_k25 cd_read_k25 ct_read_k25), sl_read_k25⟩)
    (c_read_k25 : PySem.W.codeIn K cd_read_k25 "read" = true)
    (k_read_k25 : PySem.W.keepIn K (.ref f_read_k25) = true)
    (a_number : PySem.W.nsIn K mainGlobals "_law_number" = some (some (.ref f_number)))
    (l_number : K.lookup f_number = some ⟨oc_number, od_number, .func (PySem.W.fnOf "_law_number" "_law_number" (defArgs s_number) (defBody s_number) (defScope s_number) .none kV_number dc_number pm_number an_number cd_number ct_number), sl_number⟩)
    (c_number : PySem.W.codeIn K cd_number "_law_number" = true)
    (k_number : PySem.W.keepIn K (.ref f_number) = true)
    (a_exit : PySem.W.nsIn K mainGlobals "_law_exit" = some (some (.ref f_exit)))
    (l_exit : K.lookup f_exit = some ⟨oc_exit, od_exit, .func (PySem.W.fnOf "_law_exit" "_law_exit" (defArgs s_exit) (defBody s_exit) (defScope s_exit) .none kV_exit dc_exit pm_exit an_exit cd_exit ct_exit), sl_exit⟩)
    (c_exit : PySem.W.codeIn K cd_exit "_law_exit" = true)
    (k_exit : PySem.W.keepIn K (.ref f_exit) = true)
    (a_writes : PySem.W.nsIn K mainGlobals "_law_writes" = some (some (.ref f_writes)))
    (l_writes : K.lookup f_writes = some ⟨oc_writes, od_writes, .func (PySem.W.fnOf "_law_writes" "_law_writes" (defArgs s_writes) (defBody s_writes) (defScope s_writes) .none kV_writes dc_writes pm_writes an_writes cd_writes ct_writes), sl_writes⟩)
    (c_writes : PySem.W.codeIn K cd_writes "_law_writes" = true)
    (k_writes : PySem.W.keepIn K (.ref f_writes) = true)
    (a_law_k25 : PySem.W.nsIn K mainGlobals "law" = some (some (.ref f_law_k25)))
    (l_law_k25 : K.lookup f_law_k25 = some ⟨oc_law_k25, od_law_k25, .func (PySem.W.fnOf "law" "law" (defArgs s_law_k25) (defBody s_law_k25) (defScope s_law_k25) .none kV_law_k25 dc_law_k25 pm_law_k25 an_law_k25 cd_law_k25 ct_law_k25), sl_law_k25⟩)
    (c_law_k25 : PySem.W.codeIn K cd_law_k25 "law" = true)
    (k_law_k25 : PySem.W.keepIn K (.ref f_law_k25) = true)
    (pg_Board : PySem.W.plainGet K c_Board Str.empty = true)
    (hd_Board : PySem.W.hasDictIn K c_Board = true)
    (po_Board : PySem.W.plainOver K c_Board = true)
    (sa_Board : PySem.W.findIn K (.ref c_Board) "__setattr__" = some (some (.builtin "object.__setattr__")))
    (mk_Board : PySem.W.makesIn K c_Board = true)
    (kc_Board : PySem.W.keepIn K (.ref c_Board) = true)
    (na_rows : PySem.W.findIn K (.ref c_Board) "rows" = some none)
    (na_turns : PySem.W.findIn K (.ref c_Board) "turns" = some none)
    (na_loads : PySem.W.findIn K (.ref c_Board) "loads" = some none)
    (na_steps : PySem.W.findIn K (.ref c_Board) "steps" = some none)
    (na_taken : PySem.W.findIn K (.ref c_Board) "taken" = some none)
    (gi_MOST_SITES : PySem.W.nsIn K mainGlobals "MOST_SITES" = some (some (.int 12 tk_MOST_SITES)))
    (gi_MOST_EXITS : PySem.W.nsIn K mainGlobals "MOST_EXITS" = some (some (.int 8 tk_MOST_EXITS)))
    (gi_PIT : PySem.W.nsIn K mainGlobals "PIT" = some (some (.int (-1) tk_PIT)))
    (gi_MOST_MARBLES : PySem.W.nsIn K mainGlobals "MOST_MARBLES" = some (some (.int 400 tk_MOST_MARBLES)))
    (gi_MOST_FIGURES : PySem.W.nsIn K mainGlobals "MOST_FIGURES" = some (some (.int 20 tk_MOST_FIGURES)))
    (gi_FIGURES : PySem.W.nsIn K mainGlobals "FIGURES" = some (some (.str "0123456789" tk_FIGURES)))
    (n_len : PySem.W.nsIn K mainGlobals "len" = some none)
    (n_range : PySem.W.nsIn K mainGlobals "range" = some none)
    (n_reversed : PySem.W.nsIn K mainGlobals "reversed" = some none)
    (n_list : PySem.W.nsIn K mainGlobals "list" = some none)
    (n_sum : PySem.W.nsIn K mainGlobals "sum" = some none)
    (n_str : PySem.W.nsIn K mainGlobals "str" = some none)
    (n_int : PySem.W.nsIn K mainGlobals "int" = some none)
    (n_min : PySem.W.nsIn K mainGlobals "min" = some none)
    (n_max : PySem.W.nsIn K mainGlobals "max" = some none)
    (n_ValueError : PySem.W.nsIn K mainGlobals "ValueError" = some none)
    (n_isinstance : PySem.W.nsIn K mainGlobals "isinstance" = some none)
    (a_cNoSite : PySem.W.nsIn K mainGlobals "NoSite" = some (some (.ref c_NoSite)))
    (x_NoSite : PySem.W.excIn K c_NoSite [.type "ValueError", .type "Exception", .type "BaseException", .type "object"] "ValueError.__new__" = true)
    (k_NoSite : PySem.W.keepIn K (.ref c_NoSite) = true)
    (b_NoSite : PySem.W.subIn K (.ref c_NoSite) (.type "BaseException") = some true)
    (t_NoSite : PySem.W.typeIn K (.ref c_NoSite) = some (.type "type"))
    (a_cNoExit : PySem.W.nsIn K mainGlobals "NoExit" = some (some (.ref c_NoExit)))
    (x_NoExit : PySem.W.excIn K c_NoExit [.type "ValueError", .type "Exception", .type "BaseException", .type "object"] "ValueError.__new__" = true)
    (k_NoExit : PySem.W.keepIn K (.ref c_NoExit) = true)
    (b_NoExit : PySem.W.subIn K (.ref c_NoExit) (.type "BaseException") = some true)
    (t_NoExit : PySem.W.typeIn K (.ref c_NoExit) = some (.type "type"))
    (a_cNoPlace : PySem.W.nsIn K mainGlobals "NoPlace" = some (some (.ref c_NoPlace)))
    (x_NoPlace : PySem.W.excIn K c_NoPlace [.type "ValueError", .type "Exception", .type "BaseException", .type "object"] "ValueError.__new__" = true)
    (k_NoPlace : PySem.W.keepIn K (.ref c_NoPlace) = true)
    (b_NoPlace : PySem.W.subIn K (.ref c_NoPlace) (.type "BaseException") = some true)
    (t_NoPlace : PySem.W.typeIn K (.ref c_NoPlace) = some (.type "type"))
    (a_cTooMany : PySem.W.nsIn K mainGlobals "TooMany" = some (some (.ref c_TooMany)))
    (x_TooMany : PySem.W.excIn K c_TooMany [.type "ValueError", .type "Exception", .type "BaseException", .type "object"] "ValueError.__new__" = true)
    (k_TooMany : PySem.W.keepIn K (.ref c_TooMany) = true)
    (b_TooMany : PySem.W.subIn K (.ref c_TooMany) (.type "BaseException") = some true)
    (t_TooMany : PySem.W.typeIn K (.ref c_TooMany) = some (.type "type"))
    (a_cNoBoard : PySem.W.nsIn K mainGlobals "NoBoard" = some (some (.ref c_NoBoard)))
    (x_NoBoard : PySem.W.excIn K c_NoBoard [.type "ValueError", .type "Exception", .type "BaseException", .type "object"] "ValueError.__new__" = true)
    (k_NoBoard : PySem.W.keepIn K (.ref c_NoBoard) = true)
    (b_NoBoard : PySem.W.subIn K (.ref c_NoBoard) (.type "BaseException") = some true)
    (t_NoBoard : PySem.W.typeIn K (.ref c_NoBoard) = some (.type "type"))
    (a_cBoardError : PySem.W.nsIn K mainGlobals "BoardError" = some (some (.ref c_BoardError)))
    (x_BoardError : PySem.W.excIn K c_BoardError [.type "ValueError", .type "Exception", .type "BaseException", .type "object"] "ValueError.__new__" = true)
    (k_BoardError : PySem.W.keepIn K (.ref c_BoardError) = true)
    (b_BoardError : PySem.W.subIn K (.ref c_BoardError) (.type "BaseException") = some true)
    (t_BoardError : PySem.W.typeIn K (.ref c_BoardError) = some (.type "type"))
    (hd_BoardError : PySem.W.hasDictIn K c_BoardError = true)
    (e_NoSite_BoardError : PySem.W.subIn K (.ref c_NoSite) (.ref c_BoardError) = some true)
    (e_NoExit_BoardError : PySem.W.subIn K (.ref c_NoExit) (.ref c_BoardError) = some true)
    (e_NoPlace_BoardError : PySem.W.subIn K (.ref c_NoPlace) (.ref c_BoardError) = some true)
    (e_TooMany_BoardError : PySem.W.subIn K (.ref c_TooMany) (.ref c_BoardError) = some true)
    (biha : PySem.W.findIn K (.ref c_Board) "__class__" = some (some (.builtin "object.__class__")))
    (bihn : PySem.W.specialIn K (.builtin "object.__class__") "__get__" = some (some (.builtin "getset_descriptor.__get__")))
    (biht : PySem.W.takesIn K (.builtin "object.__class__") = some true)
    (bihm : PySem.W.mroIn K c_Board (.type "object") = some true)
    (biki : PySem.W.kitOne K (.ref c_Board) (.ref c_Board) = some true)
    (e_NoBoard_BoardError : PySem.W.subIn K (.ref c_NoBoard) (.ref c_BoardError) = some true)
    (kt_NoBoard_ValueError : PySem.W.kitOne K (.ref c_NoBoard) (.type "ValueError") = some true)
    (ki_NoBoard_NoBoard : PySem.W.kitOne K (.ref c_NoBoard) (.ref c_NoBoard) = some true)
    (ki_NoBoard_NoSite : PySem.W.kitOne K (.ref c_NoBoard) (.ref c_NoSite) = some false)
    (ki_NoBoard_NoExit : PySem.W.kitOne K (.ref c_NoBoard) (.ref c_NoExit) = some false)
    (ki_NoBoard_NoPlace : PySem.W.kitOne K (.ref c_NoBoard) (.ref c_NoPlace) = some false)
    (ki_NoBoard_TooMany : PySem.W.kitOne K (.ref c_NoBoard) (.ref c_TooMany) = some false)
    (echg_NoBoard : PySem.W.findIn K (.ref c_NoBoard) "__getattribute__" = some (some (.builtin "BaseException.__getattribute__")))
    (echk_NoBoard : PySem.W.findIn K (.ref c_NoBoard) "__getattr__" = some none)
    (echs_NoBoard : PySem.W.subIn K (.ref c_NoBoard) (.type "BaseException") = some true)
    (echd_NoBoard : PySem.W.hasDictIn K c_NoBoard = true)
    (echa_NoBoard : PySem.W.findIn K (.ref c_NoBoard) "__class__" = some (some (.builtin "object.__class__")))
    (echn_NoBoard : PySem.W.specialIn K (.builtin "object.__class__") "__get__" = some (some (.builtin "getset_descriptor.__get__")))
    (echt_NoBoard : PySem.W.takesIn K (.builtin "object.__class__") = some true)
    (echm_NoBoard : PySem.W.mroIn K c_NoBoard (.type "object") = some true)
    : ∃ fd : FuncData, (∀ (s : Shared) (v : Value), BindsTo s fd ⟨[v], []⟩ [("script", v)]) ∧ ∀ base : Heap, K.In base → base.Ns mainGlobals mg → FnOk l.prog w K mg base CX0 5 fa fd ["script"] (spLaw K) := by
  have e := hfa.symm.trans (PySem.W.mg_of X G a_law_k25)
  cases e
  let T : Txt K mg := {
    G := ⟨c_Board, c_BoardError, c_NoSite, c_NoExit, c_NoPlace, 0, c_TooMany, 0, 0, 0, 0, c_NoBoard⟩
    f_drawn := f_drawn
    d_drawn := _
    F_drawn := fun_mk (st := s_drawn) l_drawn c_drawn k_drawn
    b_drawn := Fun.binds (ps := ["script", "k", "many"]) (fun_mk (st := s_drawn) l_drawn c_drawn k_drawn) fun _ _ _ _ _ _ us hl => match us, hl with | [_, _, _], _ => rfl
    g_drawn := PySem.W.mg_of X G a_drawn
    f_other := f_other
    d_other := _
    F_other := fun_mk (st := s_other) l_other c_other k_other
    b_other := Fun.binds (ps := ["gone", "many"]) (fun_mk (st := s_other) l_other c_other k_other) fun _ _ _ _ _ _ us hl => match us, hl with | [_, _], _ => rfl
    g_other := PySem.W.mg_of X G a_other
    f_rows_by := f_rows_by
    d_rows_by := _
    F_rows_by := fun_mk (st := s_rows_by) l_rows_by c_rows_by k_rows_by
    b_rows_by := Fun.binds (ps := ["script"]) (fun_mk (st := s_rows_by) l_rows_by c_rows_by k_rows_by) fun _ _ _ _ _ _ us hl => match us, hl with | [_], _ => rfl
    g_rows_by := PySem.W.mg_of X G a_rows_by
    f_checked := f_checked
    d_checked := _
    F_checked := fun_mk (st := s_checked) l_checked c_checked k_checked
    b_checked := Fun.binds (ps := ["rows"]) (fun_mk (st := s_checked) l_checked c_checked k_checked) fun _ _ _ _ _ _ us hl => match us, hl with | [_], _ => rfl
    g_checked := PySem.W.mg_of X G a_checked
    f_Board_init := f_Board_init
    d_Board_init := _
    F_Board_init := fun_mk (st := s_Board_init) l_Board_init c_Board_init k_Board_init
    b_Board_init := Fun.binds (ps := ["self", "rows"]) (fun_mk (st := s_Board_init) l_Board_init c_Board_init k_Board_init) fun _ _ _ _ _ _ us hl => match us, hl with | [_, _], _ => rfl
    mk_Board := ⟨mk_Board, a_Board_init, i_Board_init, kc_Board⟩
    f_Board_has_site := f_Board_has_site
    d_Board_has_site := _
    F_Board_has_site := fun_mk (st := s_Board_has_site) l_Board_has_site c_Board_has_site k_Board_has_site
    b_Board_has_site := Fun.binds (ps := ["self", "at"]) (fun_mk (st := s_Board_has_site) l_Board_has_site c_Board_has_site k_Board_has_site) fun _ _ _ _ _ _ us hl => match us, hl with | [_, _], _ => rfl
    m_Board_has_site := ⟨a_Board_has_site, i_Board_has_site, k_Board_has_site⟩
    f_Board_turn_to := f_Board_turn_to
    d_Board_turn_to := _
    F_Board_turn_to := fun_mk (st := s_Board_turn_to) l_Board_turn_to c_Board_turn_to k_Board_turn_to
    b_Board_turn_to := Fun.binds (ps := ["self", "at", "place"]) (fun_mk (st := s_Board_turn_to) l_Board_turn_to c_Board_turn_to k_Board_turn_to) fun _ _ _ _ _ _ us hl => match us, hl with | [_, _, _], _ => rfl
    m_Board_turn_to := ⟨a_Board_turn_to, i_Board_turn_to, k_Board_turn_to⟩
    f_Board_load := f_Board_load
    d_Board_load := _
    F_Board_load := fun_mk (st := s_Board_load) l_Board_load c_Board_load k_Board_load
    b_Board_load := Fun.binds (ps := ["self", "at", "many"]) (fun_mk (st := s_Board_load) l_Board_load c_Board_load k_Board_load) fun _ _ _ _ _ _ us hl => match us, hl with | [_, _, _], _ => rfl
    m_Board_load := ⟨a_Board_load, i_Board_load, k_Board_load⟩
    f_board := f_board
    d_board := _
    F_board := fun_mk (st := s_board) l_board c_board k_board
    b_board := Fun.binds (ps := ["rows", "turns", "loads"]) (fun_mk (st := s_board) l_board c_board k_board) fun _ _ _ _ _ _ us hl => match us, hl with | [_, _, _], _ => rfl
    g_board := PySem.W.mg_of X G a_board
    f_turns_by := f_turns_by
    d_turns_by := _
    F_turns_by := fun_mk (st := s_turns_by) l_turns_by c_turns_by k_turns_by
    b_turns_by := Fun.binds (ps := ["script", "rows"]) (fun_mk (st := s_turns_by) l_turns_by c_turns_by k_turns_by) fun _ _ _ _ _ _ us hl => match us, hl with | [_, _], _ => rfl
    g_turns_by := PySem.W.mg_of X G a_turns_by
    f_loads_by := f_loads_by
    d_loads_by := _
    F_loads_by := fun_mk (st := s_loads_by) l_loads_by c_loads_by k_loads_by
    b_loads_by := Fun.binds (ps := ["script", "rows"]) (fun_mk (st := s_loads_by) l_loads_by c_loads_by k_loads_by) fun _ _ _ _ _ _ us hl => match us, hl with | [_, _], _ => rfl
    g_loads_by := PySem.W.mg_of X G a_loads_by
    f_changed := f_changed
    d_changed := _
    F_changed := fun_mk (st := s_changed) l_changed c_changed k_changed
    b_changed := Fun.binds (ps := ["script", "shown"]) (fun_mk (st := s_changed) l_changed c_changed k_changed) fun _ _ _ _ _ _ us hl => match us, hl with | [_, _], _ => rfl
    g_changed := PySem.W.mg_of X G a_changed
    f_exit_shown := f_exit_shown
    d_exit_shown := _
    F_exit_shown := fun_mk (st := s_exit_shown) l_exit_shown c_exit_shown k_exit_shown
    b_exit_shown := Fun.binds (ps := ["gone"]) (fun_mk (st := s_exit_shown) l_exit_shown c_exit_shown k_exit_shown) fun _ _ _ _ _ _ us hl => match us, hl with | [_], _ => rfl
    g_exit_shown := PySem.W.mg_of X G a_exit_shown
    f_written := f_written
    d_written := _
    F_written := fun_mk (st := s_written) l_written c_written k_written
    b_written := Fun.binds (ps := ["board"]) (fun_mk (st := s_written) l_written c_written k_written) fun _ _ _ _ _ _ us hl => match us, hl with | [_], _ => rfl
    g_written := PySem.W.mg_of X G a_written
    f_odd := f_odd
    d_odd := _
    F_odd := fun_mk (st := s_odd) l_odd c_odd k_odd
    b_odd := Fun.binds (ps := ["script"]) (fun_mk (st := s_odd) l_odd c_odd k_odd) fun _ _ _ _ _ _ us hl => match us, hl with | [_], _ => rfl
    g_odd := PySem.W.mg_of X G a_odd
    f_number_of := f_number_of
    d_number_of := _
    F_number_of := fun_mk (st := s_number_of) l_number_of c_number_of k_number_of
    b_number_of := Fun.binds (ps := ["word"]) (fun_mk (st := s_number_of) l_number_of c_number_of k_number_of) fun _ _ _ _ _ _ us hl => match us, hl with | [_], _ => rfl
    g_number_of := PySem.W.mg_of X G a_number_of
    f_exit_of := f_exit_of
    d_exit_of := _
    F_exit_of := fun_mk (st := s_exit_of) l_exit_of c_exit_of k_exit_of
    b_exit_of := Fun.binds (ps := ["word"]) (fun_mk (st := s_exit_of) l_exit_of c_exit_of k_exit_of) fun _ _ _ _ _ _ us hl => match us, hl with | [_], _ => rfl
    g_exit_of := PySem.W.mg_of X G a_exit_of
    f_site_of_k25 := f_site_of_k25
    d_site_of_k25 := _
    F_site_of_k25 := fun_mk (st := s_site_of_k25) l_site_of_k25 c_site_of_k25 k_site_of_k25
    b_site_of_k25 := Fun.binds (ps := ["line"]) (fun_mk (st := s_site_of_k25) l_site_of_k25 c_site_of_k25 k_site_of_k25) fun _ _ _ _ _ _ us hl => match us, hl with | [_], _ => rfl
    g_site_of_k25 := PySem.W.mg_of X G a_site_of_k25
    f_read_k25 := f_read_k25
    d_read_k25 := _
    F_read_k25 := fun_mk (st := s_read_k25) l_read_k25 c_read_k25 k_read_k25
    b_read_k25 := Fun.binds (ps := ["text"]) (fun_mk (st := s_read_k25) l_read_k25 c_read_k25 k_read_k25) fun _ _ _ _ _ _ us hl => match us, hl with | [_], _ => rfl
    g_read_k25 := PySem.W.mg_of X G a_read_k25
    f_number := f_number
    d_number := _
    F_number := fun_mk (st := s_number) l_number c_number k_number
    b_number := Fun.binds (ps := ["word"]) (fun_mk (st := s_number) l_number c_number k_number) fun _ _ _ _ _ _ us hl => match us, hl with | [_], _ => rfl
    g_number := PySem.W.mg_of X G a_number
    f_exit := f_exit
    d_exit := _
    F_exit := fun_mk (st := s_exit) l_exit c_exit k_exit
    b_exit := Fun.binds (ps := ["word"]) (fun_mk (st := s_exit) l_exit c_exit k_exit) fun _ _ _ _ _ _ us hl => match us, hl with | [_], _ => rfl
    g_exit := PySem.W.mg_of X G a_exit
    f_writes := f_writes
    d_writes := _
    F_writes := fun_mk (st := s_writes) l_writes c_writes k_writes
    b_writes := Fun.binds (ps := ["signs"]) (fun_mk (st := s_writes) l_writes c_writes k_writes) fun _ _ _ _ _ _ us hl => match us, hl with | [_], _ => rfl
    g_writes := PySem.W.mg_of X G a_writes
    f_law_k25 := fa
    d_law_k25 := _
    F_law_k25 := fun_mk (st := s_law_k25) l_law_k25 c_law_k25 k_law_k25
    b_law_k25 := Fun.binds (ps := ["script"]) (fun_mk (st := s_law_k25) l_law_k25 c_law_k25 k_law_k25) fun _ _ _ _ _ _ us hl => match us, hl with | [_], _ => rfl
    cl_Board := ⟨pg_Board, hd_Board, po_Board, sa_Board⟩
    bd := ⟨⟨pg_Board, hd_Board, po_Board, sa_Board⟩, na_rows, na_turns, na_loads, na_steps, na_taken⟩
    g_Board := PySem.W.mg_of X G a_cBoard
    tk_MOST_SITES := tk_MOST_SITES
    g_MOST_SITES := PySem.W.mg_of X G gi_MOST_SITES
    tk_MOST_EXITS := tk_MOST_EXITS
    g_MOST_EXITS := PySem.W.mg_of X G gi_MOST_EXITS
    tk_PIT := tk_PIT
    g_PIT := PySem.W.mg_of X G gi_PIT
    tk_MOST_MARBLES := tk_MOST_MARBLES
    g_MOST_MARBLES := PySem.W.mg_of X G gi_MOST_MARBLES
    tk_MOST_FIGURES := tk_MOST_FIGURES
    g_MOST_FIGURES := PySem.W.mg_of X G gi_MOST_FIGURES
    tk_FIGURES := tk_FIGURES
    g_FIGURES := PySem.W.mg_of X G gi_FIGURES
    n_len := PySem.W.mg_none_of X G n_len
    n_range := PySem.W.mg_none_of X G n_range
    n_reversed := PySem.W.mg_none_of X G n_reversed
    n_list := PySem.W.mg_none_of X G n_list
    n_sum := PySem.W.mg_none_of X G n_sum
    n_str := PySem.W.mg_none_of X G n_str
    n_int := PySem.W.mg_none_of X G n_int
    n_min := PySem.W.mg_none_of X G n_min
    n_max := PySem.W.mg_none_of X G n_max
    n_ValueError := PySem.W.mg_none_of X G n_ValueError
    n_isinstance := PySem.W.mg_none_of X G n_isinstance
    g_NoSite := PySem.W.mg_of X G a_cNoSite
    x_NoSite := x_NoSite
    k_NoSite := k_NoSite
    b_NoSite := b_NoSite
    t_NoSite := t_NoSite
    g_NoExit := PySem.W.mg_of X G a_cNoExit
    x_NoExit := x_NoExit
    k_NoExit := k_NoExit
    b_NoExit := b_NoExit
    t_NoExit := t_NoExit
    g_NoPlace := PySem.W.mg_of X G a_cNoPlace
    x_NoPlace := x_NoPlace
    k_NoPlace := k_NoPlace
    b_NoPlace := b_NoPlace
    t_NoPlace := t_NoPlace
    g_TooMany := PySem.W.mg_of X G a_cTooMany
    x_TooMany := x_TooMany
    k_TooMany := k_TooMany
    b_TooMany := b_TooMany
    t_TooMany := t_TooMany
    g_NoBoard := PySem.W.mg_of X G a_cNoBoard
    x_NoBoard := x_NoBoard
    k_NoBoard := k_NoBoard
    b_NoBoard := b_NoBoard
    t_NoBoard := t_NoBoard
    g_BoardError := PySem.W.mg_of X G a_cBoardError
    x_BoardError := x_BoardError
    k_BoardError := k_BoardError
    b_BoardError := b_BoardError
    t_BoardError := t_BoardError
    e_NoSite_BoardError := PySem.W.exm_ref b_BoardError hd_BoardError t_BoardError e_NoSite_BoardError
    e_NoExit_BoardError := PySem.W.exm_ref b_BoardError hd_BoardError t_BoardError e_NoExit_BoardError
    e_NoPlace_BoardError := PySem.W.exm_ref b_BoardError hd_BoardError t_BoardError e_NoPlace_BoardError
    e_TooMany_BoardError := PySem.W.exm_ref b_BoardError hd_BoardError t_BoardError e_TooMany_BoardError
    bi := ⟨biha, bihn, biht, bihm, biki⟩
    e_NoBoard_BoardError := PySem.W.exm_ref b_BoardError hd_BoardError t_BoardError e_NoBoard_BoardError
    kt_NoBoard_ValueError := kt_NoBoard_ValueError
    ki_NoBoard_NoBoard := ki_NoBoard_NoBoard
    ki_NoBoard_NoSite := ki_NoBoard_NoSite
    ki_NoBoard_NoExit := ki_NoBoard_NoExit
    ki_NoBoard_NoPlace := ki_NoBoard_NoPlace
    ki_NoBoard_TooMany := ki_NoBoard_TooMany
    ec_NoBoard := ⟨echg_NoBoard, echk_NoBoard, echs_NoBoard, echd_NoBoard, echa_NoBoard, echn_NoBoard, echt_NoBoard, echm_NoBoard⟩
  }
  exact ⟨PySem.W.fnOf "law" "law" (defArgs s_law_k25) (defBody s_law_k25) (defScope s_law_k25) .none kV_law_k25 dc_law_k25 pm_law_k25 an_law_k25 cd_law_k25 ct_law_k25, fun s v => .of_eq rfl, fun base _ _ => ok_law_k25 T⟩
theorem walk {l : PySem.W.OpenLaw} {q : Program} {loose : List Str} {XP : (Str → Option Value) → Heap → Prop} {YP : World → Heap → Prop} {d : DefRec} {K : Params → PySem.W.Frag} (hn : l.most = some 63) (hdf : d.params.defaults = [])
    (hY : ∀ (w : World) (h : Heap), YP w h → (K w.params).In h)
    (F : ∀ (w : World) (mg : Str → Option Value) (fa : Addr) (h : Heap), (K w.params).In h → h.Ns mainGlobals mg → mg d.name = some (.ref fa) →
      ∃ fd : FuncData, (∀ (s : Shared) (u : Value), BindsTo s fd ⟨[u], []⟩ [("script", u)]) ∧ ∀ base : Heap, (K w.params).In base → base.Ns mainGlobals mg → FnOk l.prog w (K w.params) mg base CX0 5 fa fd ["script"] (spLaw (K w.params))) :
    PySem.W.WalkO q loose XP YP l.row.toRowW d [] (fun f vs => PySem.call f vs) :=
  L2.walk_of (n := 63) (k := 5) (x := "script") (CX := fun _ => CX0) (sp := fun w => spLaw (K w.params)) hn (by decide) hdf ⟨rfl, by decide, by decide⟩ hY F (fun _ _ a ns hl _ hS => ⟨a, ns, rfl, hS, hl, fun _ => rfl⟩) fun _ _ _ _ _ z => z
end Mb
open PySem PySem.W PyProof.Rows
set_option maxRecDepth 100000 in
set_option maxHeartbeats 0 in
set_option pp.maxSteps 60 in
theorem PySem.Challenge.cw_marblerun_k25_texts_refused_holds : PySem.Challenge.rw_marblerun_k25_texts_refused.Holds := by
  w_on; o_law; k_head; (case hw => w_witness2)
  k_fill
  refine Mb.walk (l := PySem.Challenge.rw_marblerun_k25_texts_refused) rfl rfl (fun w h Y => PySem.W.kIn_of Y) ?F
  case F =>
    intro w mg fa h KX G hmg
    refine' Mb.all_mk KX G hmg ?a_cBoard ?a_drawn ?l_drawn ?c_drawn ?k_drawn ?a_other ?l_other ?c_other ?k_other ?a_rows_by ?l_rows_by ?c_rows_by ?k_rows_by ?a_checked ?l_checked ?c_checked ?k_checked ?a_Board_init ?i_Board_init ?l_Board_init ?c_Board_init ?k_Board_init ?a_Board_has_site ?i_Board_has_site ?l_Board_has_site ?c_Board_has_site ?k_Board_has_site ?a_Board_turn_to ?i_Board_turn_to ?l_Board_turn_to ?c_Board_turn_to ?k_Board_turn_to ?a_Board_load ?i_Board_load ?l_Board_load ?c_Board_load ?k_Board_load ?a_board ?l_board ?c_board ?k_board ?a_turns_by ?l_turns_by ?c_turns_by ?k_turns_by ?a_loads_by ?l_loads_by ?c_loads_by ?k_loads_by ?a_changed ?l_changed ?c_changed ?k_changed ?a_exit_shown ?l_exit_shown ?c_exit_shown ?k_exit_shown ?a_written ?l_written ?c_written ?k_written ?a_odd ?l_odd ?c_odd ?k_odd ?a_number_of ?l_number_of ?c_number_of ?k_number_of ?a_exit_of ?l_exit_of ?c_exit_of ?k_exit_of ?a_site_of_k25 ?l_site_of_k25 ?c_site_of_k25 ?k_site_of_k25 ?a_read_k25 ?l_read_k25 ?c_read_k25 ?k_read_k25 ?a_number ?l_number ?c_number ?k_number ?a_exit ?l_exit ?c_exit ?k_exit ?a_writes ?l_writes ?c_writes ?k_writes ?a_law_k25 ?l_law_k25 ?c_law_k25 ?k_law_k25 ?pg_Board ?hd_Board ?po_Board ?sa_Board ?mk_Board ?kc_Board ?na_rows ?na_turns ?na_loads ?na_steps ?na_taken ?gi_MOST_SITES ?gi_MOST_EXITS ?gi_PIT ?gi_MOST_MARBLES ?gi_MOST_FIGURES ?gi_FIGURES ?n_len ?n_range ?n_reversed ?n_list ?n_sum ?n_str ?n_int ?n_min ?n_max ?n_ValueError ?n_isinstance ?a_cNoSite ?x_NoSite ?k_NoSite ?b_NoSite ?t_NoSite ?a_cNoExit ?x_NoExit ?k_NoExit ?b_NoExit ?t_NoExit ?a_cNoPlace ?x_NoPlace ?k_NoPlace ?b_NoPlace ?t_NoPlace ?a_cTooMany ?x_TooMany ?k_TooMany ?b_TooMany ?t_TooMany ?a_cNoBoard ?x_NoBoard ?k_NoBoard ?b_NoBoard ?t_NoBoard ?a_cBoardError ?x_BoardError ?k_BoardError ?b_BoardError ?t_BoardError ?hd_BoardError ?e_NoSite_BoardError ?e_NoExit_BoardError ?e_NoPlace_BoardError ?e_TooMany_BoardError ?biha ?bihn ?biht ?bihm ?biki ?e_NoBoard_BoardError ?kt_NoBoard_ValueError ?ki_NoBoard_NoBoard ?ki_NoBoard_NoSite ?ki_NoBoard_NoExit ?ki_NoBoard_NoPlace ?ki_NoBoard_TooMany ?echg_NoBoard ?echk_NoBoard ?echs_NoBoard ?echd_NoBoard ?echa_NoBoard ?echn_NoBoard ?echt_NoBoard ?echm_NoBoard
    (case a_cBoard => k_is)
    (case a_drawn => k_is)
    (case l_drawn => k_is)
    (case c_drawn => k_is)
    (case k_drawn => k_is)
    (case a_other => k_is)
    (case l_other => k_is)
    (case c_other => k_is)
    (case k_other => k_is)
    (case a_rows_by => k_is)
    (case l_rows_by => k_is)
    (case c_rows_by => k_is)
    (case k_rows_by => k_is)
    (case a_checked => k_is)
    (case l_checked => k_is)
    (case c_checked => k_is)
    (case k_checked => k_is)
    (case a_Board_init => k_is)
    (case i_Board_init => k_is)
    (case l_Board_init => k_is)
    (case c_Board_init => k_is)
    (case k_Board_init => k_is)
    (case a_Board_has_site => k_is)
    (case i_Board_has_site => k_is)
    (case l_Board_has_site => k_is)
    (case c_Board_has_site => k_is)
    (case k_Board_has_site => k_is)
    (case a_Board_turn_to => k_is)
    (case i_Board_turn_to => k_is)
    (case l_Board_turn_to => k_is)
    (case c_Board_turn_to => k_is)
    (case k_Board_turn_to => k_is)
    (case a_Board_load => k_is)
    (case i_Board_load => k_is)
    (case l_Board_load => k_is)
    (case c_Board_load => k_is)
    (case k_Board_load => k_is)
    (case a_board => k_is)
    (case l_board => k_is)
    (case c_board => k_is)
    (case k_board => k_is)
    (case a_turns_by => k_is)
    (case l_turns_by => k_is)
    (case c_turns_by => k_is)
    (case k_turns_by => k_is)
    (case a_loads_by => k_is)
    (case l_loads_by => k_is)
    (case c_loads_by => k_is)
    (case k_loads_by => k_is)
    (case a_changed => k_is)
    (case l_changed => k_is)
    (case c_changed => k_is)
    (case k_changed => k_is)
    (case a_exit_shown => k_is)
    (case l_exit_shown => k_is)
    (case c_exit_shown => k_is)
    (case k_exit_shown => k_is)
    (case a_written => k_is)
    (case l_written => k_is)
    (case c_written => k_is)
    (case k_written => k_is)
    (case a_odd => k_is)
    (case l_odd => k_is)
    (case c_odd => k_is)
    (case k_odd => k_is)
    (case a_number_of => k_is)
    (case l_number_of => k_is)
    (case c_number_of => k_is)
    (case k_number_of => k_is)
    (case a_exit_of => k_is)
    (case l_exit_of => k_is)
    (case c_exit_of => k_is)
    (case k_exit_of => k_is)
    (case a_site_of_k25 => k_is)
    (case l_site_of_k25 => k_is)
    (case c_site_of_k25 => k_is)
    (case k_site_of_k25 => k_is)
    (case a_read_k25 => k_is)
    (case l_read_k25 => k_is)
    (case c_read_k25 => k_is)
    (case k_read_k25 => k_is)
    (case a_number => k_is)
    (case l_number => k_is)
    (case c_number => k_is)
    (case k_number => k_is)
    (case a_exit => k_is)
    (case l_exit => k_is)
    (case c_exit => k_is)
    (case k_exit => k_is)
    (case a_writes => k_is)
    (case l_writes => k_is)
    (case c_writes => k_is)
    (case k_writes => k_is)
    (case a_law_k25 => k_is)
    (case l_law_k25 => k_is)
    (case c_law_k25 => k_is)
    (case k_law_k25 => k_is)
    (case pg_Board => k_is)
    (case hd_Board => k_is)
    (case po_Board => k_is)
    (case sa_Board => k_is)
    (case mk_Board => k_is)
    (case kc_Board => k_is)
    (case na_rows => k_is)
    (case na_turns => k_is)
    (case na_loads => k_is)
    (case na_steps => k_is)
    (case na_taken => k_is)
    (case gi_MOST_SITES => k_is)
    (case gi_MOST_EXITS => k_is)
    (case gi_PIT => k_is)
    (case gi_MOST_MARBLES => k_is)
    (case gi_MOST_FIGURES => k_is)
    (case gi_FIGURES => k_is)
    (case n_len => k_is)
    (case n_range => k_is)
    (case n_reversed => k_is)
    (case n_list => k_is)
    (case n_sum => k_is)
    (case n_str => k_is)
    (case n_int => k_is)
    (case n_min => k_is)
    (case n_max => k_is)
    (case n_ValueError => k_is)
    (case n_isinstance => k_is)
    (case a_cNoSite => k_is)
    (case x_NoSite => k_exc)
    (case k_NoSite => k_is)
    (case b_NoSite => k_is)
    (case t_NoSite => k_is)
    (case a_cNoExit => k_is)
    (case x_NoExit => k_exc)
    (case k_NoExit => k_is)
    (case b_NoExit => k_is)
    (case t_NoExit => k_is)
    (case a_cNoPlace => k_is)
    (case x_NoPlace => k_exc)
    (case k_NoPlace => k_is)
    (case b_NoPlace => k_is)
    (case t_NoPlace => k_is)
    (case a_cTooMany => k_is)
    (case x_TooMany => k_exc)
    (case k_TooMany => k_is)
    (case b_TooMany => k_is)
    (case t_TooMany => k_is)
    (case a_cNoBoard => k_is)
    (case x_NoBoard => k_exc)
    (case k_NoBoard => k_is)
    (case b_NoBoard => k_is)
    (case t_NoBoard => k_is)
    (case a_cBoardError => k_is)
    (case x_BoardError => k_exc)
    (case k_BoardError => k_is)
    (case b_BoardError => k_is)
    (case t_BoardError => k_is)
    (case hd_BoardError => k_is)
    (case e_NoSite_BoardError => (first | rfl | k_is))
    (case e_NoExit_BoardError => (first | rfl | k_is))
    (case e_NoPlace_BoardError => (first | rfl | k_is))
    (case e_TooMany_BoardError => (first | rfl | k_is))
    (case biha => k_is)
    (case bihn => k_is)
    (case biht => k_is)
    (case bihm => k_is)
    (case biki => (first | rfl | k_is))
    (case e_NoBoard_BoardError => (first | rfl | k_is))
    (case kt_NoBoard_ValueError => (first | rfl | k_is))
    (case ki_NoBoard_NoBoard => (first | rfl | k_is))
    (case ki_NoBoard_NoSite => (first | rfl | k_is))
    (case ki_NoBoard_NoExit => (first | rfl | k_is))
    (case ki_NoBoard_NoPlace => (first | rfl | k_is))
    (case ki_NoBoard_TooMany => (first | rfl | k_is))
    (case echg_NoBoard => k_is)
    (case echk_NoBoard => k_is)
    (case echs_NoBoard => k_is)
    (case echd_NoBoard => k_is)
    (case echa_NoBoard => k_is)
    (case echn_NoBoard => k_is)
    (case echt_NoBoard => k_is)
    (case echm_NoBoard => k_is)
