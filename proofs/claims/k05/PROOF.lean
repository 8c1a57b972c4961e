import PyProof.Rows.All
import Wide.All
import OpenK.AllK
import Wide.FinOn
import HandS.ForMost
import HandS.ForExc
import HandS.More
import HandS.Steps
import HandS.TryMany
import HandS.IsInst
import HandS.ExcIs
import HandS.SetFor
import HandS.Rev
import HandS.Wide
import HandS.Style
import HandS.Text
import HandS.Hot
import HandS.HotCalls
import HandS.SuiteRaise
import PySem.Challenge.RW_marblerun_k05_boards_refused
set_option Elab.async false
set_option linter.all false
set_option maxRecDepth 100000
set_option maxHeartbeats 4000000
namespace Mb
open PySem L2
/-! Base: the ledger, short readings, rules for try bodies, the tactic words -/

/-- the addresses of the program's classes -/
structure Ads where
  Board : Addr
  BoardError : Addr
  NoSite : Addr
  NoExit : Addr
  NoPlace : Addr
  NoMarble : Addr
  TooMany : Addr
  NotOpen : Addr
  NotBare : Addr
  NotTree : Addr
  TooLong : Addr
  NoBoard : Addr

/-! ### names for the operators' readings -/
abbrev mAdd : R2 := rI0 fun i j => .int (i + j)
abbrev mSub : R2 := rI0 fun i j => .int (i - j)
abbrev mMul : R2 := rI CMul fun i j => .int (i * j)
abbrev mMod : R2 := rI (fun _ j => 0 < j) fun i j => .int (i % j)
abbrev mFdiv : R2 := rI CDiv fun i j => .int (i / j)
abbrev mPow : R2 := rI CPow fun i j => .int (i ^ j.toNat)
abbrev mLt : R2 := rI0 fun i j => .bl (decide (i < j))
abbrev mLe : R2 := rI0 fun i j => .bl (decide (i ≤ j))
abbrev mGt : R2 := rI0 fun i j => .bl (decide (j < i))
abbrev mGe : R2 := rI0 fun i j => .bl (decide (j ≤ i))
abbrev mNeg : V → Hp → VK → Prop := rU fun i => .int (-i)
def mLen (K : PySem.W.Frag) : List V → Hp → VK → Prop := fun xs H Q => ∃ p ys, xs = [.ref p] ∧ (SqL K H p ys ∨ SqT K H p ys) ∧ Q (.int ys.length) H
def mList (K : PySem.W.Frag) : List V → Hp → VK → Prop := fun xs H Q => ∃ p ys, xs = [.ref p] ∧ (SqL K H p ys ∨ SqT K H p ys) ∧ ∀ l, H l = none → Q (.ref l) (upd H l (.lst ys))
def mMax2 : List V → Hp → VK → Prop := fun xs H Q => ∃ i j, xs = [.int i, .int j] ∧ Q (.int (if j > i then j else i)) H
def mAbs : List V → Hp → VK → Prop := fun xs H Q => ∃ i, xs = [.int i] ∧ Q (.int (if i < 0 then -i else i)) H
def mStr : List V → Hp → VK → Prop := fun xs H Q => ∃ i, xs = [.int i] ∧ i.natAbs.log2 < 1920 ∧ Q (.str (toString i)) H
def mInt : List V → Hp → VK → Prop := fun xs H Q => (∃ i, xs = [.int i] ∧ Q (.int i) H) ∨ ∃ k, xs = [.bl k] ∧ Q (.int (if k then 1 else 0)) H
def mLenS : List V → Hp → VK → Prop := fun xs H Q => ∃ z, xs = [.str z] ∧ z.length ≤ sizeLine ∧ Q (.int z.length) H
def rInsert : V → List V → Hp → VK → Prop := fun x vs H Q => ∃ (l : Addr) (xs : List V) (i : Int) (y : V), x = .ref l ∧ vs = [.int i, y] ∧ H l = some (.lst xs) ∧ xs.length < sizeLine ∧ 0 ≤ i ∧ i < 2 ^ 63 ∧
  Q .non (upd H l (.lst (xs.take i.toNat ++ [y] ++ xs.drop i.toNat)))
def tRaise (E : XK) (C : Addr) : TS := fun _ _ H => E (.ref C) none H
def tTry1 (K : PySem.W.Frag) (c : Value) (tb : WX → TS) (ts : Addr → Value → Option Addr → TS) (Wout : WX) : TS := fun D σ H => tb (wOnly K c ts Wout D) D σ H
def tTryN (K : PySem.W.Frag) (tb : WX → TS) (l : List (Value × (Addr → Value → Option Addr → TS))) (Wout : WX) : TS := fun D σ H => tb (wMany K Wout D l) D σ H
def tTryAs (K : PySem.W.Frag) (c : Value) (i : Nat) (tb : WX → TS) (ts : Addr → Value → Option Addr → TS) (Wout : WX) : TS := fun D σ H => tb (wAs K c i ts Wout D) D σ H
def tMethT (C : Addr) (m : Str) (sp : Sp) (E : L2.St → XK) (ta : TE) (t : TA) : TE := fun σ H Q => ta σ H fun x H1 => ∃ a dx fs, x = .ref a ∧ H1 a = some (.ins C dx fs) ∧ fs.lookup m = none ∧
  t σ H1 fun vs H2 => sp (x :: vs) H2 Q (E σ)
def tMakeT (C : Addr) (sp : Sp) (E : L2.St → XK) (t : TA) : TE := fun σ H Q => t σ H fun vs H1 => ∀ x dx, H1 x = none → H1 dx = none → dx ≠ x →
  sp (.ref x :: vs) (upd (upd H1 dx (.own x)) x (.ins C dx [])) (fun v H2 => v = .non ∧ Q (.ref x) H2) (E σ)

theorem bt_len : bootBuiltins "len" = some (.builtin "len") := PySem.boot_len
theorem bt_list : bootBuiltins "list" = some (.type "list") := by decide +kernel
theorem bt_sum : bootBuiltins "sum" = some (.builtin "sum") := by decide +kernel
theorem bt_max : bootBuiltins "max" = some (.builtin "max") := by decide +kernel
theorem bt_min : bootBuiltins "min" = some (.builtin "min") := by decide +kernel
theorem bt_all : bootBuiltins "all" = some (.builtin "all") := by decide +kernel
theorem bt_any : bootBuiltins "any" = some (.builtin "any") := by decide +kernel
theorem bt_abs : bootBuiltins "abs" = some (.builtin "abs") := by decide +kernel
theorem bt_str : bootBuiltins "str" = some (.type "str") := by decide +kernel
theorem bt_int : bootBuiltins "int" = some (.type "int") := by decide +kernel
theorem bt_bool : bootBuiltins "bool" = some (.type "bool") := by decide +kernel
theorem bt_tuple : bootBuiltins "tuple" = some (.type "tuple") := by decide +kernel
theorem bt_isinstance : bootBuiltins "isinstance" = some (.builtin "isinstance") := by decide +kernel
theorem bt_ValueError : bootBuiltins "ValueError" = some (.type "ValueError") := by decide +kernel

/-! ### the ledger: what is frozen (B), what may change (L) -/
structure Led (B : Hp) (L : List (Addr × HO)) (H : Hp) : Prop where
  same : Same B H
  at_ : ∀ (i : Nat) (p : Addr) (o : HO), L[i]? = some (p, o) → H p = some o
  nd : (L.map Prod.fst).Nodup
  new : ∀ p, p ∈ L.map Prod.fst → B p = none

theorem Led.nil (H : Hp) : Led H [] H := ⟨Same.refl H, fun i p o h => by simp at h, by simp, fun p h => by simp at h⟩
theorem Led.get {B : Hp} {L : List (Addr × HO)} {H : Hp} (h : Led B L H) (i : Nat) {p : Addr} {o : HO} (e : L[i]? = some (p, o)) : H p = some o := h.at_ i p o e
theorem Led.mem {B : Hp} {L : List (Addr × HO)} {H : Hp} (h : Led B L H) {p : Addr} {o : HO} (e : (p, o) ∈ L) : H p = some o := by
  obtain ⟨i, hi, q⟩ := List.getElem_of_mem e
  exact h.at_ i p o (by rw [List.getElem?_eq_getElem hi, q])
theorem Led.keys {B : Hp} {L : List (Addr × HO)} {H : Hp} (h : Led B L H) {p : Addr} (e : p ∈ L.map Prod.fst) : ∃ o, H p = some o := by
  obtain ⟨⟨q, o⟩, hm, rfl⟩ := List.mem_map.mp e
  exact ⟨o, h.mem hm⟩
theorem Led.out {B : Hp} {L : List (Addr × HO)} {H : Hp} (h : Led B L H) {p : Addr} (e : H p = none) : p ∉ L.map Prod.fst := fun m => by
  obtain ⟨o, q⟩ := h.keys m
  rw [e] at q
  cases q
theorem key_at {L : List (Addr × HO)} {i : Nat} {p : Addr} {o : HO} (e : L[i]? = some (p, o)) : p ∈ L.map Prod.fst := List.mem_map.mpr ⟨(p, o), List.mem_of_getElem? e, rfl⟩
theorem Led.base {B : Hp} {L : List (Addr × HO)} {H : Hp} (h : Led B L H) {K : PySem.W.Frag} {a : Addr} {xs : List V} (s : SqL K B a xs) : SqL K H a xs := h.same.seq s
theorem Led.sq {B : Hp} {L : List (Addr × HO)} {H : Hp} (h : Led B L H) (i : Nat) {K : PySem.W.Frag} {p : Addr} {xs : List V} (e : L[i]? = some (p, .lst xs)) : SqL K H p xs := SqL.of (h.get i e)
theorem Led.ext {B : Hp} {L : List (Addr × HO)} {H H' : Hp} (h : Led B L H) (s : Same H H') : Led B L H' :=
  ⟨h.same.trans s, fun i p o e => s _ _ (h.at_ i p o e), h.nd, h.new⟩
theorem map_set_fst {L : List (Addr × HO)} {i : Nat} {p : Addr} {o o' : HO} (e : L[i]? = some (p, o)) : (L.set i (p, o')).map Prod.fst = L.map Prod.fst := by
  apply List.ext_getElem?
  intro j
  rw [List.getElem?_map, List.getElem?_map]
  by_cases q : i = j
  · subst q
    have hl : i < L.length := (List.getElem?_eq_some_iff.mp e).1
    rw [List.getElem?_set_self hl, e]
    rfl
  · rw [List.getElem?_set_ne q]
theorem Led.set {B : Hp} {L : List (Addr × HO)} {H : Hp} (h : Led B L H) {i : Nat} {p : Addr} {o : HO} (e : L[i]? = some (p, o)) (o' : HO) : Led B (L.set i (p, o')) (upd H p o') := by
  have hm := map_set_fst (o' := o') e
  have hl : i < L.length := (List.getElem?_eq_some_iff.mp e).1
  refine ⟨fun b u q => ?_, fun j q u z => ?_, by rw [hm]; exact h.nd, fun q z => h.new q (by rw [← hm]; exact z)⟩
  · rw [upd_ne (ne_of_none q (h.new p (key_at e)))]
    exact h.same b u q
  · by_cases ij : i = j
    · subst ij
      rw [List.getElem?_set_self hl] at z
      cases z
      exact upd_same
    · rw [List.getElem?_set_ne ij] at z
      have np : q ≠ p := fun hq => by
        subst hq
        have e1 : (L.map Prod.fst)[j]? = some q := by rw [List.getElem?_map, z]; rfl
        have e2 : (L.map Prod.fst)[i]? = some q := by rw [List.getElem?_map, e]; rfl
        exact ij (nd_ix h.nd e2 e1)
      rw [upd_ne np]
      exact h.at_ j q u z
theorem Led.add {B : Hp} {L : List (Addr × HO)} {H H' : Hp} (h : Led B L H) {p : Addr} {o : HO} (s : Same H H') (n : H p = none) (e : H' p = some o) : Led B (L ++ [(p, o)]) H' := by
  have out := h.out n
  refine ⟨h.same.trans s, fun i q u z => ?_, ?_, fun q z => ?_⟩
  · by_cases hi : i < L.length
    · rw [List.getElem?_append_left hi] at z
      exact s _ _ (h.at_ i q u z)
    · rw [List.getElem?_append_right (by omega)] at z
      cases k : i - L.length with
      | zero =>
        rw [k] at z
        cases z
        exact e
      | succ m =>
        rw [k] at z
        simp at z
  · rw [List.map_append, List.nodup_append]
    refine ⟨h.nd, by simp, fun a ha b hb => ?_⟩
    simp at hb
    subst hb
    intro q
    subst q
    exact out ha
  · rw [List.map_append] at z
    rcases List.mem_append.mp z with z | z
    · exact h.new q z
    · simp at z
      subst z
      cases q2 : B q with
      | none => rfl
      | some u =>
        rw [h.same _ _ q2] at n
        cases n
theorem same_upd {H : Hp} {p : Addr} {o : HO} (n : H p = none) : Same H (upd H p o) := fun b u q => by
  rw [upd_ne (ne_of_none q n)]
  exact q
theorem Led.alloc {B : Hp} {L : List (Addr × HO)} {H : Hp} (h : Led B L H) {p : Addr} (n : H p = none) (o : HO) : Led B (L ++ [(p, o)]) (upd H p o) := h.add (same_upd n) n upd_same
/-- all but the ledger becomes the base -/
theorem Led.rebase {B : Hp} {L : List (Addr × HO)} {H : Hp} (h : Led B L H) : ∃ B', Same B B' ∧ Led B' L H ∧ ∀ p o, H p = some o → p ∉ L.map Prod.fst → B' p = some o := by
  classical
  refine ⟨fun a => if a ∈ L.map Prod.fst then none else H a, fun b u q => ?_, ⟨fun b u q => ?_, h.at_, h.nd, fun p z => if_pos z⟩, fun p o q z => ?_⟩
  · have z : b ∉ L.map Prod.fst := fun m => by
      rw [h.new b m] at q
      cases q
    show (if b ∈ L.map Prod.fst then none else H b) = some u
    rw [if_neg z]
    exact h.same b u q
  · by_cases z : b ∈ L.map Prod.fst
    · rw [show (if b ∈ L.map Prod.fst then none else H b) = none from if_pos z] at q
      cases q
    · rw [show (if b ∈ L.map Prod.fst then none else H b) = H b from if_neg z] at q
      exact q
  · show (if p ∈ L.map Prod.fst then none else H p) = some o
    rw [if_neg z]
    exact q
/-- objects forgotten -/
theorem Led.sub {B : Hp} {L L' : List (Addr × HO)} {H : Hp} (h : Led B L H) (s : L'.Sublist L) : Led B L' H :=
  ⟨h.same, fun i p o e => h.mem (s.subset (List.mem_of_getElem? e)), (s.map Prod.fst).nodup h.nd, fun p z => h.new p ((s.map Prod.fst).subset z)⟩

/-! ### lists of ints, of rows -/
abbrev ilst (ns : List Int) : HO := .lst (ns.map V.int)
abbrev blst (bs : List Bool) : HO := .lst (bs.map V.bl)
/-- rows stand at p in the frozen part -/
def RowsAt (B : Hp) (p : Addr) (rows : List (List Int)) : Prop := ∃ as : List Addr, B p = some (.lst (as.map V.ref)) ∧ as.length = rows.length ∧
  ∀ (i : Nat) (r : Addr) (row : List Int), as[i]? = some r → rows[i]? = some row → B r = some (ilst row)
theorem RowsAt.mono {B B' : Hp} {p : Addr} {rows : List (List Int)} (h : RowsAt B p rows) (s : Same B B') : RowsAt B' p rows := by
  obtain ⟨as, h1, h2, h3⟩ := h
  exact ⟨as, s _ _ h1, h2, fun i r row e1 e2 => s _ _ (h3 i r row e1 e2)⟩

theorem len_map_int (ns : List Int) : (ns.map V.int).length = ns.length := List.length_map _
theorem atI_int {ns : List Int} {i : Int} (h0 : 0 ≤ i) (h1 : i < ns.length) : atI (ns.map V.int) i = some (.int (ns.getD i.toNat 0)) := by
  have hl : i.toNat < ns.length := by omega
  refine at_of (j := i.toNat) (by omega) ?_
  rw [List.getElem?_map, List.getElem?_eq_getElem hl, List.getD_eq_getElem?_getD, List.getElem?_eq_getElem hl]
  rfl
theorem atI_bl {bs : List Bool} {i : Int} (h0 : 0 ≤ i) (h1 : i < bs.length) : atI (bs.map V.bl) i = some (.bl (bs.getD i.toNat false)) := by
  have hl : i.toNat < bs.length := by omega
  refine at_of (j := i.toNat) (by omega) ?_
  rw [List.getElem?_map, List.getElem?_eq_getElem hl, List.getD_eq_getElem?_getD, List.getElem?_eq_getElem hl]
  rfl

/-! ### steps of a reading -/
section
variable {K : PySem.W.Frag} {σ : L2.St} {H : Hp} {Q : VK} {D : Ends} {ta tb te : TE} {t u : TS} {tt tu : TT} {r : R2}
theorem g_seq (h : t { D with nx := u D } σ H) : tSeq t u D σ H := h
theorem g_asg {g : TG} (h : te σ H fun x H1 => g x σ H1 D.nx) : tAsg te g D σ H := h
theorem g_name {i : Nat} {v : V} {R : L2.St → Hp → Prop} (h : R (σ.set i (some v)) H) : gName i v σ H R := h
theorem g_var {i : Nat} {v : V} (e : σ[i]? = some (some v)) (h : Q v H) : tVar i σ H Q := ⟨v, e, h⟩
theorem g_c {v : V} (h : Q v H) : tC v σ H Q := h
theorem g_op (h : ta σ H fun x H1 => tb σ H1 fun y H2 => r x y H2 Q) : tOp r ta tb σ H Q := h
theorem g_un {r : V → Hp → VK → Prop} (h : ta σ H fun x H1 => r x H1 Q) : tUn r ta σ H Q := h
theorem g_I0 {g : Int → Int → V} {i j : Int} (h : Q (g i j) H) : rI0 g (.int i) (.int j) H Q := ⟨i, j, rfl, rfl, h⟩
theorem g_I {C : Int → Int → Prop} {g : Int → Int → V} {i j : Int} (c : C i j) (h : Q (g i j) H) : rI C g (.int i) (.int j) H Q := ⟨i, j, rfl, rfl, c, h⟩
theorem g_U {g : Int → V} {i : Int} (h : Q (g i) H) : rU g (.int i) H Q := ⟨i, rfl, h⟩
theorem g_mulL {i j : Int} (c : -(2 ^ 64) < i ∧ i < 2 ^ 64) (h : Q (.int (i * j)) H) : mMul (.int i) (.int j) H Q := ⟨i, j, rfl, rfl, .inl c, h⟩
theorem g_mulR {i j : Int} (c : -(2 ^ 64) < j ∧ j < 2 ^ 64) (h : Q (.int (i * j)) H) : mMul (.int i) (.int j) H Q := ⟨i, j, rfl, rfl, .inr c, h⟩
theorem g_eqI {i j : Int} (h : Q (.bl (decide (i = j))) H) : rEq (.int i) (.int j) H Q :=
  ⟨rfl, by rw [show decide (V.int i = V.int j) = decide (i = j) from decide_eq_decide.mpr ⟨fun e => V.int.inj e, fun e => e ▸ rfl⟩]; exact h⟩
theorem g_neI {i j : Int} (h : Q (.bl (!decide (i = j))) H) : rNe (.int i) (.int j) H Q :=
  ⟨rfl, by rw [show decide (V.int i = V.int j) = decide (i = j) from decide_eq_decide.mpr ⟨fun e => V.int.inj e, fun e => e ▸ rfl⟩]; exact h⟩
theorem g_eqB {i j : Bool} (h : Q (.bl (decide (i = j))) H) : rEq (.bl i) (.bl j) H Q :=
  ⟨rfl, by rw [show decide (V.bl i = V.bl j) = decide (i = j) from decide_eq_decide.mpr ⟨fun e => V.bl.inj e, fun e => e ▸ rfl⟩]; exact h⟩
theorem g_neB {i j : Bool} (h : Q (.bl (!decide (i = j))) H) : rNe (.bl i) (.bl j) H Q :=
  ⟨rfl, by rw [show decide (V.bl i = V.bl j) = decide (i = j) from decide_eq_decide.mpr ⟨fun e => V.bl.inj e, fun e => e ▸ rfl⟩]; exact h⟩
theorem g_eqS {i j : Str} (h : Q (.bl (decide (i = j))) H) : rEq (.str i) (.str j) H Q :=
  ⟨rfl, by rw [show decide (V.str i = V.str j) = decide (i = j) from decide_eq_decide.mpr ⟨fun e => V.str.inj e, fun e => e ▸ rfl⟩]; exact h⟩
theorem g_neS {i j : Str} (h : Q (.bl (!decide (i = j))) H) : rNe (.str i) (.str j) H Q :=
  ⟨rfl, by rw [show decide (V.str i = V.str j) = decide (i = j) from decide_eq_decide.mpr ⟨fun e => V.str.inj e, fun e => e ▸ rfl⟩]; exact h⟩
theorem g_tB {te : TE} {R : Bool → Hp → Prop} (h : te σ H fun x H1 => ∃ c, x = .bl c ∧ R c H1) : tB te σ H R := h
theorem g_tTest {te : TE} {R : Bool → Hp → Prop} (h : te σ H fun x H1 => ∃ c, x = .bl c ∧ R c H1) : tTest te σ H R := h
theorem g_bl {c : Bool} {R : Bool → Hp → Prop} (h : R c H) : ∃ k, V.bl c = .bl k ∧ R k H := ⟨c, rfl, h⟩
theorem g_and {R : Bool → Hp → Prop} (h : tt σ H fun c H1 => if c = true then tu σ H1 R else R false H1) : tAnd tt tu σ H R := h
theorem g_or {R : Bool → Hp → Prop} (h : tt σ H fun c H1 => if c = true then R true H1 else tu σ H1 R) : tOr tt tu σ H R := h
theorem g_not {R : Bool → Hp → Prop} (h : tt σ H fun c H1 => R (!c) H1) : tNot tt σ H R := h
theorem g_andV (h : ta σ H fun x H1 => ∃ c, x = .bl c ∧ if c = true then tb σ H1 Q else Q (.bl false) H1) : tAndV ta tb σ H Q := h
theorem g_orV (h : ta σ H fun x H1 => ∃ c, x = .bl c ∧ if c = true then Q (.bl true) H1 else tb σ H1 Q) : tOrV ta tb σ H Q := h
theorem g_notV (h : ta σ H fun x H1 => ∃ c, x = .bl c ∧ Q (.bl (!c)) H1) : tNotV ta σ H Q := h
theorem g_blV {c : Bool} {R : Bool → Prop} (h : R c) : ∃ k, V.bl c = .bl k ∧ R k := ⟨c, rfl, h⟩
theorem g_ifE (h : tt σ H fun c H1 => if c = true then ta σ H1 Q else tb σ H1 Q) : tIf tt ta tb σ H Q := h
theorem g_ifS (h : tt σ H fun c H1 => if c = true then t D σ H1 else u D σ H1) : tIfS tt t u D σ H := h
theorem g_next (h : D.nx σ H) : tNext D σ H := h
theorem g_ret (h : te σ H D.rt) : tRet te D σ H := h
theorem g_retN (h : D.rt .non H) : tRetN D σ H := h
theorem g_drop (h : te σ H fun _ H1 => D.nx σ H1) : tDrop te D σ H := h
theorem g_raise {E : XK} {C : Addr} (h : E (.ref C) none H) : tRaise E C D σ H := h
theorem g_nil {R : List V → Hp → Prop} (h : R [] H) : tNil σ H R := h
theorem g_cons {tr : TA} {R : List V → Hp → Prop} (h : te σ H fun x H1 => tr σ H1 fun xs H2 => R (x :: xs) H2) : tCons te tr σ H R := h
theorem g_cb {r : List V → Hp → VK → Prop} {ta : TA} (h : ta σ H fun vs H1 => r vs H1 Q) : tCB r ta σ H Q := h
theorem g_call {sp : Sp} {E : XK} {ta : TA} (h : ta σ H fun vs H1 => sp vs H1 Q E) : tCall sp [] E ta σ H Q := by
  show ta σ H fun vs H1 => sp (vs ++ []) H1 Q E
  have e : (fun (vs : List V) H1 => sp (vs ++ []) H1 Q E) = fun vs H1 => sp vs H1 Q E := by
    funext vs H1
    rw [List.append_nil]
  rw [e]
  exact h
theorem g_len {p : Addr} {xs : List V} (s : SqL K H p xs) (h : Q (.int xs.length) H) : mLen K [.ref p] H Q := ⟨p, xs, rfl, .inl s, h⟩
theorem g_lenI {p : Addr} {ns : List Int} (s : SqL K H p (ns.map V.int)) (h : Q (.int ns.length) H) : mLen K [.ref p] H Q := ⟨p, _, rfl, .inl s, by rw [List.length_map]; exact h⟩
theorem g_lenB {p : Addr} {ns : List Bool} (s : SqL K H p (ns.map V.bl)) (h : Q (.int ns.length) H) : mLen K [.ref p] H Q := ⟨p, _, rfl, .inl s, by rw [List.length_map]; exact h⟩
theorem g_ixI {p : Addr} {ns : List Int} {i : Int} (s : SqL K H p (ns.map V.int)) (h0 : 0 ≤ i) (h1 : i < ns.length) (h : Q (.int (ns.getD i.toNat 0)) H) : rIxL K (.ref p) (.int i) H Q :=
  ⟨p, _, i, _, rfl, rfl, s, atI_int h0 h1, h⟩
theorem g_ixB {p : Addr} {bs : List Bool} {i : Int} (s : SqL K H p (bs.map V.bl)) (h0 : 0 ≤ i) (h1 : i < bs.length) (h : Q (.bl (bs.getD i.toNat false)) H) : rIxL K (.ref p) (.int i) H Q :=
  ⟨p, _, i, _, rfl, rfl, s, atI_bl h0 h1, h⟩
theorem g_lst {ta : TA} (h : ta σ H fun xs H1 => xs.length ≤ sizeLine ∧ ∀ p, H1 p = none → Q (.ref p) (upd H1 p (.lst xs))) : tLst ta σ H Q := h
theorem g_sum {p : Addr} {ns : List Int} (s : SqL K H p (ns.map V.int)) (h : Q (.int ns.sum) H) : rSum K [.ref p] H Q := ⟨p, ns, rfl, s, h⟩
theorem g_fld {a C dx : Addr} {fs : List (Str × V)} {v : V} {f : Str} (e : H a = some (.ins C dx fs)) (c : Cls K C) (n : NoAttr K C f) (l : fs.lookup f = some v) (h : Q v H) :
    ∃ a' C' dx' fs' v', V.ref a = .ref a' ∧ H a' = some (.ins C' dx' fs') ∧ Cls K C' ∧ NoAttr K C' f ∧ fs'.lookup f = some v' ∧ Q v' H := ⟨a, C, dx, fs, v, rfl, e, c, n, l, h⟩
theorem g_tFld {f : Str} (h : ta σ H fun x H1 => ∃ a C dx fs v, x = .ref a ∧ H1 a = some (.ins C dx fs) ∧ Cls K C ∧ NoAttr K C f ∧ fs.lookup f = some v ∧ Q v H1) : tFld K ta f σ H Q := h
theorem g_mod {i j : Int} (c : 0 < j) (h : Q (.int (i % j)) H) : mMod (.int i) (.int j) H Q := ⟨i, j, rfl, rfl, c, h⟩
theorem g_fdiv {i j : Int} (c : 0 < j) (c2 : j < 1073741824) (h : Q (.int (i / j)) H) : mFdiv (.int i) (.int j) H Q := ⟨i, j, rfl, rfl, ⟨c, c2⟩, h⟩
theorem ifPt {p : Prop} [Decidable p] {A B : Prop} (hp : p) (h : A) : if decide p = true then A else B := by
  rw [if_pos (decide_eq_true hp)]
  exact h
theorem ifPf {p : Prop} [Decidable p] {A B : Prop} (hp : ¬ p) (h : B) : if decide p = true then A else B := by
  rw [if_neg (by simp [hp])]
  exact h
theorem ifNt {p : Prop} [Decidable p] {A B : Prop} (hp : ¬ p) (h : A) : if (!decide p) = true then A else B := by
  rw [if_pos (by simp [hp])]
  exact h
theorem ifNf {p : Prop} [Decidable p] {A B : Prop} (hp : p) (h : B) : if (!decide p) = true then A else B := by
  rw [if_neg (by simp [hp])]
  exact h
theorem ifP {p : Prop} [Decidable p] {A B : Prop} (h1 : p → A) (h2 : ¬ p → B) : if decide p = true then A else B := by
  by_cases h : p
  · rw [if_pos (decide_eq_true h)]
    exact h1 h
  · rw [if_neg (by simp [h])]
    exact h2 h
theorem ifN {p : Prop} [Decidable p] {A B : Prop} (h1 : ¬ p → A) (h2 : p → B) : if (!decide p) = true then A else B := by
  by_cases h : p
  · rw [if_neg (by simp [h])]
    exact h2 h
  · rw [if_pos (by simp [h])]
    exact h1 h
theorem ifC {c : Bool} {A B : Prop} (h1 : c = true → A) (h2 : c = false → B) : if c = true then A else B := by
  cases c with
  | true => exact iteT (h1 rfl)
  | false => exact iteF (h2 rfl)
end

/-! ### the class Board -/
structure BdOk (K : PySem.W.Frag) (G : Ads) : Prop where
  cl : Cls K G.Board
  n_rows : NoAttr K G.Board "rows"
  n_turns : NoAttr K G.Board "turns"
  n_loads : NoAttr K G.Board "loads"
  n_steps : NoAttr K G.Board "steps"
  n_taken : NoAttr K G.Board "taken"

/-! ### the law's own promise -/
def spLaw (K : PySem.W.Frag) : Sp := fun vs H Q _ => ∃ (a : Addr) (ns : List Int), vs = [.ref a] ∧ SqL K H a (ns.map V.int) ∧ ns.length ≤ 63 ∧ ∀ H', Q (.bl true) H'
theorem lenLaw {K : PySem.W.Frag} {vs H Q E} (h : spLaw K vs H Q E) : vs.length = 1 := by
  obtain ⟨a, ns, rfl, _⟩ := h
  rfl


/-! Rows, boards in the heap and in the ledger -/
/-- rows that came new -/
def NewRows (H H' : Hp) (q : Addr) (rows : List (List Int)) : Prop := ∃ as : List Addr, H' q = some (.lst (as.map V.ref)) ∧ H q = none ∧ as.length = rows.length ∧
  ∀ (i : Nat) (r : Addr) (row : List Int), as[i]? = some r → rows[i]? = some row → H' r = some (ilst row) ∧ H r = none
theorem NewRows.at_ {H H' : Hp} {q : Addr} {rows : List (List Int)} (h : NewRows H H' q rows) : RowsAt H' q rows := by
  obtain ⟨as, h1, _, h2, h3⟩ := h
  exact ⟨as, h1, h2, fun i r row e1 e2 => (h3 i r row e1 e2).1⟩
theorem NewRows.mono {H H1 H2 : Hp} {q : Addr} {rows : List (List Int)} (h : NewRows H H1 q rows) (s : Same H1 H2) : NewRows H H2 q rows := by
  obtain ⟨as, h1, h0, h2, h3⟩ := h
  exact ⟨as, s _ _ h1, h0, h2, fun i r row e1 e2 => ⟨s _ _ (h3 i r row e1 e2).1, (h3 i r row e1 e2).2⟩⟩
theorem NewRows.back {H0 H H1 : Hp} {q : Addr} {rows : List (List Int)} (h : NewRows H H1 q rows) (s : Same H0 H) : NewRows H0 H1 q rows := by
  obtain ⟨as, h1, h0, h2, h3⟩ := h
  exact ⟨as, h1, s.free h0, h2, fun i r row e1 e2 => ⟨(h3 i r row e1 e2).1, s.free (h3 i r row e1 e2).2⟩⟩
theorem Led.rows {B H H' : Hp} {L : List (Addr × HO)} {q : Addr} {rows : List (List Int)} (h : Led B L H) (s : Same H H') (n : NewRows H H' q rows) : ∃ B', Same B B' ∧ NewRows H B' q rows ∧ Led B' L H' := by
  obtain ⟨B', s1, l1, k1⟩ := (h.ext s).rebase
  obtain ⟨as, h1, h0, h2, h3⟩ := n
  exact ⟨B', s1, ⟨as, k1 _ _ h1 (h.out h0), h0, h2, fun i r row e1 e2 => ⟨k1 _ _ (h3 i r row e1 e2).1 (h.out (h3 i r row e1 e2).2), (h3 i r row e1 e2).2⟩⟩, l1⟩
/-- an item of rows read -/
theorem g_row {K : PySem.W.Frag} {H : Hp} {Q : VK} {p : Addr} {rows : List (List Int)} {i : Int} (R : RowsAt H p rows) (h0 : 0 ≤ i) (h1 : i < rows.length) (h : ∀ r, SqL K H r ((rows.getD i.toNat []).map V.int) → Q (.ref r) H) : rIxL K (.ref p) (.int i) H Q := by
  obtain ⟨as, e1, e2, e3⟩ := R
  have hl : i.toNat < rows.length := by omega
  have ha : i.toNat < as.length := by omega
  refine ⟨p, _, i, .ref as[i.toNat], rfl, rfl, SqL.of e1, at_of (j := i.toNat) (by omega) ?_, h _ (SqL.of ?_)⟩
  · rw [List.getElem?_map, List.getElem?_eq_getElem ha]
    rfl
  · have q := e3 i.toNat as[i.toNat] rows[i.toNat] (List.getElem?_eq_getElem ha) (List.getElem?_eq_getElem hl)
    rw [List.getD_eq_getElem?_getD, List.getElem?_eq_getElem hl]
    exact q
theorem g_rowL {K : PySem.W.Frag} {H : Hp} {Q : VK} {p : Addr} {rows : List (List Int)} {i : Int} (R : RowsAt H p rows) (h0 : 0 ≤ i) (h1 : i < rows.length) (h : ∀ r, H r = some (ilst (rows.getD i.toNat [])) → Q (.ref r) H) : rIxL K (.ref p) (.int i) H Q := by
  obtain ⟨as, e1, e2, e3⟩ := R
  have hl : i.toNat < rows.length := by omega
  have ha : i.toNat < as.length := by omega
  refine ⟨p, _, i, .ref as[i.toNat], rfl, rfl, SqL.of e1, at_of (j := i.toNat) (by omega) ?_, h _ ?_⟩
  · rw [List.getElem?_map, List.getElem?_eq_getElem ha]
    rfl
  · have q := e3 i.toNat as[i.toNat] rows[i.toNat] (List.getElem?_eq_getElem ha) (List.getElem?_eq_getElem hl)
    rw [List.getD_eq_getElem?_getD, List.getElem?_eq_getElem hl]
    exact q
theorem g_lenR {K : PySem.W.Frag} {H : Hp} {Q : VK} {p : Addr} {rows : List (List Int)} (R : RowsAt H p rows) (h : Q (.int rows.length) H) : mLen K [.ref p] H Q := by
  obtain ⟨as, e1, e2, _⟩ := R
  exact ⟨p, _, rfl, .inl (SqL.of e1), by rw [List.length_map, e2]; exact h⟩
theorem Led.ra {B H : Hp} {L : List (Addr × HO)} {p : Addr} {rows : List (List Int)} (h : Led B L H) (r : RowsAt B p rows) : RowsAt H p rows := r.mono h.same

/-! ### rows that make a board -/
def OkRow (n : Nat) (row : List Int) : Prop := 1 ≤ row.length ∧ row.length ≤ 8 ∧ ∀ g, g ∈ row → -1 ≤ g ∧ g < n
def OkRows (rows : List (List Int)) : Prop := 1 ≤ rows.length ∧ rows.length ≤ 12 ∧ ∀ row, row ∈ rows → OkRow rows.length row
def TurnsOk (rows : List (List Int)) (turns : List Int) : Prop := turns.length = rows.length ∧ ∀ k : Nat, k < rows.length → 0 ≤ turns.getD k 0 ∧ turns.getD k 0 < (rows.getD k []).length
theorem getD_mem {α : Type} {l : List α} {k : Nat} {d : α} (h : k < l.length) : l.getD k d ∈ l := by
  rw [List.getD_eq_getElem?_getD, List.getElem?_eq_getElem h]
  exact List.getElem_mem h
theorem OkRows.row {rows : List (List Int)} (h : OkRows rows) {k : Nat} (hk : k < rows.length) : OkRow rows.length (rows.getD k []) := h.2.2 _ (getD_mem hk)
theorem OkRows.exit {rows : List (List Int)} (h : OkRows rows) {k j : Nat} (hk : k < rows.length) (hj : j < (rows.getD k []).length) : -1 ≤ (rows.getD k []).getD j 0 ∧ (rows.getD k []).getD j 0 < rows.length := (h.row hk).2.2 _ (getD_mem hj)
theorem getD_set {α : Type} {l : List α} {i j : Nat} {x d : α} (h : i < l.length) : (l.set i x).getD j d = if i = j then x else l.getD j d := by
  rw [List.getD_eq_getElem?_getD, List.getD_eq_getElem?_getD]
  by_cases e : i = j
  · subst e
    rw [if_pos rfl, List.getElem?_set_self h]
    rfl
  · rw [if_neg e, List.getElem?_set_ne e]

/-! ### a board's fields -/
def bf (r t l s : Addr) (n : Int) : List (Str × V) := [("rows", .ref r), ("turns", .ref t), ("loads", .ref l), ("steps", .ref s), ("taken", .int n)]
section
variable {r t l s t' l' s' : Addr} {n n' : Int}
theorem st12 : (("turns" : Str) == ("rows" : Str)) = false := by decide +kernel
theorem st13 : (("loads" : Str) == ("rows" : Str)) = false := by decide +kernel
theorem st14 : (("steps" : Str) == ("rows" : Str)) = false := by decide +kernel
theorem st15 : (("taken" : Str) == ("rows" : Str)) = false := by decide +kernel
theorem st23 : (("loads" : Str) == ("turns" : Str)) = false := by decide +kernel
theorem st24 : (("steps" : Str) == ("turns" : Str)) = false := by decide +kernel
theorem st25 : (("taken" : Str) == ("turns" : Str)) = false := by decide +kernel
theorem st34 : (("steps" : Str) == ("loads" : Str)) = false := by decide +kernel
theorem st35 : (("taken" : Str) == ("loads" : Str)) = false := by decide +kernel
theorem st45 : (("taken" : Str) == ("steps" : Str)) = false := by decide +kernel
theorem bf_rows : (bf r t l s n).lookup ("rows" : Str) = some (.ref r) := by simp only [bf, List.lookup, beq_self_eq_true]
theorem bf_turns : (bf r t l s n).lookup ("turns" : Str) = some (.ref t) := by simp only [bf, List.lookup, st12, beq_self_eq_true]
theorem bf_loads : (bf r t l s n).lookup ("loads" : Str) = some (.ref l) := by simp only [bf, List.lookup, st13, st23, beq_self_eq_true]
theorem bf_steps : (bf r t l s n).lookup ("steps" : Str) = some (.ref s) := by simp only [bf, List.lookup, st14, st24, st34, beq_self_eq_true]
theorem bf_taken : (bf r t l s n).lookup ("taken" : Str) = some (.int n) := by simp only [bf, List.lookup, st15, st25, st35, st45, beq_self_eq_true]
theorem sn12 : ¬ (("rows" : Str) = ("turns" : Str)) := by decide +kernel
theorem sn13 : ¬ (("rows" : Str) = ("loads" : Str)) := by decide +kernel
theorem sn14 : ¬ (("rows" : Str) = ("steps" : Str)) := by decide +kernel
theorem sn15 : ¬ (("rows" : Str) = ("taken" : Str)) := by decide +kernel
theorem sn23 : ¬ (("turns" : Str) = ("loads" : Str)) := by decide +kernel
theorem sn24 : ¬ (("turns" : Str) = ("steps" : Str)) := by decide +kernel
theorem sn25 : ¬ (("turns" : Str) = ("taken" : Str)) := by decide +kernel
theorem sn34 : ¬ (("loads" : Str) = ("steps" : Str)) := by decide +kernel
theorem sn35 : ¬ (("loads" : Str) = ("taken" : Str)) := by decide +kernel
theorem sn45 : ¬ (("steps" : Str) = ("taken" : Str)) := by decide +kernel
theorem bf_pturns : putF ("turns" : Str) (.ref t') (bf r t l s n) = bf r t' l s n := by simp only [bf, putF, sn12, if_false, if_true]
theorem bf_ploads : putF ("loads" : Str) (.ref l') (bf r t l s n) = bf r t l' s n := by simp only [bf, putF, sn13, sn23, if_false, if_true]
theorem bf_psteps : putF ("steps" : Str) (.ref s') (bf r t l s n) = bf r t l s' n := by simp only [bf, putF, sn14, sn24, sn34, if_false, if_true]
theorem bf_ptaken : putF ("taken" : Str) (.int n') (bf r t l s n) = bf r t l s n' := by simp only [bf, putF, sn15, sn25, sn35, sn45, if_false, if_true]
theorem bf_made : putF ("taken" : Str) (.int n) (putF ("steps" : Str) (.ref s) (putF ("loads" : Str) (.ref l) (putF ("turns" : Str) (.ref t) (putF ("rows" : Str) (.ref r) [])))) = bf r t l s n := by
  simp only [bf, putF, sn12, sn13, sn14, sn15, sn23, sn24, sn25, sn34, sn35, sn45, if_false]
theorem bf_len : (bf r t l s n).length < 1000 := by show 5 < 1000; decide
theorem bf_none {m : Str} (h1 : ¬ m = ("rows" : Str)) (h2 : ¬ m = ("turns" : Str)) (h3 : ¬ m = ("loads" : Str)) (h4 : ¬ m = ("steps" : Str)) (h5 : ¬ m = ("taken" : Str)) : (bf r t l s n).lookup m = none := by
  have e1 : (m == ("rows" : Str)) = false := by simpa using h1
  have e2 : (m == ("turns" : Str)) = false := by simpa using h2
  have e3 : (m == ("loads" : Str)) = false := by simpa using h3
  have e4 : (m == ("steps" : Str)) = false := by simpa using h4
  have e5 : (m == ("taken" : Str)) = false := by simpa using h5
  simp only [bf, List.lookup, e1, e2, e3, e4, e5]
theorem bm_has_site : (bf r t l s n).lookup ("has_site" : Str) = none := bf_none (by decide +kernel) (by decide +kernel) (by decide +kernel) (by decide +kernel) (by decide +kernel)
theorem bm_turn_to : (bf r t l s n).lookup ("turn_to" : Str) = none := bf_none (by decide +kernel) (by decide +kernel) (by decide +kernel) (by decide +kernel) (by decide +kernel)
theorem bm_load : (bf r t l s n).lookup ("load" : Str) = none := bf_none (by decide +kernel) (by decide +kernel) (by decide +kernel) (by decide +kernel) (by decide +kernel)
theorem bm_become : (bf r t l s n).lookup ("become" : Str) = none := bf_none (by decide +kernel) (by decide +kernel) (by decide +kernel) (by decide +kernel) (by decide +kernel)
theorem bm_twin : (bf r t l s n).lookup ("twin" : Str) = none := bf_none (by decide +kernel) (by decide +kernel) (by decide +kernel) (by decide +kernel) (by decide +kernel)
end
/-- a board as it stands in a heap -/
structure BdAt (C : Addr) (H : Hp) (b dx r t l s : Addr) (rows : List (List Int)) (turns loads steps : List Int) (taken : Int) : Prop where
  ins : H b = some (.ins C dx (bf r t l s taken))
  rws : RowsAt H r rows
  tns : H t = some (ilst turns)
  lds : H l = some (ilst loads)
  sts : H s = some (ilst steps)
theorem BdAt.mono {C : Addr} {H H' : Hp} {b dx r t l s : Addr} {rows : List (List Int)} {turns loads steps : List Int} {taken : Int} (h : BdAt C H b dx r t l s rows turns loads steps taken) (q : Same H H') : BdAt C H' b dx r t l s rows turns loads steps taken :=
  ⟨q _ _ h.ins, h.rws.mono q, q _ _ h.tns, q _ _ h.lds, q _ _ h.sts⟩
/-- a board in the ledger, from place i on -/
structure LB (C : Addr) (B : Hp) (L : List (Addr × HO)) (i : Nat) (b dx r t l s : Addr) (rows : List (List Int)) (turns loads steps : List Int) (taken : Int) : Prop where
  ins : L[i]? = some (b, .ins C dx (bf r t l s taken))
  tns : L[i + 1]? = some (t, ilst turns)
  lds : L[i + 2]? = some (l, ilst loads)
  sts : L[i + 3]? = some (s, ilst steps)
  rws : RowsAt B r rows
theorem Led.bd {C : Addr} {B H : Hp} {L : List (Addr × HO)} {i : Nat} {b dx r t l s : Addr} {rows : List (List Int)} {turns loads steps : List Int} {taken : Int} (h : Led B L H) (x : LB C B L i b dx r t l s rows turns loads steps taken) : BdAt C H b dx r t l s rows turns loads steps taken :=
  ⟨h.get _ x.ins, h.ra x.rws, h.get _ x.tns, h.get _ x.lds, h.get _ x.sts⟩
abbrev bl (C : Addr) (b dx r t l s : Addr) (turns loads steps : List Int) (taken : Int) : List (Addr × HO) := [(b, .ins C dx (bf r t l s taken)), (t, ilst turns), (l, ilst loads), (s, ilst steps)]
/-- two ledgers become one -/
theorem Led.merge {B H B1 H' : Hp} {L M : List (Addr × HO)} (h : Led B L H) (s1 : Same H B1) (l1 : Led B1 M H') : ∃ B', Same B B' ∧ Led B' (L ++ M) H' ∧ ∀ q o, B1 q = some o → H q = none → B' q = some o := by
  classical
  have hb : ∀ p, p ∈ L.map Prod.fst → ∃ o, B1 p = some o := fun p m => by
    obtain ⟨o, e⟩ := h.keys m
    exact ⟨o, s1 _ _ e⟩
  refine ⟨fun a => if a ∈ L.map Prod.fst then none else B1 a, fun q o e => ?_, ⟨fun q o e => ?_, fun i p o e => ?_, ?_, fun p z => ?_⟩, fun q o e n => ?_⟩
  · have z : q ∉ L.map Prod.fst := fun m => by
      rw [h.new q m] at e
      cases e
    show (if q ∈ L.map Prod.fst then none else B1 q) = some o
    rw [if_neg z]
    exact s1 _ _ (h.same _ _ e)
  · by_cases z : q ∈ L.map Prod.fst
    · rw [show (if q ∈ L.map Prod.fst then none else B1 q) = none from if_pos z] at e
      cases e
    · rw [show (if q ∈ L.map Prod.fst then none else B1 q) = B1 q from if_neg z] at e
      exact l1.same _ _ e
  · rcases List.mem_append.mp (List.mem_of_getElem? e) with hm | hm
    · exact l1.same _ _ (s1 _ _ (h.mem hm))
    · exact l1.mem hm
  · rw [List.map_append, List.nodup_append]
    refine ⟨h.nd, l1.nd, fun a ha b hb2 e => ?_⟩
    subst e
    obtain ⟨o, q⟩ := hb a ha
    rw [l1.new a hb2] at q
    cases q
  · show (if p ∈ L.map Prod.fst then none else B1 p) = none
    by_cases y : p ∈ L.map Prod.fst
    · exact if_pos y
    · rw [if_neg y]
      rw [List.map_append] at z
      rcases List.mem_append.mp z with z | z
      · exact (y z).elim
      · exact l1.new p z
  · show (if q ∈ L.map Prod.fst then none else B1 q) = some o
    rw [if_neg (h.out n)]
    exact e
/-- a new board -/
def NewB (C : Addr) (H H' : Hp) (b dx r t l s : Addr) (rows : List (List Int)) (turns loads steps : List Int) (taken : Int) : Prop := ∃ B1, Same H B1 ∧ NewRows H B1 r rows ∧ Led B1 (bl C b dx r t l s turns loads steps taken) H'
theorem Led.board {C : Addr} {B H H' : Hp} {L : List (Addr × HO)} {b dx r t l s : Addr} {rows : List (List Int)} {turns loads steps : List Int} {taken : Int} (h : Led B L H) (n : NewB C H H' b dx r t l s rows turns loads steps taken) :
    ∃ B', Same B B' ∧ RowsAt B' r rows ∧ Led B' (L ++ bl C b dx r t l s turns loads steps taken) H' := by
  obtain ⟨B1, s1, ⟨as, e1, e0, e2, e3⟩, l1⟩ := n
  obtain ⟨B', sB, lB, k⟩ := h.merge s1 l1
  exact ⟨B', sB, ⟨as, k _ _ e1 e0, e2, fun i a row h1 h2 => k _ _ (e3 i a row h1 h2).1 (e3 i a row h1 h2).2⟩, lB⟩
theorem NewB.same {C : Addr} {H H' : Hp} {b dx r t l s : Addr} {rows : List (List Int)} {turns loads steps : List Int} {taken : Int} (n : NewB C H H' b dx r t l s rows turns loads steps taken) : Same H H' := by
  obtain ⟨B1, s1, _, l1⟩ := n
  exact s1.trans l1.same
theorem NewB.at_ {C : Addr} {H H' : Hp} {b dx r t l s : Addr} {rows : List (List Int)} {turns loads steps : List Int} {taken : Int} (n : NewB C H H' b dx r t l s rows turns loads steps taken) : BdAt C H' b dx r t l s rows turns loads steps taken := by
  obtain ⟨B1, s1, n1, l1⟩ := n
  exact ⟨l1.get 0 rfl, n1.at_.mono l1.same, l1.get 1 rfl, l1.get 2 rfl, l1.get 3 rfl⟩
def setB (L : List (Addr × HO)) (C : Addr) (i : Nat) (b dx r t l s : Addr) (turns loads steps : List Int) (taken : Int) : List (Addr × HO) :=
  (((L.set i (b, .ins C dx (bf r t l s taken))).set (i + 1) (t, ilst turns)).set (i + 2) (l, ilst loads)).set (i + 3) (s, ilst steps)
theorem nodup_of_ix {α : Type} {l : List α} (h : ∀ (i j : Nat) (x : α), l[i]? = some x → l[j]? = some x → i = j) : l.Nodup := by
  refine List.pairwise_iff_getElem.mpr fun i j hi hj ij e => ?_
  have := h i j l[i] (List.getElem?_eq_getElem hi) (by rw [List.getElem?_eq_getElem hj, e])
  omega
theorem setB_get {L : List (Addr × HO)} {C : Addr} {i : Nat} {b dx r t l s : Addr} {turns loads steps : List Int} {taken : Int} {j : Nat} {p : Addr} {o : HO} (h : (setB L C i b dx r t l s turns loads steps taken)[j]? = some (p, o)) :
    (∃ k, k < 4 ∧ j = i + k ∧ (bl C b dx r t l s turns loads steps taken)[k]? = some (p, o)) ∨ (L[j]? = some (p, o) ∧ ∀ k, k < 4 → j ≠ i + k) := by
  unfold setB at h
  by_cases e3 : i + 3 = j
  · subst e3
    refine .inl ⟨3, by omega, rfl, ?_⟩
    by_cases hl : i + 3 < (((L.set i (b, .ins C dx (bf r t l s taken))).set (i + 1) (t, ilst turns)).set (i + 2) (l, ilst loads)).length
    · rw [List.getElem?_set_self hl] at h
      exact h
    · rw [List.getElem?_eq_none (by rw [List.length_set]; omega)] at h
      cases h
  rw [List.getElem?_set_ne e3] at h
  by_cases e2 : i + 2 = j
  · subst e2
    refine .inl ⟨2, by omega, rfl, ?_⟩
    by_cases hl : i + 2 < ((L.set i (b, .ins C dx (bf r t l s taken))).set (i + 1) (t, ilst turns)).length
    · rw [List.getElem?_set_self hl] at h
      exact h
    · rw [List.getElem?_eq_none (by rw [List.length_set]; omega)] at h
      cases h
  rw [List.getElem?_set_ne e2] at h
  by_cases e1 : i + 1 = j
  · subst e1
    refine .inl ⟨1, by omega, rfl, ?_⟩
    by_cases hl : i + 1 < (L.set i (b, .ins C dx (bf r t l s taken))).length
    · rw [List.getElem?_set_self hl] at h
      exact h
    · rw [List.getElem?_eq_none (by rw [List.length_set]; omega)] at h
      cases h
  rw [List.getElem?_set_ne e1] at h
  by_cases e0 : i = j
  · subst e0
    refine .inl ⟨0, by omega, rfl, ?_⟩
    by_cases hl : i < L.length
    · rw [List.getElem?_set_self hl] at h
      exact h
    · rw [List.getElem?_eq_none (by rw [List.length_set]; omega)] at h
      cases h
  rw [List.getElem?_set_ne e0] at h
  exact .inr ⟨h, fun k hk => by omega⟩
/-- one board of a ledger by itself: what is done to it is done in the ledger -/
theorem Led.focus {C : Addr} {B H : Hp} {L : List (Addr × HO)} {i : Nat} {b dx r t l s : Addr} {rows : List (List Int)} {turns loads steps : List Int} {taken : Int} (h : Led B L H) (x : LB C B L i b dx r t l s rows turns loads steps taken) :
    ∃ B', Same B B' ∧ RowsAt B' r rows ∧ Led B' (bl C b dx r t l s turns loads steps taken) H ∧ (∀ p o, H p = some o → p ≠ b → p ≠ t → p ≠ l → p ≠ s → B' p = some o) ∧
      ∀ (t' l' s' : Addr) (turns' loads' steps' : List Int) (taken' : Int) (H' : Hp), Led B' (bl C b dx r t' l' s' turns' loads' steps' taken') H' → Led B (setB L C i b dx r t' l' s' turns' loads' steps' taken') H' := by
  have kx : ∀ (k : Nat) (p : Addr) (o : HO), (bl C b dx r t l s turns loads steps taken)[k]? = some (p, o) → L[i + k]? = some (p, o) := fun k p o e => by
    match k, e with
    | 0, e => cases e; exact x.ins
    | 1, e => cases e; exact x.tns
    | 2, e => cases e; exact x.lds
    | 3, e => cases e; exact x.sts
    | (n + 4), e => simp at e
  have kl : ∀ {j : Nat} {p : Addr} {o : HO}, L[j]? = some (p, o) → (L.map Prod.fst)[j]? = some p := fun e => by rw [List.getElem?_map, e]; rfl
  have l0 : Led B (bl C b dx r t l s turns loads steps taken) H := by
    refine ⟨h.same, fun k p o e => h.get _ (kx k p o e), nodup_of_ix fun j k p e1 e2 => ?_, fun p hp => ?_⟩
    · rw [List.getElem?_map] at e1 e2
      cases q1 : (bl C b dx r t l s turns loads steps taken)[j]? with
      | none => rw [q1] at e1; cases e1
      | some y1 =>
        cases q2 : (bl C b dx r t l s turns loads steps taken)[k]? with
        | none => rw [q2] at e2; cases e2
        | some y2 =>
          obtain ⟨p1, o1⟩ := y1
          obtain ⟨p2, o2⟩ := y2
          rw [q1] at e1
          rw [q2] at e2
          cases e1
          cases e2
          have := nd_ix h.nd (kl (kx _ _ _ q1)) (kl (kx _ _ _ q2))
          omega
    · obtain ⟨⟨q, o⟩, hm, rfl⟩ := List.mem_map.mp hp
      obtain ⟨k, hk, e⟩ := List.getElem_of_mem hm
      exact h.new q (key_at (kx k q o (by rw [List.getElem?_eq_getElem hk, e])))
  obtain ⟨B', sB, lB, keep⟩ := l0.rebase
  refine ⟨B', sB, x.rws.mono sB, lB, fun p o e n1 n2 n3 n4 => keep p o e (by simp [n1, n2, n3, n4]), fun t' l' s' turns' loads' steps' taken' H' led => ?_⟩
  -- what stands off the board stands in B'
  have off : ∀ (j : Nat) (p : Addr) (o : HO), L[j]? = some (p, o) → (∀ k, k < 4 → j ≠ i + k) → B' p = some o := fun j p o e n => by
    refine keep p o (h.get _ e) fun hm => ?_
    obtain ⟨⟨q, u⟩, hm', rfl⟩ := List.mem_map.mp hm
    obtain ⟨k, hk, e2⟩ := List.getElem_of_mem hm'
    exact n k hk (nd_ix h.nd (kl e) (kl (kx k q u (by rw [List.getElem?_eq_getElem hk, e2]))))
  refine ⟨sB.trans led.same, fun j p o e => ?_, nodup_of_ix fun j k p e1 e2 => ?_, fun p hp => ?_⟩
  · rcases setB_get e with ⟨k, hk, rfl, e'⟩ | ⟨e', n⟩
    · exact led.get k e'
    · exact led.same _ _ (off j p o e' n)
  · rw [List.getElem?_map] at e1 e2
    cases q1 : (setB L C i b dx r t' l' s' turns' loads' steps' taken')[j]? with
    | none => rw [q1] at e1; cases e1
    | some y1 =>
      cases q2 : (setB L C i b dx r t' l' s' turns' loads' steps' taken')[k]? with
      | none => rw [q2] at e2; cases e2
      | some y2 =>
        obtain ⟨p1, o1⟩ := y1
        obtain ⟨p2, o2⟩ := y2
        rw [q1] at e1
        rw [q2] at e2
        cases e1
        cases e2
        rcases setB_get q1 with ⟨a, ha, rfl, z1⟩ | ⟨z1, n1⟩
        · rcases setB_get q2 with ⟨c, hc, rfl, z2⟩ | ⟨z2, n2⟩
          · have := nd_ix led.nd (i := a) (j := c) (x := p1) (by rw [List.getElem?_map, z1]; rfl) (by rw [List.getElem?_map, z2]; rfl)
            omega
          · have y := off _ _ _ z2 n2
            rw [led.new p1 (key_at z1)] at y
            cases y
        · rcases setB_get q2 with ⟨c, hc, rfl, z2⟩ | ⟨z2, n2⟩
          · have y := off _ _ _ z1 n1
            rw [led.new p1 (key_at z2)] at y
            cases y
          · exact nd_ix h.nd (kl z1) (kl z2)
  · obtain ⟨⟨q, o⟩, hm, rfl⟩ := List.mem_map.mp hp
    obtain ⟨j, hj, e⟩ := List.getElem_of_mem hm
    rcases setB_get (by rw [List.getElem?_eq_getElem hj, e]) with ⟨k, hk, rfl, e'⟩ | ⟨e', n⟩
    · cases z : B q with
      | none => rfl
      | some u =>
        have y := sB _ _ z
        rw [led.new q (key_at e')] at y
        cases y
    · exact h.new q (key_at e')
/-- an object of the ledger replaced by a new one -/
theorem Led.swap {B H H' : Hp} {L : List (Addr × HO)} (h : Led B L H) {i : Nat} {p q : Addr} {o o' : HO} (e : L[i]? = some (p, o)) (n : H q = none) (s : Same H H') (hq : H' q = some o') : Led B (L.set i (q, o')) H' := by
  have hl : i < L.length := (List.getElem?_eq_some_iff.mp e).1
  have hk : ∀ x, x ∈ (L.set i (q, o')).map Prod.fst → x = q ∨ x ∈ L.map Prod.fst := fun x hx => by
    obtain ⟨⟨y, u⟩, hm, rfl⟩ := List.mem_map.mp hx
    rcases List.mem_or_eq_of_mem_set hm with hm | hm
    · exact .inr (List.mem_map.mpr ⟨_, hm, rfl⟩)
    · cases hm
      exact .inl rfl
  refine ⟨h.same.trans s, fun j p2 o2 z => ?_, ?_, fun x hx => ?_⟩
  · by_cases ij : i = j
    · subst ij
      rw [List.getElem?_set_self hl] at z
      cases z
      exact hq
    · rw [List.getElem?_set_ne ij] at z
      exact s _ _ (h.at_ j p2 o2 z)
  · rw [List.map_set]
    have hqn : ∀ (m : Nat) (hm : m < (L.map Prod.fst).length), (L.map Prod.fst)[m] ≠ q := fun m hm z => h.out n (by rw [← z]; exact List.getElem_mem hm)
    refine List.pairwise_iff_getElem.mpr fun j k hj hk2 hjk => ?_
    have hj' : j < (L.map Prod.fst).length := by simpa using hj
    have hk' : k < (L.map Prod.fst).length := by simpa using hk2
    have base := (List.pairwise_iff_getElem.mp h.nd) j k hj' hk' hjk
    rw [List.getElem_set, List.getElem_set]
    split
    · split
      · omega
      · exact (hqn k hk').symm
    · split
      · exact hqn j hj'
      · exact base
  · rcases hk x hx with rfl | hx
    · exact h.same.free n
    · exact h.new x hx

/-! Loops and comprehensions over the ledger -/
section
variable {K : PySem.W.Frag} {σ : L2.St} {H : Hp} {D : Ends} {tb : TS} {i : Nat}
/-- what a for over a range leaves to be shown -/
def LoopR (lo : Int) (n i : Nat) (tb : TS) (D : Ends) (σ : L2.St) (H : Hp) : Prop := ∃ W : Nat → Nat → L2.St → Hp → Prop, (∃ m, W 0 m σ H) ∧ ∀ k m σ H, W k m σ H →
  ((Itr lo n).stop k H ∧ D.nx σ H) ∨ ((Itr lo n).go k H ∧ ∃ N : L2.St → Hp → Prop, (∀ σ' H', N σ' H' → ∃ m', m' < m ∧ W (k + 1) m' σ' H') ∧ ∀ x H', (Itr lo n).yld k H x H' → gName i x σ H' fun σ2 H2 => tb { D with nx := N, ct := N, bk := D.nx } σ2 H2)
def LoopL (K : PySem.W.Frag) (a : Addr) (i : Nat) (tb : TS) (D : Ends) (σ : L2.St) (H : Hp) : Prop := ∃ W : Nat → Nat → L2.St → Hp → Prop, (∃ m, W 0 m σ H) ∧ ∀ k m σ H, W k m σ H →
  ((Itl K a).stop k H ∧ D.nx σ H) ∨ ((Itl K a).go k H ∧ ∃ N : L2.St → Hp → Prop, (∀ σ' H', N σ' H' → ∃ m', m' < m ∧ W (k + 1) m' σ' H') ∧ ∀ x H', (Itl K a).yld k H x H' → gName i x σ H' fun σ2 H2 => tb { D with nx := N, ct := N, bk := D.nx } σ2 H2)
theorem g_for1 {ta : TA} (h : ta σ H fun vs H1 => ∃ j : Int, vs = [.int j] ∧ -(2 ^ 62) ≤ j ∧ j < 2 ^ 62 ∧ LoopR 0 j.toNat i tb D σ H1) : tFor (iRng1 ta) (gName i) tb D σ H := h
theorem g_for2 {ta : TA} (h : ta σ H fun vs H1 => ∃ j k : Int, vs = [.int j, .int k] ∧ (-(2 ^ 62) ≤ j ∧ j < 2 ^ 62 ∧ -(2 ^ 62) ≤ k ∧ k < 2 ^ 62) ∧ LoopR j (k - j).toNat i tb D σ H1) : tFor (iRng2 ta) (gName i) tb D σ H := h
theorem g_forL {te : TE} (h : te σ H fun x H1 => ∃ a, x = .ref a ∧ (∃ xs, SqL K H1 a xs) ∧ LoopL K a i tb D σ H1) : tFor (iList K te) (gName i) tb D σ H := h
theorem g_rng1 {j : Int} {R : Int → Prop} (h1 : -(2 ^ 62) ≤ j) (h2 : j < 2 ^ 62) (h : R j) : ∃ k : Int, [V.int j] = [V.int k] ∧ -(2 ^ 62) ≤ k ∧ k < 2 ^ 62 ∧ R k := ⟨j, rfl, h1, h2, h⟩
theorem g_rng2 {a b : Int} {R : Int → Int → Prop} (h1 : -(2 ^ 62) ≤ a) (h2 : a < 2 ^ 62) (h3 : -(2 ^ 62) ≤ b) (h4 : b < 2 ^ 62) (h : R a b) : ∃ j k : Int, [V.int a, V.int b] = [V.int j, V.int k] ∧ (-(2 ^ 62) ≤ j ∧ j < 2 ^ 62 ∧ -(2 ^ 62) ≤ k ∧ k < 2 ^ 62) ∧ R j k := ⟨a, b, rfl, ⟨h1, h2, h3, h4⟩, h⟩
theorem g_lstw {a : Addr} {xs : List V} {R : Addr → Prop} (s : SqL K H a xs) (h : R a) : ∃ b, V.ref a = .ref b ∧ (∃ xs, SqL K H b xs) ∧ R b := ⟨a, rfl, ⟨xs, s⟩, h⟩
theorem loopR {lo : Int} {n : Nat} (Pv : Nat → L2.St → Hp → Prop) (h0 : Pv 0 σ H)
    (hs : ∀ k σ H, k < n → Pv k σ H → tb { D with nx := Pv (k + 1), ct := Pv (k + 1), bk := D.nx } (σ.set i (some (.int (lo + k)))) H) (hd : ∀ σ H, Pv n σ H → D.nx σ H) : LoopR lo n i tb D σ H :=
  for_range (g := gName i) Pv h0 hs hd
theorem loopL {a : Addr} {xs : List V} (Pv : Nat → L2.St → Hp → Prop) (h0 : Pv 0 σ H) (hl : ∀ k σ H, k ≤ xs.length → Pv k σ H → SqL K H a xs)
    (hs : ∀ k x σ H, xs[k]? = some x → Pv k σ H → tb { D with nx := Pv (k + 1), ct := Pv (k + 1), bk := D.nx } (σ.set i (some x)) H) (hd : ∀ σ H, Pv xs.length σ H → D.nx σ H) : LoopL K a i tb D σ H :=
  for_list (g := gName i) Pv h0 hl hs hd
/-- over a list of ints -/
theorem loopI {a : Addr} {ns : List Int} (Pv : Nat → L2.St → Hp → Prop) (h0 : Pv 0 σ H) (hl : ∀ k σ H, k ≤ ns.length → Pv k σ H → SqL K H a (ns.map V.int))
    (hs : ∀ k σ H, k < ns.length → Pv k σ H → tb { D with nx := Pv (k + 1), ct := Pv (k + 1), bk := D.nx } (σ.set i (some (.int (ns.getD k 0)))) H) (hd : ∀ σ H, Pv ns.length σ H → D.nx σ H) : LoopL K a i tb D σ H :=
  loopL (xs := ns.map V.int) Pv h0 (fun k σ H hk => hl k σ H (by simpa using hk)) (fun k x σ H hx p => by
    have hk : k < ns.length := by
      have := (List.getElem?_eq_some_iff.mp hx).1
      simpa using this
    have e : x = .int (ns.getD k 0) := by
      rw [List.getElem?_map, List.getElem?_eq_getElem hk] at hx
      rw [List.getD_eq_getElem?_getD, List.getElem?_eq_getElem hk]
      exact (Option.some.inj hx).symm
    rw [e]
    exact hs k σ H hk p) (fun σ H p => hd σ H (by rw [List.length_map] at p; exact p))
/-- over rows -/
theorem loopRows {a : Addr} {rows : List (List Int)} (Pv : Nat → L2.St → Hp → Prop) (h0 : Pv 0 σ H) (R : RowsAt H a rows) (hl : ∀ k σ H', Pv k σ H' → Same H H')
    (hs : ∀ k r σ H', k < rows.length → Pv k σ H' → SqL K H' r ((rows.getD k []).map V.int) → tb { D with nx := Pv (k + 1), ct := Pv (k + 1), bk := D.nx } (σ.set i (some (.ref r))) H') (hd : ∀ σ H, Pv rows.length σ H → D.nx σ H) : LoopL K a i tb D σ H := by
  obtain ⟨as, e1, e2, e3⟩ := R
  refine loopL (xs := as.map V.ref) Pv h0 (fun k σ H' _ p => SqL.of (hl k σ H' p _ _ e1)) (fun k x σ H' hx p => ?_) (fun σ H p => hd σ H (by rw [List.length_map, e2] at p; exact p))
  have hk : k < as.length := by
    have := (List.getElem?_eq_some_iff.mp hx).1
    simpa using this
  have hk2 : k < rows.length := by omega
  rw [List.getElem?_map, List.getElem?_eq_getElem hk] at hx
  cases hx
  refine hs k _ σ H' hk2 p (SqL.of (hl k σ H' p _ _ ?_))
  rw [List.getD_eq_getElem?_getD, List.getElem?_eq_getElem hk2]
  exact e3 k _ _ (List.getElem?_eq_getElem hk) (List.getElem?_eq_getElem hk2)
theorem while_led {c : TT} (Pv : L2.St → Hp → Prop) (m : L2.St → Hp → Nat) (h0 : Pv σ H)
    (hs : ∀ σ H, Pv σ H → c σ H fun b H1 => if b = true then tb { D with nx := fun σ' H' => Pv σ' H' ∧ m σ' H' < m σ H, ct := fun σ' H' => Pv σ' H' ∧ m σ' H' < m σ H, bk := D.nx } σ H1 else D.nx σ H1)
    (mono : ∀ σ H Q Q', (∀ b H1, Q b H1 → Q' b H1) → c σ H Q → c σ H Q') : tWhile c tb D σ H := while_by Pv m h0 hs mono
end
/-! ### comprehensions -/
section
variable {K : PySem.W.Frag} {σ : L2.St} {H : Hp} {Q : VK} {te : TE} {tt : TT} {i : Nat} {vs : List Nat}
def LcR (lo : Int) (n i : Nat) (tt : TT) (te : TE) (vs : List Nat) (σ : L2.St) (H1 : Hp) (Q : VK) : Prop := ∀ D, H1 D = none → ∃ W : Nat → Nat → Hp → Prop, (∃ m, W 0 m (upd H1 D (.lst []))) ∧ ∀ k m H, W k m H →
  ((Itr lo n).stop k H ∧ Q (.ref D) H) ∨ ((Itr lo n).go k H ∧ ∃ Nx : Hp → Prop, (∀ H', Nx H' → ∃ m', m' < m ∧ W (k + 1) m' H') ∧ ∀ x H', (Itr lo n).yld k H x H' → gName i x (wipe σ vs) H' fun σ2 H2 => wipe σ2 vs = wipe σ vs ∧ tt σ2 H2 fun b H3 =>
    if b = true then te σ2 H3 fun y H4 => ∃ acc, H4 D = some (.lst acc) ∧ acc.length < sizeLine ∧ Nx (upd H4 D (.lst (acc ++ [y]))) else Nx H3)
def LcL (K : PySem.W.Frag) (a : Addr) (i : Nat) (tt : TT) (te : TE) (vs : List Nat) (σ : L2.St) (H1 : Hp) (Q : VK) : Prop := ∀ D, H1 D = none → ∃ W : Nat → Nat → Hp → Prop, (∃ m, W 0 m (upd H1 D (.lst []))) ∧ ∀ k m H, W k m H →
  ((Itl K a).stop k H ∧ Q (.ref D) H) ∨ ((Itl K a).go k H ∧ ∃ Nx : Hp → Prop, (∀ H', Nx H' → ∃ m', m' < m ∧ W (k + 1) m' H') ∧ ∀ x H', (Itl K a).yld k H x H' → gName i x (wipe σ vs) H' fun σ2 H2 => wipe σ2 vs = wipe σ vs ∧ tt σ2 H2 fun b H3 =>
    if b = true then te σ2 H3 fun y H4 => ∃ acc, H4 D = some (.lst acc) ∧ acc.length < sizeLine ∧ Nx (upd H4 D (.lst (acc ++ [y]))) else Nx H3)
theorem g_lc1 {ta : TA} (h : ta σ H fun vs' H1 => ∃ j : Int, vs' = [.int j] ∧ -(2 ^ 62) ≤ j ∧ j < 2 ^ 62 ∧ LcR 0 j.toNat i tt te vs σ H1 Q) : tLc (iRng1 ta) (gName i) tt te vs σ H Q := h
theorem g_lcL {tl : TE} (h : tl σ H fun x H1 => ∃ a, x = .ref a ∧ (∃ xs, SqL K H1 a xs) ∧ LcL K a i tt te vs σ H1 Q) : tLc (iList K tl) (gName i) tt te vs σ H Q := h
theorem g_yes {R : Bool → Hp → Prop} (h : R true H) : tYes σ H R := h
/-- a comprehension over a range, no test; Pv of the turn and the heap, the list at D within -/
theorem lcR {lo : Int} {n : Nat} (Pv : Addr → Nat → Hp → Prop) (h0 : ∀ D, H D = none → Pv D 0 (upd H D (.lst [])))
    (hw : ∀ x : Int, wipe ((wipe σ vs).set i (some (.int x))) vs = wipe σ vs)
    (hs : ∀ D k H1, H D = none → k < n → Pv D k H1 → te ((wipe σ vs).set i (some (.int (lo + k)))) H1 fun y H4 => ∃ acc, H4 D = some (.lst acc) ∧ acc.length < sizeLine ∧ Pv D (k + 1) (upd H4 D (.lst (acc ++ [y]))))
    (hd : ∀ D H1, H D = none → Pv D n H1 → Q (.ref D) H1) : LcR lo n i tYes te vs σ H Q := fun D nD =>
  lc_range (g := gName i) (Pv D) (h0 D nD) (fun k H1 hk p => ⟨hw _, iteT (B := Pv D (k + 1) H1) (hs D k H1 nD hk p)⟩) (fun H1 p => hd D H1 nD p)
theorem lcL {a : Addr} {xs : List V} (Pv : Addr → Nat → Hp → Prop) (h0 : ∀ D, H D = none → Pv D 0 (upd H D (.lst []))) (hl : ∀ D k H1, k ≤ xs.length → Pv D k H1 → SqL K H1 a xs)
    (hw : ∀ x : V, wipe ((wipe σ vs).set i (some x)) vs = wipe σ vs)
    (hs : ∀ D k x H1, H D = none → xs[k]? = some x → Pv D k H1 → te ((wipe σ vs).set i (some x)) H1 fun y H4 => ∃ acc, H4 D = some (.lst acc) ∧ acc.length < sizeLine ∧ Pv D (k + 1) (upd H4 D (.lst (acc ++ [y]))))
    (hd : ∀ D H1, H D = none → Pv D xs.length H1 → Q (.ref D) H1) : LcL K a i tYes te vs σ H Q := fun D nD =>
  lc_list (g := gName i) (Pv D) (h0 D nD) (fun k H1 hk p => hl D k H1 hk p) (fun k x H1 hx p => ⟨hw _, iteT (B := Pv D (k + 1) H1) (hs D k x H1 nD hx p)⟩) (fun H1 p => hd D H1 nD p)
/-- .. with a test that is kept to the range's numbers -/
theorem lcRT {lo : Int} {n : Nat} (Pv : Addr → Nat → Hp → Prop) (h0 : ∀ D, H D = none → Pv D 0 (upd H D (.lst [])))
    (hw : ∀ x : Int, wipe ((wipe σ vs).set i (some (.int x))) vs = wipe σ vs)
    (hs : ∀ D k H1, H D = none → k < n → Pv D k H1 → tt ((wipe σ vs).set i (some (.int (lo + k)))) H1 fun b H3 => if b = true then te ((wipe σ vs).set i (some (.int (lo + k)))) H3 fun y H4 => ∃ acc, H4 D = some (.lst acc) ∧ acc.length < sizeLine ∧ Pv D (k + 1) (upd H4 D (.lst (acc ++ [y]))) else Pv D (k + 1) H3)
    (hd : ∀ D H1, H D = none → Pv D n H1 → Q (.ref D) H1) : LcR lo n i tt te vs σ H Q := fun D nD =>
  lc_range (g := gName i) (Pv D) (h0 D nD) (fun k H1 hk p => ⟨hw _, hs D k H1 nD hk p⟩) (fun H1 p => hd D H1 nD p)
/-- over a list from its end -/
def LcV (K : PySem.W.Frag) (a : Addr) (n i : Nat) (tt : TT) (te : TE) (vs : List Nat) (σ : L2.St) (H1 : Hp) (Q : VK) : Prop := ∀ D, H1 D = none → ∃ W : Nat → Nat → Hp → Prop, (∃ m, W 0 m (upd H1 D (.lst []))) ∧ ∀ k m H, W k m H →
  ((Itv K a n).stop k H ∧ Q (.ref D) H) ∨ ((Itv K a n).go k H ∧ ∃ Nx : Hp → Prop, (∀ H', Nx H' → ∃ m', m' < m ∧ W (k + 1) m' H') ∧ ∀ x H', (Itv K a n).yld k H x H' → gName i x (wipe σ vs) H' fun σ2 H2 => wipe σ2 vs = wipe σ vs ∧ tt σ2 H2 fun b H3 =>
    if b = true then te σ2 H3 fun y H4 => ∃ acc, H4 D = some (.lst acc) ∧ acc.length < sizeLine ∧ Nx (upd H4 D (.lst (acc ++ [y]))) else Nx H3)
theorem g_lcV {ta : TA} (h : ta σ H fun vs' H1 => ∃ (a : Addr) (xs : List V), vs' = [.ref a] ∧ SqL K H1 a xs ∧ LcV K a xs.length i tt te vs σ H1 Q) : tLc (iRev K ta) (gName i) tt te vs σ H Q := h
theorem g_lstv {a : Addr} {xs : List V} {R : Addr → List V → Prop} (s : SqL K H a xs) (h : R a xs) : ∃ (b : Addr) (ys : List V), [V.ref a] = [.ref b] ∧ SqL K H b ys ∧ R b ys := ⟨a, xs, rfl, s, h⟩
theorem lcV {a : Addr} {xs : List V} (Pv : Addr → Nat → Hp → Prop) (h0 : ∀ D, H D = none → Pv D 0 (upd H D (.lst []))) (hl : ∀ D k H1, Pv D k H1 → SqL K H1 a xs)
    (hw : ∀ x : V, wipe ((wipe σ vs).set i (some x)) vs = wipe σ vs)
    (hs : ∀ D k x H1, H D = none → k < xs.length → xs[xs.length - 1 - k]? = some x → Pv D k H1 → te ((wipe σ vs).set i (some x)) H1 fun y H4 => ∃ acc, H4 D = some (.lst acc) ∧ acc.length < sizeLine ∧ Pv D (k + 1) (upd H4 D (.lst (acc ++ [y]))))
    (hd : ∀ D H1, H D = none → Pv D xs.length H1 → Q (.ref D) H1) : LcV K a xs.length i tYes te vs σ H Q := fun D nD => by
  refine ⟨fun k m H1 => m = xs.length - k ∧ k ≤ xs.length ∧ Pv D k H1, ⟨xs.length, rfl, Nat.zero_le _, h0 D nD⟩, ?_⟩
  rintro k m H1 ⟨rfl, hk, p⟩
  by_cases hlt : k < xs.length
  · have hx : xs[xs.length - 1 - k]? = some xs[xs.length - 1 - k] := List.getElem?_eq_getElem (by omega)
    refine .inr ⟨⟨hlt, xs, _, hl D k H1 p, hx⟩, Pv D (k + 1), fun H' p' => ⟨xs.length - (k + 1), by omega, rfl, hlt, p'⟩, fun v H' y => ?_⟩
    obtain ⟨e, hy⟩ := y
    subst e
    exact ⟨hw v, iteT (B := Pv D (k + 1) H') (hs D k v H' nD hlt (hy xs (hl D k _ p)) p)⟩
  · have e : k = xs.length := by omega
    subst e
    exact .inl ⟨Nat.le_refl _, hd D H1 nD p⟩

/-! ### lists of ints -/
/-- the list at D as it grows, over what stood (H) -/
def IntsUp (H : Hp) (P : List Int → Prop) (D : Addr) (k : Nat) (H1 : Hp) : Prop := ∃ ns : List Int, ns.length = k ∧ P ns ∧ Led H [(D, ilst ns)] H1
theorem IntsUp.start {P : List Int → Prop} (h0 : P []) (D : Addr) (nD : H D = none) : IntsUp H P D 0 (upd H D (.lst [])) := ⟨[], rfl, h0, (Led.nil H).alloc nD _⟩
theorem ints_push {H H2 : Hp} {D : Addr} {ns : List Int} {x : Int} (h : Led H [(D, ilst ns)] H2) : Led H [(D, ilst (ns ++ [x]))] (upd H2 D (.lst (ns.map V.int ++ [V.int x]))) := by
  have z := h.set (i := 0) rfl (.lst (ns.map V.int ++ [V.int x]))
  have e2 : ilst (ns ++ [x]) = .lst (ns.map V.int ++ [V.int x]) := by rw [ilst, List.map_append]; rfl
  rw [e2]
  exact z
theorem IntsUp.step {P : List Int → Prop} {D : Addr} {k : Nat} {ns : List Int} {x : Int} {H2 : Hp} (e : ns.length = k) (hk : k < 100000) (p : P (ns ++ [x])) (l : Led H [(D, ilst ns)] H2) :
    ∃ acc, H2 D = some (.lst acc) ∧ acc.length < sizeLine ∧ IntsUp H P D (k + 1) (upd H2 D (.lst (acc ++ [V.int x]))) :=
  ⟨ns.map V.int, l.get 0 rfl, by rw [List.length_map]; exact Nat.lt_of_lt_of_le (show ns.length < 100000 by omega) (by decide), ns ++ [x], by rw [List.length_append, e]; rfl, p, ints_push l⟩
theorem lcRI {lo : Int} {n : Nat} (P : List Int → Prop) (h0 : P []) (hn : n ≤ 100000) (hw : ∀ x : Int, wipe ((wipe σ vs).set i (some (.int x))) vs = wipe σ vs)
    (hs : ∀ D k ns H1 (R : VK), k < n → ns.length = k → P ns → Led H [(D, ilst ns)] H1 → (∀ x H2, P (ns ++ [x]) → Led H [(D, ilst ns)] H2 → R (.int x) H2) → te ((wipe σ vs).set i (some (.int (lo + k)))) H1 R)
    (hd : ∀ D ns H1, H D = none → ns.length = n → P ns → Same H H1 → H1 D = some (ilst ns) → Q (.ref D) H1) : LcR lo n i tYes te vs σ H Q :=
  lcR (IntsUp H P) (fun D nD => IntsUp.start h0 D nD) hw (fun D k H1 nD hk ⟨ns, e, p1, l1⟩ => hs D k ns H1 _ hk e p1 l1 fun x H2 p2 l2 => IntsUp.step e (by omega) p2 l2)
    (fun D H1 nD ⟨ns, e, p1, l1⟩ => hd D ns H1 nD e p1 l1.same (l1.get 0 rfl))
theorem lcLI {a : Addr} {xs : List V} (P : List Int → Prop) (h0 : P []) (hn : xs.length ≤ 100000) (s : SqL K H a xs) (hw : ∀ x : V, wipe ((wipe σ vs).set i (some x)) vs = wipe σ vs)
    (hs : ∀ D k v ns H1 (R : VK), xs[k]? = some v → ns.length = k → P ns → Led H [(D, ilst ns)] H1 → (∀ x H2, P (ns ++ [x]) → Led H [(D, ilst ns)] H2 → R (.int x) H2) → te ((wipe σ vs).set i (some v)) H1 R)
    (hd : ∀ D ns H1, H D = none → ns.length = xs.length → P ns → Same H H1 → H1 D = some (ilst ns) → Q (.ref D) H1) : LcL K a i tYes te vs σ H Q :=
  lcL (xs := xs) (IntsUp H P) (fun D nD => IntsUp.start h0 D nD) (fun D k H1 _ ⟨ns, e, p1, l1⟩ => l1.base s) hw
    (fun D k v H1 nD hx ⟨ns, e, p1, l1⟩ => hs D k v ns H1 _ hx e p1 l1 fun x H2 p2 l2 => IntsUp.step e (by have := (List.getElem?_eq_some_iff.mp hx).1; omega) p2 l2)
    (fun D H1 nD ⟨ns, e, p1, l1⟩ => hd D ns H1 nD e p1 l1.same (l1.get 0 rfl))
/-- noughts, one for each item -/
theorem lcL0 {a : Addr} {xs : List V} (z : Int) (hn : xs.length ≤ 100000) (s : SqL K H a xs) (hw : ∀ x : V, wipe ((wipe σ vs).set i (some x)) vs = wipe σ vs)
    (hd : ∀ D H1, H D = none → Same H H1 → H1 D = some (ilst (List.replicate xs.length z)) → Q (.ref D) H1) : LcL K a i tYes (tC (.int z)) vs σ H Q :=
  lcLI (fun ns => ns = List.replicate ns.length z) rfl hn s hw (fun D k v ns H1 R hx e p l q => q z H1 (by rw [List.length_append, p, ← List.replicate_append_replicate, List.length_replicate]; rfl) l)
    (fun D ns H1 nD e p sm hh => hd D H1 nD sm (by rw [← e, ← p]; exact hh))

/-! ### lists of rows -/
def rowLed (D : Addr) (as : List Addr) (rows : List (List Int)) : List (Addr × HO) := (D, .lst (as.map V.ref)) :: List.zipWith (fun a row => (a, ilst row)) as rows
theorem zip_at {as : List Addr} {rows : List (List Int)} {j : Nat} {a : Addr} {row : List Int} (e1 : as[j]? = some a) (e2 : rows[j]? = some row) : (List.zipWith (fun a row => (a, ilst row)) as rows)[j]? = some (a, ilst row) := by
  rw [List.getElem?_zipWith, e1, e2]
theorem Led.rowAt {B H1 : Hp} {D : Addr} {as : List Addr} {rows : List (List Int)} (l : Led B (rowLed D as rows) H1) (e : as.length = rows.length) : RowsAt H1 D rows :=
  ⟨as, l.get 0 rfl, e, fun j a row e1 e2 => l.get (j + 1) (show (rowLed D as rows)[j + 1]? = some (a, ilst row) from zip_at e1 e2)⟩
theorem Led.rowNew {H1 : Hp} {D : Addr} {as : List Addr} {rows : List (List Int)} (l : Led H (rowLed D as rows) H1) (e : as.length = rows.length) : NewRows H H1 D rows :=
  ⟨as, l.get 0 rfl, l.new D (key_at (i := 0) (o := .lst (as.map V.ref)) rfl), e, fun j a row e1 e2 => ⟨l.get (j + 1) (show (rowLed D as rows)[j + 1]? = some (a, ilst row) from zip_at e1 e2), l.new a (key_at (i := j + 1) (o := ilst row) (show (rowLed D as rows)[j + 1]? = some (a, ilst row) from zip_at e1 e2))⟩⟩
theorem rowLed_push {D r : Addr} {as : List Addr} {rows : List (List Int)} {row : List Int} (h : as.length = rows.length) :
    (rowLed D as rows ++ [(r, ilst row)]).set 0 (D, .lst (as.map V.ref ++ [V.ref r])) = rowLed D (as ++ [r]) (rows ++ [row]) := by
  show (D, HO.lst (as.map V.ref ++ [V.ref r])) :: (List.zipWith (fun a row => (a, ilst row)) as rows ++ [(r, ilst row)]) = _
  rw [rowLed, List.zipWith_append h, List.map_append]
  rfl
def RowsUp (H : Hp) (P : List (List Int) → Prop) (D : Addr) (k : Nat) (H1 : Hp) : Prop := ∃ (as : List Addr) (rows : List (List Int)), as.length = rows.length ∧ rows.length = k ∧ P rows ∧ Led H (rowLed D as rows) H1
theorem RowsUp.start {P : List (List Int) → Prop} (h0 : P []) (D : Addr) (nD : H D = none) : RowsUp H P D 0 (upd H D (.lst [])) := ⟨[], [], rfl, rfl, h0, (Led.nil H).alloc nD _⟩
theorem RowsUp.step {P : List (List Int) → Prop} {D r : Addr} {k : Nat} {as : List Addr} {rows : List (List Int)} {row : List Int} {H2 : Hp} (e0 : as.length = rows.length) (e : rows.length = k) (hk : k < 100000) (p : P (rows ++ [row])) (l : Led H (rowLed D as rows ++ [(r, ilst row)]) H2) :
    ∃ acc, H2 D = some (.lst acc) ∧ acc.length < sizeLine ∧ RowsUp H P D (k + 1) (upd H2 D (.lst (acc ++ [V.ref r]))) := by
  refine ⟨as.map V.ref, l.get 0 rfl, by rw [List.length_map]; exact Nat.lt_of_lt_of_le (show as.length < 100000 by omega) (by decide), as ++ [r], rows ++ [row], by simp [e0], by simp [e], p, ?_⟩
  rw [← rowLed_push e0]
  exact l.set (i := 0) rfl _
theorem lcRRows {lo : Int} {n : Nat} (P : List (List Int) → Prop) (h0 : P []) (hn : n ≤ 100000) (hw : ∀ x : Int, wipe ((wipe σ vs).set i (some (.int x))) vs = wipe σ vs)
    (hs : ∀ D k as rows H1 (R : VK), k < n → rows.length = k → P rows → Led H (rowLed D as rows) H1 → (∀ r row H2, P (rows ++ [row]) → Led H (rowLed D as rows ++ [(r, ilst row)]) H2 → R (.ref r) H2) → te ((wipe σ vs).set i (some (.int (lo + k)))) H1 R)
    (hd : ∀ D rows H1, rows.length = n → P rows → Same H H1 → NewRows H H1 D rows → Q (.ref D) H1) : LcR lo n i tYes te vs σ H Q :=
  lcR (RowsUp H P) (fun D nD => RowsUp.start h0 D nD) hw (fun D k H1 nD hk ⟨as, rows, e0, e, p1, l1⟩ => hs D k as rows H1 _ hk e p1 l1 fun r row H2 p2 l2 => RowsUp.step e0 e (by omega) p2 l2)
    (fun D H1 nD ⟨as, rows, e0, e, p1, l1⟩ => hd D rows H1 e p1 l1.same (l1.rowNew e0))
theorem lcLRows {a : Addr} {xs : List V} (P : List (List Int) → Prop) (h0 : P []) (hn : xs.length ≤ 100000) (s : SqL K H a xs) (hw : ∀ x : V, wipe ((wipe σ vs).set i (some x)) vs = wipe σ vs)
    (hs : ∀ D k v as rows H1 (R : VK), xs[k]? = some v → rows.length = k → P rows → Led H (rowLed D as rows) H1 → (∀ r row H2, P (rows ++ [row]) → Led H (rowLed D as rows ++ [(r, ilst row)]) H2 → R (.ref r) H2) → te ((wipe σ vs).set i (some v)) H1 R)
    (hd : ∀ D rows H1, rows.length = xs.length → P rows → Same H H1 → NewRows H H1 D rows → Q (.ref D) H1) : LcL K a i tYes te vs σ H Q :=
  lcL (xs := xs) (RowsUp H P) (fun D nD => RowsUp.start h0 D nD) (fun D k H1 _ ⟨as, rows, e0, e, p1, l1⟩ => l1.base s) hw
    (fun D k v H1 nD hx ⟨as, rows, e0, e, p1, l1⟩ => hs D k v as rows H1 _ hx e p1 l1 fun r row H2 p2 l2 => RowsUp.step e0 e (by have := (List.getElem?_eq_some_iff.mp hx).1; omega) p2 l2)
    (fun D H1 nD ⟨as, rows, e0, e, p1, l1⟩ => hd D rows H1 e p1 l1.same (l1.rowNew e0))
theorem lcVRows {a : Addr} {xs : List V} (P : List (List Int) → Prop) (h0 : P []) (hn : xs.length ≤ 100000) (s : SqL K H a xs) (hw : ∀ x : V, wipe ((wipe σ vs).set i (some x)) vs = wipe σ vs)
    (hs : ∀ D k v as rows H1 (R : VK), k < xs.length → xs[xs.length - 1 - k]? = some v → rows.length = k → P rows → Led H (rowLed D as rows) H1 → (∀ r row H2, P (rows ++ [row]) → Led H (rowLed D as rows ++ [(r, ilst row)]) H2 → R (.ref r) H2) → te ((wipe σ vs).set i (some v)) H1 R)
    (hd : ∀ D rows H1, rows.length = xs.length → P rows → Same H H1 → NewRows H H1 D rows → Q (.ref D) H1) : LcV K a xs.length i tYes te vs σ H Q :=
  lcV (xs := xs) (RowsUp H P) (fun D nD => RowsUp.start h0 D nD) (fun D k H1 ⟨as, rows, e0, e, p1, l1⟩ => l1.base s) hw
    (fun D k v H1 nD hk hx ⟨as, rows, e0, e, p1, l1⟩ => hs D k v as rows H1 _ hk hx e p1 l1 fun r row H2 p2 l2 => RowsUp.step e0 e (by omega) p2 l2)
    (fun D H1 nD ⟨as, rows, e0, e, p1, l1⟩ => hd D rows H1 e p1 l1.same (l1.rowNew e0))
/-- an item of rows, by its address -/
theorem RowsAt.sq {p : Addr} {rows : List (List Int)} (R : RowsAt H p rows) : ∃ as : List Addr, SqL K H p (as.map V.ref) ∧ as.length = rows.length ∧ ∀ (k : Nat) (v : V), (as.map V.ref)[k]? = some v → ∃ r, v = .ref r ∧ k < rows.length ∧ SqL K H r ((rows.getD k []).map V.int) := by
  obtain ⟨as, e1, e2, e3⟩ := R
  refine ⟨as, SqL.of e1, e2, fun k v hv => ?_⟩
  have hk : k < as.length := by
    have := (List.getElem?_eq_some_iff.mp hv).1
    simpa using this
  have hk2 : k < rows.length := by omega
  rw [List.getElem?_map, List.getElem?_eq_getElem hk] at hv
  cases hv
  refine ⟨_, rfl, hk2, SqL.of ?_⟩
  rw [List.getD_eq_getElem?_getD, List.getElem?_eq_getElem hk2]
  exact e3 k _ _ (List.getElem?_eq_getElem hk) (List.getElem?_eq_getElem hk2)
theorem RowsAt.sql {p : Addr} {rows : List (List Int)} (R : RowsAt H p rows) : ∃ xs, SqL K H p xs := by
  obtain ⟨as, e1, _⟩ := R
  exact ⟨_, SqL.of e1⟩
theorem g_lstwR {a : Addr} {rows : List (List Int)} {R : Addr → Prop} (s : RowsAt H a rows) (h : R a) : ∃ b, V.ref a = .ref b ∧ (∃ xs, SqL K H b xs) ∧ R b := ⟨a, rfl, s.sql, h⟩
theorem g_list {p : Addr} {xs : List V} (s : SqL K H p xs) (h : ∀ l, H l = none → Q (.ref l) (upd H l (.lst xs))) : mList K [.ref p] H Q := ⟨p, xs, rfl, .inl s, h⟩
theorem lcRows0 {a : Addr} {rows : List (List Int)} {z : Int} (R : RowsAt H a rows) (hn : rows.length ≤ 100000) (hw : ∀ x : V, wipe ((wipe σ vs).set i (some x)) vs = wipe σ vs)
    (hd : ∀ D H1, H D = none → Same H H1 → H1 D = some (ilst (List.replicate rows.length z)) → Q (.ref D) H1) : LcL K a i tYes (tC (.int z)) vs σ H Q := by
  obtain ⟨as, e1, e2, _⟩ := R.sq (K := K)
  refine lcL0 z (by rw [List.length_map, e2]; exact hn) e1 hw fun D H1 nD s e => hd D H1 nD s ?_
  rw [List.length_map, e2] at e
  exact e
/-- each row copied -/
theorem lcCopy {a : Addr} {rows : List (List Int)} (R : RowsAt H a rows) (hn : rows.length ≤ 100000) (hw : ∀ x : V, wipe ((wipe σ vs).set i (some x)) vs = wipe σ vs) (hi : ∀ x : V, ((wipe σ vs).set i (some x))[i]? = some (some x))
    (hd : ∀ D H1, Same H H1 → NewRows H H1 D rows → Q (.ref D) H1) : LcL K a i tYes (tCB (mList K) (tCons (tVar i) tNil)) vs σ H Q := by
  obtain ⟨as, e1, e2, e3⟩ := R.sq (K := K)
  refine lcLRows (fun rs => rs = rows.take rs.length) rfl (by rw [List.length_map, e2]; exact hn) e1 hw (fun D k v bs rs H1 S hx e p l q => ?_) (fun D rs H1 e p s n => hd D H1 s ?_)
  · obtain ⟨r, rfl, hk, hr⟩ := e3 k v hx
    refine g_cb (g_cons (g_var (hi _) (g_nil (g_list (l.base hr) fun m nm => q m (rows.getD k []) _ ?_ (l.alloc nm _)))))
    rw [List.length_append, e]
    show rs ++ [rows.getD k []] = rows.take (k + 1)
    rw [p, e, List.take_add_one, List.getD_eq_getElem?_getD, List.getElem?_eq_getElem hk]
    rfl
  · rw [List.length_map, e2] at e
    rw [e, List.take_length] at p
    rw [← p]
    exact n
end

/-! ### stores, methods of lists -/
section
variable {K : PySem.W.Frag} {σ : L2.St} {H : Hp} {Q : VK} {B : Hp} {L : List (Addr × HO)}
theorem g_sub {to ti : TE} {t : TSet} {v : V} {R : L2.St → Hp → Prop} (h : to σ H fun o H1 => ti σ H1 fun i H2 => t o i v H2 fun H3 => R σ H3) : gSub to ti t v σ H R := h
theorem g_bm {T : String} {r : V → List V → Hp → VK → Prop} {to : TE} {t : TA} (h : to σ H fun x H1 => tyV K T x H1 ∧ t σ H1 fun xs H2 => r x xs H2 Q) : tBM K T r to t σ H Q := h
theorem g_ty {p : Addr} {xs : List V} {R : Prop} (s : SqL K H p xs) (h : R) : tyV K "list" (.ref p) H ∧ R := ⟨.inl ⟨rfl, xs, s⟩, h⟩
theorem ixN_of {n : Nat} {i : Int} (h0 : 0 ≤ i) (h1 : i < n) : ixN n i = some i.toNat := by
  unfold ixN
  rw [if_pos h0, if_pos h1]
theorem set_map {ns : List Int} {j : Nat} {x : Int} : (ns.map V.int).set j (V.int x) = (ns.set j x).map V.int := List.map_set.symm
/-- xs[i] = x, a list of ints of the ledger -/
theorem g_setL (led : Led B L H) (j : Nat) {p : Addr} {ns : List Int} {i x : Int} {R : Hp → Prop} (e : L[j]? = some (p, ilst ns)) (h0 : 0 ≤ i) (h1 : i < ns.length) (q : ∀ H', Led B (L.set j (p, ilst (ns.set i.toNat x))) H' → R H') :
    rSetL (.ref p) (.int i) (.int x) H R := by
  refine ⟨p, ns.map V.int, i, i.toNat, rfl, rfl, led.get j e, ?_, ?_⟩
  · rw [List.length_map]
    exact ixN_of h0 h1
  · rw [set_map]
    exact q _ (led.set e _)
theorem g_setM (led : Led B L H) (j : Nat) {p : Addr} {ns : List Int} {i x : Int} {R : Hp → Prop} (e : L[j]? = some (p, ilst ns)) (h0 : i < 0) (h1 : 0 ≤ ns.length + i) (q : ∀ H', Led B (L.set j (p, ilst (ns.set ((ns.length : Int) + i).toNat x))) H' → R H') :
    rSetL (.ref p) (.int i) (.int x) H R := by
  refine ⟨p, ns.map V.int, i, ((ns.length : Int) + i).toNat, rfl, rfl, led.get j e, ?_, ?_⟩
  · unfold ixN
    rw [List.length_map, if_neg (by omega), if_pos (by omega), Int.add_comm]
  · rw [set_map]
    exact q _ (led.set e _)
/-- the same of any items -/
theorem g_setV (led : Led B L H) (j : Nat) {p : Addr} {xs : List V} {i : Int} {x : V} {R : Hp → Prop} (e : L[j]? = some (p, .lst xs)) (h0 : 0 ≤ i) (h1 : i < xs.length) (q : ∀ H', Led B (L.set j (p, .lst (xs.set i.toNat x))) H' → R H') :
    rSetL (.ref p) (.int i) x H R := ⟨p, xs, i, i.toNat, rfl, rfl, led.get j e, ixN_of h0 h1, q _ (led.set e _)⟩
theorem g_app (led : Led B L H) (j : Nat) {p : Addr} {xs : List V} {x : V} (e : L[j]? = some (p, .lst xs)) (hl : xs.length < 100000) (q : ∀ H', Led B (L.set j (p, .lst (xs ++ [x]))) H' → Q .non H') :
    rAppend (.ref p) [x] H Q := ⟨p, xs, x, rfl, rfl, led.get j e, Nat.lt_of_lt_of_le hl (by decide), q _ (led.set e _)⟩
theorem g_appI (led : Led B L H) (j : Nat) {p : Addr} {ns : List Int} {x : Int} (e : L[j]? = some (p, ilst ns)) (hl : ns.length < 100000) (q : ∀ H', Led B (L.set j (p, ilst (ns ++ [x]))) H' → Q .non H') :
    rAppend (.ref p) [.int x] H Q := by
  refine g_app led j e (by rw [List.length_map]; exact hl) ?_
  have e2 : ilst (ns ++ [x]) = .lst (ns.map V.int ++ [V.int x]) := by rw [ilst, List.map_append]; rfl
  rw [← e2]
  exact q
theorem g_ins (led : Led B L H) (j : Nat) {p : Addr} {ns : List Int} {i x : Int} (e : L[j]? = some (p, ilst ns)) (hl : ns.length < 100000) (h0 : 0 ≤ i) (h1 : i < 2 ^ 63) (q : ∀ H', Led B (L.set j (p, ilst (ns.take i.toNat ++ [x] ++ ns.drop i.toNat))) H' → Q .non H') :
    rInsert (.ref p) [.int i, .int x] H Q := by
  refine ⟨p, ns.map V.int, i, .int x, rfl, rfl, led.get j e, by rw [List.length_map]; exact Nat.lt_of_lt_of_le hl (by decide), h0, h1, ?_⟩
  have e2 : (.lst ((ns.map V.int).take i.toNat ++ [V.int x] ++ (ns.map V.int).drop i.toNat) : HO) = ilst (ns.take i.toNat ++ [x] ++ ns.drop i.toNat) := by
    rw [ilst, List.map_append, List.map_append, List.map_take, List.map_drop]
    rfl
  rw [e2]
  exact q _ (led.set e _)
end

/-! ### instances: calls of methods, makings, fields -/
section
variable {K : PySem.W.Frag} {G : Ads} {σ : L2.St} {H : Hp} {Q : VK} {B : Hp} {L : List (Addr × HO)} {D : Ends}
theorem app_nil_fun {R : List V → Hp → Prop} : (fun (vs : List V) H1 => R (vs ++ []) H1) = R := by
  funext vs H1
  rw [List.append_nil]
theorem g_make {C : Addr} {sp : Sp} {E : XK} {ta : TA} (h : ta σ H fun vs H1 => ∀ x dx, H1 x = none → H1 dx = none → dx ≠ x → sp (.ref x :: vs) (upd (upd H1 dx (.own x)) x (.ins C dx [])) (fun v H2 => v = .non ∧ Q (.ref x) H2) E) : tMake C sp [] E ta σ H Q := by
  have e := app_nil_fun (R := fun vs H1 => ∀ x dx, H1 x = none → H1 dx = none → dx ≠ x → sp (.ref x :: vs) (upd (upd H1 dx (.own x)) x (.ins C dx [])) (fun v H2 => v = .non ∧ Q (.ref x) H2) E)
  show ta σ H _
  rw [← e] at h
  exact h
theorem g_meth {C : Addr} {m : Str} {sp : Sp} {E : XK} {to : TE} {ta : TA} (h : to σ H fun x H1 => ∃ a dx fs, x = .ref a ∧ H1 a = some (.ins C dx fs) ∧ fs.lookup m = none ∧ ta σ H1 fun vs H2 => sp (x :: vs) H2 Q E) : tMeth C m sp [] E to ta σ H Q := by
  have e : ∀ x : V, (fun (vs : List V) H2 => sp (x :: (vs ++ [])) H2 Q E) = fun vs H2 => sp (x :: vs) H2 Q E := fun x => by
    funext vs H2
    rw [List.append_nil]
  show to σ H fun x H1 => ∃ a dx fs, x = .ref a ∧ H1 a = some (.ins C dx fs) ∧ fs.lookup m = none ∧ ta σ H1 fun vs H2 => sp (x :: (vs ++ [])) H2 Q E
  simp only [e]
  exact h
theorem g_self {C a dx : Addr} {fs : List (Str × V)} {m : Str} {R : Prop} (e : H a = some (.ins C dx fs)) (l : fs.lookup m = none) (h : R) : ∃ a' dx' fs', V.ref a = .ref a' ∧ H a' = some (.ins C dx' fs') ∧ fs'.lookup m = none ∧ R := ⟨a, dx, fs, rfl, e, l, h⟩
theorem g_methT {C : Addr} {m : Str} {sp : Sp} {E : L2.St → XK} {to : TE} {ta : TA} (h : to σ H fun x H1 => ∃ a dx fs, x = .ref a ∧ H1 a = some (.ins C dx fs) ∧ fs.lookup m = none ∧ ta σ H1 fun vs H2 => sp (x :: vs) H2 Q (E σ)) : tMethT C m sp E to ta σ H Q := h
theorem g_makeT {C : Addr} {sp : Sp} {E : L2.St → XK} {ta : TA} (h : ta σ H fun vs H1 => ∀ x dx, H1 x = none → H1 dx = none → dx ≠ x → sp (.ref x :: vs) (upd (upd H1 dx (.own x)) x (.ins C dx [])) (fun v H2 => v = .non ∧ Q (.ref x) H2) (E σ)) : tMakeT C sp E ta σ H Q := h
theorem g_callS {sp : Sp} {E : L2.St → XK} {ta : TA} (h : ta σ H fun vs H1 => sp vs H1 Q (E σ)) : tCallS sp E ta σ H Q := h
theorem g_sfld {ta tv : TE} {f : Str} (h : tv σ H fun y H1 => ta σ H1 fun x H2 => ∃ a C dx fs, x = .ref a ∧ H2 a = some (.ins C dx fs) ∧ Cls K C ∧ NoAttr K C f ∧ fs.length < 1000 ∧ D.nx σ (upd H2 a (.ins C dx (putF f y fs)))) : sFld K ta tv f D σ H := h
/-- self.f = v, the instance in the ledger -/
theorem g_put (led : Led B L H) (j : Nat) {C a dx : Addr} {fs fs' : List (Str × V)} {f : Str} {v : V} {R : Hp → Prop} (e : L[j]? = some (a, .ins C dx fs)) (c : Cls K C) (n : NoAttr K C f) (hl : fs.length < 1000) (ep : putF f v fs = fs') (q : ∀ H', Led B (L.set j (a, .ins C dx fs')) H' → R H') :
    ∃ a' C' dx' gs, V.ref a = .ref a' ∧ H a' = some (.ins C' dx' gs) ∧ Cls K C' ∧ NoAttr K C' f ∧ gs.length < 1000 ∧ R (upd H a' (.ins C' dx' (putF f v gs))) := by
  subst ep
  exact ⟨a, C, dx, fs, rfl, led.get j e, c, n, hl, q _ (led.set e _)⟩
/-- one object taken out of what stands -/
theorem Led.one {b : Addr} {o : HO} (h : H b = some o) : ∃ B, Led B [(b, o)] H ∧ ∀ q u, H q = some u → q ≠ b → B q = some u := by
  classical
  refine ⟨fun a => if a = b then none else H a, ⟨fun a u e => ?_, fun i p u e => ?_, by simp, fun p hp => ?_⟩, fun q u e n => ?_⟩
  · by_cases z : a = b
    · rw [show (if a = b then none else H a) = none from if_pos z] at e
      cases e
    · rw [show (if a = b then none else H a) = H a from if_neg z] at e
      exact e
  · cases i with
    | zero =>
      cases e
      exact h
    | succ i => simp at e
  · simp at hp
    subst hp
    exact if_pos rfl
  · show (if q = b then none else H q) = some u
    rw [if_neg n]
    exact e
/-- reading a board's fields -/
theorem g_bfld {b dx : Addr} {fs : List (Str × V)} {f : Str} {v : V} {R : V → Prop} (e : H b = some (.ins G.Board dx fs)) (c : Cls K G.Board) (n : NoAttr K G.Board f) (l : fs.lookup f = some v) (h : R v) :
    ∃ a' C' dx' fs' v', V.ref b = .ref a' ∧ H a' = some (.ins C' dx' fs') ∧ Cls K C' ∧ NoAttr K C' f ∧ fs'.lookup f = some v' ∧ R v' := ⟨b, G.Board, dx, fs, v, rfl, e, c, n, l, h⟩
end
/-! ### isinstance, indices from the end -/
section
variable {K : PySem.W.Frag} {H : Hp} {Q : VK}
theorem isi_int {i : Int} {c : String} {b : Bool} (e : kitB "int" c = some b) (h : Q (.bl b) H) : rIsi K [.int i, .ty c] H Q := ⟨.int i, .ty c, .type "int", .type c, b, rfl, .ty c, .base (.int i), kit_ty e, h⟩
theorem isi_bl {i : Bool} {c : String} {b : Bool} (e : kitB "bool" c = some b) (h : Q (.bl b) H) : rIsi K [.bl i, .ty c] H Q := ⟨.bl i, .ty c, .type "bool", .type c, b, rfl, .ty c, .base (.bl i), kit_ty e, h⟩
theorem isi_lst {p : Addr} {xs : List V} {c : String} {b : Bool} (s : H p = some (.lst xs)) (e : kitB "list" c = some b) (h : Q (.bl b) H) : rIsi K [.ref p, .ty c] H Q := ⟨.ref p, .ty c, .type "list", .type c, b, rfl, .ty c, .base (.lst s), kit_ty e, h⟩
theorem atI_neg {ns : List Int} {i : Int} (h0 : i < 0) (h1 : 0 ≤ ns.length + i) : atI (ns.map V.int) i = some (.int (ns.getD (ns.length + i).toNat 0)) := by
  have hl : ((ns.length : Int) + i).toNat < ns.length := by omega
  have e : ixN (ns.map V.int).length i = some ((ns.length : Int) + i).toNat := by
    unfold ixN
    rw [List.length_map, if_neg (by omega), if_pos (by omega), Int.add_comm]
  unfold atI
  rw [e]
  show (ns.map V.int)[((ns.length : Int) + i).toNat]? = _
  rw [List.getElem?_map, List.getElem?_eq_getElem hl, List.getD_eq_getElem?_getD, List.getElem?_eq_getElem hl]
  rfl
theorem g_ixM {p : Addr} {ns : List Int} {i : Int} (s : SqL K H p (ns.map V.int)) (h0 : i < 0) (h1 : 0 ≤ ns.length + i) (h : Q (.int (ns.getD (ns.length + i).toNat 0)) H) : rIxL K (.ref p) (.int i) H Q :=
  ⟨p, _, i, _, rfl, rfl, s, atI_neg h0 h1, h⟩
end
section
variable {K : PySem.W.Frag} {σ : L2.St} {H : Hp} {Q : VK}
theorem g_sl {r : V → Option Int → Option Int → Hp → VK → Prop} {te : TE} {tl th : TO} (h : te σ H fun x H1 => tl σ H1 fun l H2 => th σ H2 fun u H3 => r x l u H3 Q) : tSl r te tl th σ H Q := h
theorem g_noPart {R : Option Int → Hp → Prop} (h : R none H) : tNoPart σ H R := h
theorem g_part {t : TE} {R : Option Int → Hp → Prop} (h : t σ H fun x H1 => ∃ i, x = .int i ∧ R (some i) H1) : tPart t σ H R := h
theorem g_partI {i : Int} {R : Int → Prop} (h : R i) : ∃ j, V.int i = .int j ∧ R j := ⟨i, rfl, h⟩
/-- xs[:-1] of ints -/
theorem cut_init {ns : List Int} {x : Int} : cutV ((ns ++ [x]).map V.int) none (some (-1)) = ns.map V.int := by
  have e0 : ((ns ++ [x]).map V.int).length = ns.length + 1 := by simp
  have e1 : HT.sIx (ns.length + 1) (ns.length + 1) (some (-1)) = ns.length := by
    show (if (-1 : Int) < 0 then ((-1 : Int) + ((ns.length + 1 : Nat) : Int)).toNat else min (-1 : Int).toNat (ns.length + 1)) = _
    rw [if_pos (by decide)]
    omega
  unfold cutV
  rw [e0, e1]
  show List.take (ns.length - 0) ((ns ++ [x]).map V.int) = ns.map V.int
  rw [Nat.sub_zero, List.map_append, List.take_append_of_le_length (by simp), List.take_of_length_le (by simp)]
theorem g_slInit {p : Addr} {ns : List Int} {x : Int} (s : SqL K H p ((ns ++ [x]).map V.int)) (h : ∀ q, H q = none → Q (.ref q) (upd H q (ilst ns))) : rSlL K (.ref p) none (some (-1)) H Q :=
  ⟨p, _, rfl, s, fun q nq => by rw [cut_init]; exact h q nq⟩
/-- xs + ys of ints -/
theorem g_catI {p q : Addr} {ns ms : List Int} (e1 : H p = some (ilst ns)) (e2 : H q = some (ilst ms)) (hl : ns.length + ms.length ≤ 100000) (h : ∀ c, H c = none → Q (.ref c) (upd H c (ilst (ns ++ ms)))) : rCat (.ref p) (.ref q) H Q :=
  ⟨p, q, _, _, rfl, rfl, e1, e2, by rw [List.length_map, List.length_map]; exact Nat.le_trans hl (by decide), fun c nc => by
    have z := h c nc
    rw [ilst, List.map_append] at z
    exact z⟩
end
section
variable {K : PySem.W.Frag} {H : Hp} {Q : VK}
theorem isi_ii {i : Int} (h : Q (.bl true) H) : rIsi K [.int i, .ty "int"] H Q := isi_int (b := true) (by decide +kernel) h
theorem isi_ib {i : Int} (h : Q (.bl false) H) : rIsi K [.int i, .ty "bool"] H Q := isi_int (b := false) (by decide +kernel) h
theorem isi_ll {p : Addr} {xs : List V} (s : H p = some (.lst xs)) (h : Q (.bl true) H) : rIsi K [.ref p, .ty "list"] H Q := isi_lst (b := true) s (by decide +kernel) h
end
theorem ifNT {A B : Prop} (h : B) : if (!true) = true then A else B := h
theorem ifNF {A B : Prop} (h : A) : if (!false) = true then A else B := h
/-- the item ahead of place t, around -/
theorem g_ixLast {K : PySem.W.Frag} {H : Hp} {Q : VK} {p : Addr} {ns : List Int} {t : Int} (s : SqL K H p (ns.map V.int)) (h0 : 0 ≤ t) (h1 : t < ns.length) (h : Q (.int (ns.getD ((t - 1) % (ns.length : Int)).toNat 0)) H) : rIxL K (.ref p) (.int (t - 1)) H Q := by
  by_cases z : t = 0
  · subst z
    refine g_ixM s (by omega) (by omega) ?_
    have e : ((0 : Int) - 1) % (ns.length : Int) = ns.length + (0 - 1) := by
      rw [← Int.add_emod_right, Int.emod_eq_of_lt (by omega) (by omega)]
      omega
    rw [e] at h
    exact h
  · refine g_ixI s (by omega) (by omega) ?_
    rw [Int.emod_eq_of_lt (by omega) (by omega)] at h
    exact h

theorem g_try1 {K : PySem.W.Frag} {c : Value} {tb : WX → TS} {ts : Addr → Value → Option Addr → TS} {Wout : WX} {D : Ends} {σ : L2.St} {H : Hp} (h : tb (wOnly K c ts Wout D) D σ H) : tTry1 K c tb ts Wout D σ H := h
theorem g_tryAs {K : PySem.W.Frag} {c : Value} {i : Nat} {tb : WX → TS} {ts : Addr → Value → Option Addr → TS} {Wout : WX} {D : Ends} {σ : L2.St} {H : Hp} (h : tb (wAs K c i ts Wout D) D σ H) : tTryAs K c i tb ts Wout D σ H := h
theorem g_tryN {K : PySem.W.Frag} {tb : WX → TS} {l : List (Value × (Addr → Value → Option Addr → TS))} {Wout : WX} {D : Ends} {σ : L2.St} {H : Hp} (h : tb (wMany K Wout D l) D σ H) : tTryN K tb l Wout D σ H := h
/-- an item of rows that stood before -/
theorem g_rowB {K : PySem.W.Frag} {B H : Hp} {Q : VK} {p : Addr} {rows : List (List Int)} {i : Int} (s : Same B H) (R : RowsAt B p rows) (h0 : 0 ≤ i) (h1 : i < rows.length) (h : ∀ r, SqL K B r ((rows.getD i.toNat []).map V.int) → Q (.ref r) H) : rIxL K (.ref p) (.int i) H Q := by
  obtain ⟨as, e1, e2, e3⟩ := R
  have hl : i.toNat < rows.length := by omega
  have ha : i.toNat < as.length := by omega
  refine ⟨p, _, i, .ref as[i.toNat], rfl, rfl, SqL.of (s _ _ e1), at_of (j := i.toNat) (by omega) ?_, h _ (SqL.of ?_)⟩
  · rw [List.getElem?_map, List.getElem?_eq_getElem ha]
    rfl
  · have q := e3 i.toNat as[i.toNat] rows[i.toNat] (List.getElem?_eq_getElem ha) (List.getElem?_eq_getElem hl)
    rw [List.getD_eq_getElem?_getD, List.getElem?_eq_getElem hl]
    exact q
theorem take_getD {α : Type} {l : List α} {j : Nat} {d : α} (h : j < l.length) : l.take (j + 1) = l.take j ++ [l.getD j d] := by
  rw [List.getD_eq_getElem?_getD, List.take_add_one, List.getElem?_eq_getElem h]
  rfl
/-- an item of a new list of rows, with its place in the ledger -/
theorem g_rowLed {K : PySem.W.Frag} {B H : Hp} {Q : VK} {D : Addr} {as : List Addr} {rows : List (List Int)} {i : Int} (led : Led B (rowLed D as rows) H) (e : as.length = rows.length) (h0 : 0 ≤ i) (h1 : i < rows.length)
    (q : ∀ r, (rowLed D as rows)[i.toNat + 1]? = some (r, ilst (rows.getD i.toNat [])) → Q (.ref r) H) : rIxL K (.ref D) (.int i) H Q := by
  have hl : i.toNat < rows.length := by omega
  have ha : i.toNat < as.length := by omega
  refine ⟨D, _, i, .ref as[i.toNat], rfl, rfl, SqL.of (led.get 0 rfl), at_of (j := i.toNat) (by omega) ?_, q _ ?_⟩
  · rw [List.getElem?_map, List.getElem?_eq_getElem ha]
    rfl
  · rw [List.getD_eq_getElem?_getD, List.getElem?_eq_getElem hl]
    exact zip_at (List.getElem?_eq_getElem ha) (List.getElem?_eq_getElem hl)
theorem Led.rebaseN {B H H' : Hp} {L : List (Addr × HO)} (h : Led B L H) (s : Same H H') : ∃ B', Same B B' ∧ Led B' L H' ∧ ∀ p o, H' p = some o → H p = none → B' p = some o := by
  obtain ⟨B', s1, l1, k⟩ := (h.ext s).rebase
  exact ⟨B', s1, l1, fun p o e n => k p o e (h.out n)⟩
theorem NewRows.into {H H' B : Hp} {q : Addr} {rows : List (List Int)} (n : NewRows H H' q rows) (k : ∀ p o, H' p = some o → H p = none → B p = some o) : RowsAt B q rows := by
  obtain ⟨as, e1, e0, e2, e3⟩ := n
  exact ⟨as, k _ _ e1 e0, e2, fun i r row h1 h2 => k _ _ (e3 i r row h1 h2).1 (e3 i r row h1 h2).2⟩
theorem NewB.into {C : Addr} {H H' B : Hp} {b dx r t l s : Addr} {rows : List (List Int)} {turns loads steps : List Int} {taken : Int} (n : NewB C H H' b dx r t l s rows turns loads steps taken) (k : ∀ p o, H' p = some o → H p = none → B p = some o) : BdAt C B b dx r t l s rows turns loads steps taken := by
  obtain ⟨B1, s1, nr, l1⟩ := n
  have f : ∀ x, x ∈ (bl C b dx r t l s turns loads steps taken).map Prod.fst → H x = none := fun x hx => s1.free (l1.new x hx)
  exact ⟨k _ _ (l1.get 0 rfl) (f _ (by simp)), (nr.mono l1.same).into k, k _ _ (l1.get 1 rfl) (f _ (by simp)), k _ _ (l1.get 2 rfl) (f _ (by simp)), k _ _ (l1.get 3 rfl) (f _ (by simp))⟩
theorem isi_bb {K : PySem.W.Frag} {H : Hp} {Q : VK} {i : Bool} (h : Q (.bl true) H) : rIsi K [.bl i, .ty "bool"] H Q := isi_bl (b := true) (by decide +kernel) h
theorem g_eqB1 {H : Hp} {Q : VK} {i j : Bool} (e : i = j) (h : Q (.bl true) H) : rEq (.bl i) (.bl j) H Q := g_eqB (by rw [decide_eq_true e]; exact h)
/-- [[x]], just laid -/
theorem rowsOne {H : Hp} {p q : Addr} {x : Int} (np : H p = none) (nq : upd H p (.lst [V.int x]) q = none) : NewRows H (upd (upd H p (.lst [V.int x])) q (.lst [V.ref p])) q [[x]] := by
  have ne : q ≠ p := fun z => by
    subst z
    rw [upd_same] at nq
    cases nq
  refine ⟨[p], upd_same, (same_upd (o := .lst [V.int x]) np).free nq, rfl, fun i r row h1 h2 => ?_⟩
  cases i with
  | zero =>
    cases h1
    cases h2
    exact ⟨by rw [upd_ne ne.symm]; exact upd_same, np⟩
  | succ i => simp at h1
theorem Led.back {B B' H : Hp} {L : List (Addr × HO)} (h : Led B' L H) (s : Same B B') : Led B L H := ⟨s.trans h.same, h.at_, h.nd, fun p hp => s.free (h.new p hp)⟩
theorem g_notNn {H : Hp} {Q : VK} (h : Q (.bl false) H) : rNotN .non .non H Q := ⟨rfl, h⟩
theorem g_notNi {H : Hp} {Q : VK} {i : Int} (h : Q (.bl true) H) : rNotN (.int i) .non H Q := ⟨rfl, h⟩
theorem g_isNn {H : Hp} {Q : VK} (h : Q (.bl true) H) : rIsN .non .non H Q := ⟨rfl, h⟩
theorem g_isNi {H : Hp} {Q : VK} {i : Int} (h : Q (.bl false) H) : rIsN (.int i) .non H Q := ⟨rfl, h⟩
/-- isinstance(board, Board) -/
structure BdIs (K : PySem.W.Frag) (G : Ads) : Prop where
  ha : PySem.W.findIn K (.ref G.Board) "__class__" = some (some (.builtin "object.__class__"))
  hn : PySem.W.specialIn K (.builtin "object.__class__") "__get__" = some (some (.builtin "getset_descriptor.__get__"))
  ht : PySem.W.takesIn K (.builtin "object.__class__") = some true
  hm : PySem.W.mroIn K G.Board (.type "object") = some true
  ki : PySem.W.kitOne K (.ref G.Board) (.ref G.Board) = some true
theorem isi_board {K : PySem.W.Frag} {G : Ads} {H : Hp} {Q : VK} {b dx : Addr} {fs : List (Str × V)} (bi : BdIs K G) (bd : BdOk K G) (e : H b = some (.ins G.Board dx fs)) (h : Q (.bl true) H) : rIsi K [.ref b, .ref G.Board] H Q :=
  ⟨.ref b, .ref G.Board, .ref G.Board, .ref G.Board, true, rfl, .own _, .base (.ins e bd.cl bi.ha bi.hn bi.ht bi.hm), bi.ki, h⟩
/-- an item of any list -/
theorem g_ixV {K : PySem.W.Frag} {H : Hp} {Q : VK} {p : Addr} {xs : List V} {i : Int} {v : V} (s : SqL K H p xs) (h0 : 0 ≤ i) (e : xs[i.toNat]? = some v) (h : Q v H) : rIxL K (.ref p) (.int i) H Q :=
  ⟨p, _, i, _, rfl, rfl, s, at_of (j := i.toNat) (by omega) e, h⟩

/-! methods and makings inside a try body; isinstance of a caught error -/
section
variable {X : Cx} {CX : CXT} {k : Nat} {f C : Addr} {fd : FuncData} {ps : List Str} {sp : Sp} {E : L2.St → XK} {x m : Str} {p pos apos : Pos} {e o : Expr} {es : List Expr} {ta : TE} {t : TA}
theorem pe_methT {pl : Sem Bool} (he : PE X o ta) (c : Cls X.K C) (hm : Meth X.K C m f) (F : FnOk X.prog X.w X.K X.mg X.base CX k f fd ps sp) (hr : Room k X.A) (hb : Binds X.K fd ps []) (hx : ∀ σ, PassesAt CX X σ (E σ)) (ha : PA X (e :: es) t)
    (hst : starEach (e :: es) X.env = (false, eval e X.env) :: starEach es X.env := by rfl) (hpl : (backTo pos (starEach es X.env)).any (·.1) = false := by rfl)
    (ht : eval (.Call (.Attribute o m apos) (e :: es) [] pos) X.env = (do
      let ov ← eval o X.env
      standAt apos.atName
      let (f, first) ← holding [ov] (getMethod ov m pl)
      callWith pos f first (backTo pos (starEach (e :: es) X.env)) (backToKw pos (keywordEach [] X.env))) := by rfl) :
    PE X (.Call (.Attribute o m apos) (e :: es) [] pos) (tMethT C m sp E ta t) := by
  refine ⟨fun pins s σ H Q I h => ?_⟩
  refine PySem.W.methodCall_KW (pl := pl) (thn (he.run pins s σ H _ I h) fun u s1 ⟨x, H1, I1, rx, a, dx, fs, ex, ea, l, q⟩ => ?_) ht
  subst ex
  obtain rfl : u = Value.ref a := rx
  refine getmeth_ok I1 ea c hm l ?_
  refine PySem.W.callWith_K (first := [.ref a]) (h₀ := X.base) I.ok.mod.kin hm.kp (thn (ha.run pos pins s1 σ H1 _ I1 q) fun us s2 ⟨vs, H2, I2, r, q2⟩ => ⟨I2.kIn, ?_⟩) hst hpl
  exact run_fnS (us := .ref a :: us) (vs := .ref a :: vs) F hr hb (hx σ) I2 (.cons rfl r) q2
theorem run_makeS {pins : List (Addr × Obj)} {σ : L2.St} {H : Hp} {s : Shared} {Q : VK} {us : List Value} {vs : List V} (M : Mk X.K C f) (F : FnOk X.prog X.w X.K X.mg X.base CX k f fd ps sp) (hr : Room (k + 1) X.A) (hb : Binds X.K fd ps [])
    (hx : PassesAt CX X σ (E σ)) (I : Inv X pins σ H s) (r : Vals vs us)
    (h : ∀ x dx, H x = none → H dx = none → dx ≠ x → sp (.ref x :: vs) (upd (upd H dx (.own x)) x (.ins C dx [])) (fun v H2 => v = .non ∧ Q (.ref x) H2) (E σ)) :
    wpAny (model X.prog X.w) X.A (call (.ref C) us) (EP X pins σ Q) X.xe s := by
  have hq := h (s.heap.objs.size + 1) s.heap.objs.size (I.hok.fresh (Nat.le_succ _)) (I.hok.fresh (Nat.le_refl _)) (Nat.ne_of_lt (Nat.lt_succ_self _))
  have I2 := Inv.made (C := C) I
  have r2 : Vals (V.ref (s.heap.objs.size + 1) :: vs) (Value.ref (s.heap.objs.size + 1) :: us) := .cons rfl r
  have hl : (Value.ref (s.heap.objs.size + 1) :: us).length = ps.length := by
    have e := r2.length
    rw [F.len _ _ _ _ hq] at e
    exact e.symm
  have b := hb { s with heap := _ } (Value.ref (s.heap.objs.size + 1) :: us) I2.kIn (by rw [List.append_nil]; exact hl)
  rw [List.append_nil] at b
  refine wpAny_call (make_map (f := f) I.kIn M.makes M.init (beq_iff_eq.mp M.fn) (codeAny_mono (F.run _ X.stack _ _ ⟨Value.ref (s.heap.objs.size + 1) :: us, []⟩ (Value.ref (s.heap.objs.size + 1) :: us) _ _ (E σ) (hr.make C us [])
    (I2.env0.make C us []) b r2 hq) fun r s' hq' => ?_))
  cases r with
  | error e => exact hx pins _ _ e s' I2 hq'
  | ok fl =>
    cases fl with
    | ret u =>
      obtain ⟨v, H', I3, rv, ev, q3⟩ := I2.after hq'
      subst ev
      exact ⟨rv, ⟨V.ref (s.heap.objs.size + 1), H', I3, rfl, q3⟩⟩
    | next => exact False.elim hq'
    | brk => exact False.elim hq'
    | cont => exact False.elim hq'
theorem pe_makeT (M : Mk X.K C f) (F : FnOk X.prog X.w X.K X.mg X.base CX k f fd ps sp) (hr : Room (k + 1) X.A) (hg : Gl X x) (hm : X.mg x = some (.ref C)) (hb : Binds X.K fd ps []) (hx : ∀ σ, PassesAt CX X σ (E σ))
    (ha : PA X (e :: es) t) (hdb : (x == ("__debug__" : Str)) = false := by decide) (he : starEach (e :: es) X.env = (false, eval e X.env) :: starEach es X.env := by rfl) (hpl : (backTo pos (starEach es X.env)).any (·.1) = false := by rfl) :
    PE X (.Call (.Name x p) (e :: es) [] pos) (tMakeT C sp E t) := by
  refine ⟨fun pins s σ H Q I h => ?_⟩
  refine wpAny_Call_Name_kw (ld_glob I hg hm ?_ hdb)
  refine PySem.W.callWith_K (h₀ := X.base) I.ok.mod.kin M.kp (thn (ha.run pos pins s σ H _ I h) fun us s1 ⟨vs, H1, I1, r, q⟩ => ⟨I1.kIn, ?_⟩) he hpl
  exact run_makeS M F hr hb (hx σ) I1 r q
end
def rIsX (K : PySem.W.Frag) (a : Addr) (cls : Value) (d : Option Addr) : List V → Hp → VK → Prop := fun xs H Q => ∃ D, cls = .ref D ∧ d = none ∧ ExcC K D ∧ rIsE K D a xs H Q
theorem call_isX {X : Cx} {a : Addr} {cls : Value} {d : Option Addr} {oe : Obj} {pn : List (Addr × Obj)} (hz : Zc cls d oe) (hf : ∃ vs, oe.data = .fields vs) : CallR (X.suite a ((a, oe) :: pn)) (.builtin "isinstance") (rIsX X.K a cls d) := by
  intro pins s σ H xs us Q I r h
  obtain ⟨D, rfl, rfl, C, h⟩ := h
  exact call_isE C hz hf pins s σ H xs us Q I r h
/-- isinstance of the caught error of class D -/
theorem g_isX {K : PySem.W.Frag} {a D c : Addr} {b : Bool} {H : Hp} {Q : VK} (C : ExcC K D) (e : PySem.W.kitOne K (.ref D) (.ref c) = some b) (q : Q (.bl b) H) : rIsX K a (.ref D) none [.ref a, .ref c] H Q :=
  ⟨D, rfl, rfl, C, .ref c, .ref c, b, rfl, fun _ h => h, e, q⟩
theorem g_isXt {K : PySem.W.Frag} {a D : Addr} {c : String} {b : Bool} {H : Hp} {Q : VK} (C : ExcC K D) (e : PySem.W.kitOne K (.ref D) (.type c) = some b) (q : Q (.bl b) H) : rIsX K a (.ref D) none [.ref a, .ty c] H Q :=
  ⟨D, rfl, rfl, C, .ty c, .type c, b, rfl, fun _ h => h, e, q⟩

local macro_rules | `(tactic| walk_at "sq") => `(tactic| first | assumption | exact SqL.of (by assumption) | exact Led.base (by assumption) (by assumption) | exact Led.sq (by assumption) 0 rfl | exact Led.sq (by assumption) 1 rfl | exact Led.sq (by assumption) 2 rfl | exact Led.sq (by assumption) 3 rfl | exact Led.sq (by assumption) 4 rfl | exact Led.sq (by assumption) 5 rfl | exact Led.sq (by assumption) 6 rfl | exact Led.sq (by assumption) 7 rfl | exact Led.sq (by assumption) 8 rfl | exact Led.sq (by assumption) 9 rfl)
local macro_rules | `(tactic| walk_at "ar") => `(tactic| first | omega | assumption | ((with_reducible show (0 : Int) ≤ (_ : Int) % (_ : Int)); exact Int.emod_nonneg _ (by omega)) | ((with_reducible show (_ : Int) % (_ : Int) < (_ : Int)); exact Int.emod_lt_of_pos _ (by omega)) | decide)
local macro_rules | `(tactic| walk_at "g1") => `(tactic| with_reducible first | refine g_seq ?_ | refine g_asg ?_ | refine g_name ?_ | refine g_c ?_ | refine g_op ?_ | refine g_un ?_ | refine g_call ?_ | refine g_cons ?_ | refine g_nil ?_ | refine g_I0 ?_ | refine g_tTest ?_ | refine g_tB ?_ | refine g_bl ?_ | refine g_blV ?_ | refine g_and ?_ | refine g_or ?_ | refine g_not ?_ | refine g_andV ?_ | refine g_orV ?_ | refine g_notV ?_ | refine g_ifE ?_ | refine g_ifS ?_ | refine g_next ?_ | refine g_ret ?_ | refine g_retN ?_ | refine g_drop ?_ | refine g_raise ?_ | refine g_cb ?_ | refine g_lst ?_ | refine g_tFld ?_ | refine g_for1 ?_ | refine g_for2 ?_ | refine g_forL ?_ | refine g_lc1 ?_ | refine g_lcL ?_ | refine g_lcV ?_ | refine g_yes ?_ | refine g_make ?_ | refine g_meth ?_ | refine g_methT ?_ | refine g_makeT ?_ | refine g_callS ?_ | refine g_sfld ?_ | refine g_sub ?_ | refine g_bm ?_ | refine g_try1 ?_ | refine g_tryAs ?_ | refine g_tryN ?_ | refine g_sl ?_ | refine g_noPart ?_ | refine g_part ?_ | refine g_partI ?_ | refine g_eqI ?_ | refine g_neI ?_ | refine g_eqB ?_ | refine g_neB ?_ | refine g_eqS ?_ | refine g_neS ?_ | refine g_U ?_ | refine g_notNn ?_ | refine g_notNi ?_ | refine g_isNn ?_ | refine g_isNi ?_)
local macro_rules | `(tactic| walk_at "ra") => `(tactic| first | assumption | exact Led.ra (by assumption) (by assumption) | exact NewRows.at_ (by assumption))
local macro_rules | `(tactic| walk_at "gif") => `(tactic| ((with_reducible show @ite _ _ _ _ _); first | refine iteT ?_ | refine iteF ?_ | refine ifNT ?_ | refine ifNF ?_ | ((with_reducible show @ite _ (@decide _ _ = true) _ _ _); first | refine ifPt (by walk_at "ar") ?_ | refine ifPf (by walk_at "ar") ?_) | refine ifNt (by walk_at "ar") ?_ | refine ifNf (by walk_at "ar") ?_))
local macro_rules | `(tactic| walk_at "g2") => `(tactic| with_reducible first | ((show Exists _); first | refine g_rng1 (by walk_at "ar") (by walk_at "ar") ?_ | refine g_rng2 (by walk_at "ar") (by walk_at "ar") (by walk_at "ar") (by walk_at "ar") ?_ | refine g_lstwR (by walk_at "ra") ?_ | refine g_lstw (by walk_at "sq") ?_) | ((show mLen _ _ _ _); first | refine g_lenR (by walk_at "ra") ?_ | refine g_lenI (by walk_at "sq") ?_ | refine g_len (by walk_at "sq") ?_) | ((show rIxL _ _ _ _ _); refine g_ixI (by walk_at "sq") (by walk_at "ar") (by walk_at "ar") ?_) | ((show mMod _ _ _ _); refine g_mod (by walk_at "ar") ?_) | ((show mFdiv _ _ _ _); refine g_fdiv (by walk_at "ar") (by walk_at "ar") ?_) | ((show mMul _ _ _ _); first | refine g_mulL (by walk_at "ar") ?_ | refine g_mulR (by walk_at "ar") ?_) | ((show And _ _); refine g_ty (by walk_at "sq") ?_) | ((show rSum _ _ _ _); refine g_sum (by walk_at "sq") ?_) | refine isi_ii ?_ | refine isi_ib ?_ | refine isi_bb ?_ | walk_at "gif")
local macro_rules | `(tactic| walk_at "g") => `(tactic| repeat (first | walk_at "g1" | ((with_reducible show tVar _ _ _ _); refine g_var rfl ?_) | walk_at "g2"))
local macro_rules | `(tactic| walk_at "row") => `(tactic| with_reducible refine g_row (by walk_at "ra") (by walk_at "ar") (by walk_at "ar") ?_)
/-! The rows that a law draws: what is known of them -/
def other (g many : Int) : Int := if g < 0 then g else many - 1 - g
def flipRows (rows : List (List Int)) : List (List Int) := (rows.map (fun row => row.map (fun g => other g rows.length))).reverse
/-- how many exits of a row, the k-th, do not lead downwards -/
def ups (k : Nat) (row : List Int) : Nat := row.countP (fun g => decide ((k : Int) ≤ g))
def upsFrom : Nat → List (List Int) → Nat
  | _, [] => 0
  | k, row :: r => ups k row + upsFrom (k + 1) r
def Down (rows : List (List Int)) : Prop := ∀ k : Nat, k < rows.length → ∃ g, g ∈ rows.getD k [] ∧ g < k
def K0 (rows : List (List Int)) : Prop := OkRows rows ∧ Down rows ∧ ((rows.length ≤ 4 ∧ ∀ row, row ∈ rows → row.length ≤ 3) ∨ upsFrom 0 rows ≤ 3)
def Shape (rows : List (List Int)) : Prop := ∃ r0, K0 r0 ∧ (rows = r0 ∨ rows = flipRows r0)
theorem flip_length (rows : List (List Int)) : (flipRows rows).length = rows.length := by simp [flipRows]
theorem other_range {g many : Int} (h1 : -1 ≤ g) (h2 : g < many) : -1 ≤ other g many ∧ other g many < many := by
  unfold other
  split <;> omega
theorem other_other {g many : Int} (h2 : g < many) : other (other g many) many = g := by
  by_cases h : g < 0
  · simp only [other, h, if_true]
  · have q : ¬ (many - 1 - g < 0) := by omega
    simp only [other, h, q, if_false]
    omega
theorem flip_at {rows : List (List Int)} {k : Nat} (hk : k < rows.length) : (flipRows rows).getD k [] = (rows.getD (rows.length - 1 - k) []).map (fun g => other g rows.length) := by
  unfold flipRows
  have h1 : k < (rows.map (fun row => row.map (fun g => other g rows.length))).length := by simpa using hk
  have h2 : rows.length - 1 - k < rows.length := by omega
  rw [List.getD_eq_getElem?_getD, List.getElem?_reverse h1, List.length_map, List.getElem?_map, List.getElem?_eq_getElem h2, List.getD_eq_getElem?_getD, List.getElem?_eq_getElem h2]
  rfl
theorem rows_ext {r1 r2 : List (List Int)} (hl : r1.length = r2.length) (h : ∀ k, k < r1.length → r1.getD k [] = r2.getD k []) : r1 = r2 := by
  apply List.ext_getElem hl
  intro k h1 h2
  have q := h k h1
  rw [List.getD_eq_getElem?_getD, List.getD_eq_getElem?_getD, List.getElem?_eq_getElem h1, List.getElem?_eq_getElem h2] at q
  exact q
theorem flip_flip {rows : List (List Int)} (h : ∀ row, row ∈ rows → ∀ g, g ∈ row → g < rows.length) : flipRows (flipRows rows) = rows := by
  refine rows_ext (by rw [flip_length, flip_length]) fun k hk => ?_
  rw [flip_length, flip_length] at hk
  rw [flip_at (by rw [flip_length]; exact hk), flip_length, flip_at (by omega), List.map_map]
  have e : rows.length - 1 - (rows.length - 1 - k) = k := by omega
  rw [e]
  refine (List.map_congr_left fun g hg => ?_).trans (List.map_id _)
  exact other_other (h _ (getD_mem hk) g hg)
theorem flip_ok {rows : List (List Int)} (h : OkRows rows) : OkRows (flipRows rows) := by
  refine ⟨by rw [flip_length]; exact h.1, by rw [flip_length]; exact h.2.1, fun row hr => ?_⟩
  rw [flip_length]
  unfold flipRows at hr
  rw [List.mem_reverse] at hr
  obtain ⟨row', hm, rfl⟩ := List.mem_map.mp hr
  obtain ⟨h1, h2, h3⟩ := h.2.2 row' hm
  refine ⟨by rw [List.length_map]; exact h1, by rw [List.length_map]; exact h2, fun g hg => ?_⟩
  obtain ⟨g', hg', rfl⟩ := List.mem_map.mp hg
  exact other_range (h3 g' hg').1 (h3 g' hg').2
theorem Shape.ok {rows : List (List Int)} (h : Shape rows) : OkRows rows := by
  obtain ⟨r0, h, rfl | rfl⟩ := h
  · exact h.1
  · exact flip_ok h.1
theorem upsFrom_append : ∀ (k : Nat) (a b : List (List Int)), upsFrom k (a ++ b) = upsFrom k a + upsFrom (k + a.length) b
  | k, [], b => by simp [upsFrom]
  | k, x :: a, b => by
    show ups k x + upsFrom (k + 1) (a ++ b) = ups k x + upsFrom (k + 1) a + upsFrom (k + (a.length + 1)) b
    rw [upsFrom_append (k + 1) a b, Nat.add_assoc, Nat.add_assoc, Nat.add_comm 1 a.length]
theorem upsFrom_set : ∀ (k : Nat) (a : List (List Int)) (i : Nat) (row : List Int), i < a.length → upsFrom k (a.set i row) + ups (k + i) (a.getD i []) = upsFrom k a + ups (k + i) row
  | k, [], i, row, h => by simp at h
  | k, x :: a, 0, row, h => by
    show ups k row + upsFrom (k + 1) a + ups (k + 0) x = ups k x + upsFrom (k + 1) a + ups (k + 0) row
    simp only [Nat.add_zero]
    omega
  | k, x :: a, i + 1, row, h => by
    have ih := upsFrom_set (k + 1) a i row (by simpa using h)
    show ups k x + upsFrom (k + 1) (a.set i row) + ups (k + (i + 1)) (a.getD i []) = ups k x + upsFrom (k + 1) a + ups (k + (i + 1)) row
    have e : k + 1 + i = k + (i + 1) := by omega
    have ih2 : upsFrom (k + 1) (a.set i row) + ups (k + (i + 1)) (a.getD i []) = upsFrom (k + 1) a + ups (k + (i + 1)) row := by rw [← e]; exact ih
    rw [Nat.add_assoc, ih2, Nat.add_assoc]
theorem ups_insert {k : Nat} (row : List Int) (i : Nat) (x : Int) : ups k (row.take i ++ [x] ++ row.drop i) ≤ ups k row + 1 := by
  have e : ups k row = ups k (row.take i) + ups k (row.drop i) := by
    unfold ups
    rw [← List.countP_append, List.take_append_drop]
  unfold ups at e ⊢
  rw [List.countP_append, List.countP_append]
  have : List.countP (fun g => decide ((k : Int) ≤ g)) [x] ≤ 1 := by simpa using List.countP_le_length (p := fun g => decide ((k : Int) ≤ g)) (l := [x])
  omega
theorem ups_zero {k : Nat} {row : List Int} (h : ∀ g, g ∈ row → g < k) : ups k row = 0 := by
  unfold ups
  rw [List.countP_eq_zero]
  intro g hg
  have := h g hg
  simp
  omega

/-! == and != over lists of ints, of rows, over told words -/
section
variable {K : PySem.W.Frag} {H : Hp} {Q : VK}
theorem dp_all_int : ∀ ns : List Int, DpAll K H (ns.map V.int) (ns.map PyData.int)
  | [] => .nil
  | n :: ns => .cons (.int n) (dp_all_int ns)
theorem dp_ints {p : Addr} {ns : List Int} (s : SqL K H p (ns.map V.int)) : Dp K H (.ref p) (.list (ns.map PyData.int)) := .lst s (dp_all_int ns)
theorem dp_all_bl : ∀ ns : List Bool, DpAll K H (ns.map V.bl) (ns.map PyData.bool)
  | [] => .nil
  | n :: ns => .cons (.bl n) (dp_all_bl ns)
theorem dp_bls {p : Addr} {ns : List Bool} (s : SqL K H p (ns.map V.bl)) : Dp K H (.ref p) (.list (ns.map PyData.bool)) := .lst s (dp_all_bl ns)
theorem dp_rows {p : Addr} {rows : List (List Int)} (R : RowsAt H p rows) : Dp K H (.ref p) (.list (rows.map fun r => .list (r.map PyData.int))) := by
  obtain ⟨as, e1, e2, e3⟩ := R
  refine .lst (SqL.of e1) ?_
  have gen : ∀ (as : List Addr) (rows : List (List Int)), as.length = rows.length → (∀ (i : Nat) (r : Addr) (row : List Int), as[i]? = some r → rows[i]? = some row → H r = some (ilst row)) → DpAll K H (as.map V.ref) (rows.map fun r => .list (r.map PyData.int)) := by
    intro as
    induction as with
    | nil =>
      intro rows hl _
      cases rows with
      | nil => exact .nil
      | cons r rs => simp at hl
    | cons a as ih =>
      intro rows hl h
      cases rows with
      | nil => simp at hl
      | cons r rs => exact .cons (dp_ints (SqL.of (h 0 a r rfl rfl))) (ih rs (by simpa using hl) fun i b row h1 h2 => h (i + 1) b row h1 h2)
  exact gen as rows e2 e3
theorem lay_ints : ∀ ns : List Int, PyData.canLayAll0 (ns.map PyData.int) = true
  | [] => by simp [PyData.canLayAll0]
  | n :: ns => by
    rw [List.map_cons, PyData.canLayAll0, lay_ints ns]
    simp [PyData.canLay0]
theorem lay_bls : ∀ ns : List Bool, PyData.canLayAll0 (ns.map PyData.bool) = true
  | [] => by simp [PyData.canLayAll0]
  | n :: ns => by
    rw [List.map_cons, PyData.canLayAll0, lay_bls ns]
    simp [PyData.canLay0]
theorem lay_rows : ∀ rows : List (List Int), PyData.canLayAll0 (rows.map fun r => .list (r.map PyData.int)) = true
  | [] => by simp [PyData.canLayAll0]
  | r :: rs => by
    rw [List.map_cons, PyData.canLayAll0, lay_rows rs, PyData.canLay0, lay_ints r]
    rfl
theorem deep_ints : ∀ ns : List Int, PyData.depthAll (ns.map PyData.int) = 0
  | [] => by simp [PyData.depthAll]
  | n :: ns => by
    rw [List.map_cons, PyData.depthAll, deep_ints ns]
    simp [PyData.depth]
theorem deep_bls : ∀ ns : List Bool, PyData.depthAll (ns.map PyData.bool) = 0
  | [] => by simp [PyData.depthAll]
  | n :: ns => by
    rw [List.map_cons, PyData.depthAll, deep_bls ns]
    simp [PyData.depth]
theorem deep_rows : ∀ rows : List (List Int), PyData.depthAll (rows.map fun r => .list (r.map PyData.int)) ≤ 1
  | [] => by simp [PyData.depthAll]
  | r :: rs => by
    rw [List.map_cons, PyData.depthAll, PyData.depth, deep_ints r]
    exact Nat.max_le.mpr ⟨Nat.le_refl _, deep_rows rs⟩
theorem sh_ints (ns : List Int) : SeqAt.shaped (.list (ns.map PyData.int)) = true := by
  unfold SeqAt.shaped
  rw [PyData.canLay0, lay_ints, PyData.depth, deep_ints]
  rfl
theorem sh_bls (ns : List Bool) : SeqAt.shaped (.list (ns.map PyData.bool)) = true := by
  unfold SeqAt.shaped
  rw [PyData.canLay0, lay_bls, PyData.depth, deep_bls]
  rfl
theorem sh_rows (rows : List (List Int)) : SeqAt.shaped (.list (rows.map fun r => .list (r.map PyData.int))) = true := by
  unfold SeqAt.shaped
  rw [PyData.canLay0, lay_rows, PyData.depth]
  have := deep_rows rows
  rw [decide_eq_true (by omega)]
  rfl
theorem eqv_ints : ∀ ns ms : List Int, PyData.eqvAll (ns.map PyData.int) (ms.map PyData.int) = decide (ns = ms)
  | [], [] => by simp [PyData.eqvAll]
  | [], _ :: _ => by simp [PyData.eqvAll]
  | _ :: _, [] => by simp [PyData.eqvAll]
  | n :: ns, m :: ms => by
    rw [List.map_cons, List.map_cons, PyData.eqvAll, eqv_ints ns ms, PyData.eqv]
    by_cases e : n = m <;> simp [e]
theorem eqv_bls : ∀ ns ms : List Bool, PyData.eqvAll (ns.map PyData.bool) (ms.map PyData.bool) = decide (ns = ms)
  | [], [] => by simp [PyData.eqvAll]
  | [], _ :: _ => by simp [PyData.eqvAll]
  | _ :: _, [] => by simp [PyData.eqvAll]
  | n :: ns, m :: ms => by
    rw [List.map_cons, List.map_cons, PyData.eqvAll, eqv_bls ns ms, PyData.eqv]
    by_cases e : n = m <;> simp [e]
theorem eqv_rows : ∀ ns ms : List (List Int), PyData.eqvAll (ns.map fun r => .list (r.map PyData.int)) (ms.map fun r => .list (r.map PyData.int)) = decide (ns = ms)
  | [], [] => by simp [PyData.eqvAll]
  | [], _ :: _ => by simp [PyData.eqvAll]
  | _ :: _, [] => by simp [PyData.eqvAll]
  | n :: ns, m :: ms => by
    rw [List.map_cons, List.map_cons, PyData.eqvAll, eqv_rows ns ms, PyData.eqv, eqv_ints]
    by_cases e : n = m <;> simp [e]
theorem g_neRows {p q : Addr} {r1 r2 : List (List Int)} (R1 : RowsAt H p r1) (R2 : RowsAt H q r2) (h : Q (.bl (!decide (r1 = r2))) H) : rNeD K (.ref p) (.ref q) H Q :=
  ⟨_, _, dp_rows R1, dp_rows R2, sh_rows r1, sh_rows r2, by rw [PyData.eqv, eqv_rows]; exact h⟩
theorem g_eqRows {p q : Addr} {r1 r2 : List (List Int)} (R1 : RowsAt H p r1) (R2 : RowsAt H q r2) (h : Q (.bl (decide (r1 = r2))) H) : rEqD K (.ref p) (.ref q) H Q :=
  ⟨_, _, dp_rows R1, dp_rows R2, sh_rows r1, sh_rows r2, by rw [PyData.eqv, eqv_rows]; exact h⟩
theorem g_neInts {p q : Addr} {r1 r2 : List Int} (R1 : SqL K H p (r1.map V.int)) (R2 : SqL K H q (r2.map V.int)) (h : Q (.bl (!decide (r1 = r2))) H) : rNeD K (.ref p) (.ref q) H Q :=
  ⟨_, _, dp_ints R1, dp_ints R2, sh_ints r1, sh_ints r2, by rw [PyData.eqv, eqv_ints]; exact h⟩
theorem g_eqInts {p q : Addr} {r1 r2 : List Int} (R1 : SqL K H p (r1.map V.int)) (R2 : SqL K H q (r2.map V.int)) (h : Q (.bl (decide (r1 = r2))) H) : rEqD K (.ref p) (.ref q) H Q :=
  ⟨_, _, dp_ints R1, dp_ints R2, sh_ints r1, sh_ints r2, by rw [PyData.eqv, eqv_ints]; exact h⟩
theorem g_eqBls {p q : Addr} {r1 r2 : List Bool} (R1 : SqL K H p (r1.map V.bl)) (R2 : SqL K H q (r2.map V.bl)) (h : Q (.bl (decide (r1 = r2))) H) : rEqD K (.ref p) (.ref q) H Q :=
  ⟨_, _, dp_bls R1, dp_bls R2, sh_bls r1, sh_bls r2, by rw [PyData.eqv, eqv_bls]; exact h⟩
theorem g_neBls {p q : Addr} {r1 r2 : List Bool} (R1 : SqL K H p (r1.map V.bl)) (R2 : SqL K H q (r2.map V.bl)) (h : Q (.bl (!decide (r1 = r2))) H) : rNeD K (.ref p) (.ref q) H Q :=
  ⟨_, _, dp_bls R1, dp_bls R2, sh_bls r1, sh_bls r2, by rw [PyData.eqv, eqv_bls]; exact h⟩
end
/-! ### (word, None) -/
section
variable {K : PySem.W.Frag} {H : Hp} {Q : VK} {σ : L2.St}
theorem g_tup {ta : TA} (h : ta σ H fun xs H1 => xs.length ≤ sizeLine ∧ ∀ p, H1 p = none → Q (.ref p) (upd H1 p (.tup xs))) : tTup ta σ H Q := h
theorem g_neWord {p q : Addr} {w : Str} (hw : PyData.strOk w = true) (e1 : H p = some (.tup [.str w, .non])) (e2 : H q = some (.tup [.str w, .non])) (h : Q (.bl false) H) : rNeD K (.ref p) (.ref q) H Q := by
  have d : ∀ p, H p = some (.tup [.str w, .non]) → Dp K H (.ref p) (.tuple [.str w, .none]) := fun p e => .tup (.inl (.inl e)) (.cons (.str w) (.cons .non .nil))
  have sh : SeqAt.shaped (.tuple [.str w, .none]) = true := by
    unfold SeqAt.shaped
    simp only [PyData.canLay0, PyData.canLayAll0, PyData.depth, PyData.depthAll]
    rw [hw]
    rfl
  refine ⟨_, _, d p e1, d q e2, sh, sh, ?_⟩
  have e : PyData.eqv (.tuple [.str w, .none]) (.tuple [.str w, .none]) = true := by
    simp [PyData.eqv, PyData.eqvAll]
  rw [e]
  exact h
end
theorem g_ixT {K : PySem.W.Frag} {H : Hp} {Q : VK} {p : Addr} {xs : List V} {i : Int} {v : V} (s : H p = some (.tup xs)) (h0 : 0 ≤ i) (e : xs[i.toNat]? = some v) (h : Q v H) : rIxT K (.ref p) (.int i) H Q :=
  ⟨p, xs, i, v, rfl, rfl, .inl (.inl s), at_of (j := i.toNat) (by omega) e, h⟩

/-! More comprehensions: with a test, of truths -/
section
variable {K : PySem.W.Frag} {σ : L2.St} {H : Hp} {Q : VK} {te : TE} {tt : TT} {i : Nat} {vs : List Nat}
theorem filter_push {α : Type} {l : List α} {x : α} {b : α → Bool} {β : Type} {f : α → β} (h : b x = true) : ((l ++ [x]).filter b).map f = (l.filter b).map f ++ [f x] := by
  rw [List.filter_append, List.map_append]
  simp [h]
theorem filter_skip {α : Type} {l : List α} {x : α} {b : α → Bool} {β : Type} {f : α → β} (h : b x = false) : ((l ++ [x]).filter b).map f = (l.filter b).map f := by
  rw [List.filter_append, List.map_append]
  simp [h]
/-- [f k for k in range(n) if b k] -/
theorem lcRF {n : Nat} (b : Nat → Bool) (f : Nat → Int) (hn : n ≤ 100000) (hw : ∀ x : Int, wipe ((wipe σ vs).set i (some (.int x))) vs = wipe σ vs)
    (ht : ∀ D k ns H1 (R : Bool → Hp → Prop), k < n → Led H [(D, ilst ns)] H1 → (∀ H2, Led H [(D, ilst ns)] H2 → R (b k) H2) → tt ((wipe σ vs).set i (some (.int (0 + k)))) H1 R)
    (he : ∀ D k ns H1 (R : VK), k < n → Led H [(D, ilst ns)] H1 → (∀ H2, Led H [(D, ilst ns)] H2 → R (.int (f k)) H2) → te ((wipe σ vs).set i (some (.int (0 + k)))) H1 R)
    (hd : ∀ D H1, H D = none → Same H H1 → H1 D = some (ilst (((List.range n).filter b).map f)) → Q (.ref D) H1) : LcR 0 n i tt te vs σ H Q := by
  refine lcRT (fun D k H1 => Led H [(D, ilst (((List.range k).filter b).map f))] H1) (fun D nD => (Led.nil H).alloc nD _) hw (fun D k H1 nD hk l1 => ?_) (fun D H1 nD l1 => hd D H1 nD l1.same (l1.get 0 rfl))
  refine ht D k _ H1 _ hk l1 fun H2 l2 => ?_
  cases hb : b k with
  | false =>
    refine iteF ?_
    show Led H [(D, ilst (((List.range (k + 1)).filter b).map f))] H2
    rw [List.range_succ, filter_skip hb]
    exact l2
  | true =>
    refine iteT ?_
    refine he D k _ H2 _ hk l2 fun H3 l3 => ?_
    refine ⟨_, l3.get 0 rfl, ?_, ?_⟩
    · have h1 := List.length_filter_le b (List.range k)
      rw [List.length_range] at h1
      rw [List.length_map, List.length_map]
      exact Nat.lt_of_lt_of_le (show _ < 100000 by omega) (by decide)
    · show Led H [(D, ilst (((List.range (k + 1)).filter b).map f))] _
      rw [List.range_succ, filter_push hb]
      exact ints_push l3
/-- [f x for x in xs if b x], xs ints -/
theorem lcLF {a : Addr} {xs : List Int} (b : Int → Bool) (f : Int → Int) (hn : xs.length ≤ 100000) (s : SqL K H a (xs.map V.int)) (hw : ∀ x : V, wipe ((wipe σ vs).set i (some x)) vs = wipe σ vs)
    (ht : ∀ D x ns H1 (R : Bool → Hp → Prop), x ∈ xs → Led H [(D, ilst ns)] H1 → (∀ H2, Led H [(D, ilst ns)] H2 → R (b x) H2) → tt ((wipe σ vs).set i (some (.int x))) H1 R)
    (he : ∀ D x ns H1 (R : VK), x ∈ xs → Led H [(D, ilst ns)] H1 → (∀ H2, Led H [(D, ilst ns)] H2 → R (.int (f x)) H2) → te ((wipe σ vs).set i (some (.int x))) H1 R)
    (hd : ∀ D H1, H D = none → Same H H1 → H1 D = some (ilst ((xs.filter b).map f)) → Q (.ref D) H1) : LcL K a i tt te vs σ H Q := by
  intro D nD
  refine lc_list (xs := xs.map V.int) (g := gName i) (fun k H1 => Led H [(D, ilst (((xs.take k).filter b).map f))] H1) ((Led.nil H).alloc nD _) (fun k H1 hk l1 => l1.base s) (fun k x H1 hx l1 => ⟨hw _, ?_⟩) (fun H1 l1 => hd D H1 nD l1.same (by
    have z := l1.get 0 rfl
    rw [List.length_map, List.take_length] at z
    exact z))
  have hk : k < xs.length := by
    have := (List.getElem?_eq_some_iff.mp hx).1
    simpa using this
  rw [List.getElem?_map, List.getElem?_eq_getElem hk] at hx
  cases hx
  have e : xs.take (k + 1) = xs.take k ++ [xs[k]] := by rw [List.take_add_one, List.getElem?_eq_getElem hk]; rfl
  refine ht D _ _ H1 _ (List.getElem_mem hk) l1 fun H2 l2 => ?_
  cases hb : b xs[k] with
  | false =>
    refine iteF ?_
    show Led H [(D, ilst (((xs.take (k + 1)).filter b).map f))] H2
    rw [e, filter_skip hb]
    exact l2
  | true =>
    refine iteT ?_
    refine he D _ _ H2 _ (List.getElem_mem hk) l2 fun H3 l3 => ?_
    refine ⟨_, l3.get 0 rfl, ?_, ?_⟩
    · have h1 := List.length_filter_le b (xs.take k)
      rw [List.length_take] at h1
      rw [List.length_map, List.length_map]
      exact Nat.lt_of_lt_of_le (show _ < 100000 by omega) (by decide)
    · show Led H [(D, ilst (((xs.take (k + 1)).filter b).map f))] _
      rw [e, filter_push hb]
      exact ints_push l3
theorem bls_push {H2 : Hp} {D : Addr} {ns : List Bool} {x : Bool} (h : Led H [(D, blst ns)] H2) : Led H [(D, blst (ns ++ [x]))] (upd H2 D (.lst (ns.map V.bl ++ [V.bl x]))) := by
  have z := h.set (i := 0) rfl (.lst (ns.map V.bl ++ [V.bl x]))
  have e2 : blst (ns ++ [x]) = .lst (ns.map V.bl ++ [V.bl x]) := by rw [blst, List.map_append]; rfl
  rw [e2]
  exact z
/-- [f k for k in range(n)], truths -/
theorem lcRB {n : Nat} (f : Nat → Bool) (hn : n ≤ 100000) (hw : ∀ x : Int, wipe ((wipe σ vs).set i (some (.int x))) vs = wipe σ vs)
    (he : ∀ D k ns H1 (R : VK), k < n → Led H [(D, blst ns)] H1 → (∀ H2, Led H [(D, blst ns)] H2 → R (.bl (f k)) H2) → te ((wipe σ vs).set i (some (.int (0 + k)))) H1 R)
    (hd : ∀ D H1, H D = none → Same H H1 → H1 D = some (blst ((List.range n).map f)) → Q (.ref D) H1) : LcR 0 n i tYes te vs σ H Q := by
  refine lcR (fun D k H1 => Led H [(D, blst ((List.range k).map f))] H1) (fun D nD => (Led.nil H).alloc nD _) hw (fun D k H1 nD hk l1 => ?_) (fun D H1 nD l1 => hd D H1 nD l1.same (l1.get 0 rfl))
  refine he D k _ H1 _ hk l1 fun H2 l2 => ⟨_, l2.get 0 rfl, ?_, ?_⟩
  · rw [List.length_map, List.length_map, List.length_range]
    exact Nat.lt_of_lt_of_le (show _ < 100000 by omega) (by decide)
  · show Led H [(D, blst ((List.range (k + 1)).map f))] _
    rw [List.range_succ, List.map_append]
    exact bls_push l2
/-- one and the same value for each item -/
theorem lcRowsV {a : Addr} {rows : List (List Int)} {v : V} (R : RowsAt H a rows) (hn : rows.length ≤ 100000) (hw : ∀ x : V, wipe ((wipe σ vs).set i (some x)) vs = wipe σ vs)
    (hd : ∀ D H1, H D = none → Same H H1 → H1 D = some (.lst (List.replicate rows.length v)) → Q (.ref D) H1) : LcL K a i tYes (tC v) vs σ H Q := by
  obtain ⟨as, e1, e2, _⟩ := R.sq (K := K)
  refine lcL (xs := as.map V.ref) (fun D k H1 => Led H [(D, .lst (List.replicate k v))] H1) (fun D nD => (Led.nil H).alloc nD _) (fun D k H1 _ l1 => l1.base e1) hw (fun D k x H1 nD hx l1 => ?_) (fun D H1 nD l1 => hd D H1 nD l1.same (by
    have z := l1.get 0 rfl
    rw [List.length_map, e2] at z
    exact z))
  have hk : k < rows.length := by
    have := (List.getElem?_eq_some_iff.mp hx).1
    rw [List.length_map, e2] at this
    exact this
  refine ⟨_, l1.get 0 rfl, ?_, ?_⟩
  · rw [List.length_replicate]
    exact Nat.lt_of_lt_of_le (show _ < 100000 by omega) (by decide)
  · have z := l1.set (i := 0) rfl (.lst (List.replicate k v ++ [v]))
    rw [← List.replicate_succ'] at z ⊢
    exact z
end
section
variable {K : PySem.W.Frag} {H : Hp} {Q : VK} {B : Hp} {L : List (Addr × HO)}
theorem g_setBl (led : Led B L H) (j : Nat) {p : Addr} {ns : List Bool} {i : Int} {x : Bool} {R : Hp → Prop} (e : L[j]? = some (p, blst ns)) (h0 : 0 ≤ i) (h1 : i < ns.length) (q : ∀ H', Led B (L.set j (p, blst (ns.set i.toNat x))) H' → R H') :
    rSetL (.ref p) (.int i) (.bl x) H R := by
  refine ⟨p, ns.map V.bl, i, i.toNat, rfl, rfl, led.get j e, ?_, ?_⟩
  · rw [List.length_map]
    exact ixN_of h0 h1
  · rw [show (ns.map V.bl).set i.toNat (V.bl x) = (ns.set i.toNat x).map V.bl from List.map_set.symm]
    exact q _ (led.set e _)
theorem g_all {p : Addr} {bs : List Bool} (s : SqL K H p (bs.map V.bl)) (h : Q (.bl (bs.all id)) H) : rAll K [.ref p] H Q := ⟨p, bs, rfl, s, h⟩
theorem g_any {p : Addr} {bs : List Bool} (s : SqL K H p (bs.map V.bl)) (h : Q (.bl (bs.any id)) H) : rAny K [.ref p] H Q := ⟨p, bs, rfl, s, h⟩
theorem inV_ints {x : Int} {ns : List Int} : inV (.int x) (ns.map V.int) = decide (x ∈ ns) := by
  unfold inV
  rw [List.any_map]
  induction ns with
  | nil => rfl
  | cons n ns ih =>
    rw [List.any_cons, ih]
    show ((n == x) || _) = _
    by_cases e : n = x
    · subst e
      simp
    · have e2 : ¬ x = n := fun z => e z.symm
      simp [e, e2]
theorem flat_ints : ∀ ns : List Int, (ns.map V.int).all flatV = true
  | [] => rfl
  | n :: ns => by
    rw [List.map_cons, List.all_cons, flat_ints ns]
    rfl
theorem g_inI {p : Addr} {ns : List Int} {x : Int} (s : SqL K H p (ns.map V.int)) (h : Q (.bl (decide (x ∈ ns))) H) : rIn K false (.int x) (.ref p) H Q :=
  ⟨p, _, rfl, .inl s, rfl, flat_ints ns, by rw [if_neg (by decide), inV_ints]; exact h⟩
theorem inV_bls {x : Bool} {ns : List Bool} : inV (.bl x) (ns.map V.bl) = decide (x ∈ ns) := by
  unfold inV
  rw [List.any_map]
  induction ns with
  | nil => rfl
  | cons n ns ih =>
    rw [List.any_cons, ih]
    show ((n == x) || _) = _
    cases n <;> cases x <;> simp
theorem flat_bls : ∀ ns : List Bool, (ns.map V.bl).all flatV = true
  | [] => rfl
  | n :: ns => by
    rw [List.map_cons, List.all_cons, flat_bls ns]
    rfl
theorem g_ninB {p : Addr} {ns : List Bool} {x : Bool} (s : SqL K H p (ns.map V.bl)) (h : Q (.bl (!decide (x ∈ ns))) H) : rIn K true (.bl x) (.ref p) H Q :=
  ⟨p, _, rfl, .inl s, rfl, flat_bls ns, by rw [if_pos rfl, inV_bls]; exact h⟩
end
theorem whileN {tt : TT} {tb : TS} {D : Ends} {σ : L2.St} {H : Hp} (W : Nat → L2.St → Hp → Prop) (m0 : Nat) (h0 : W m0 σ H)
    (hs : ∀ m σ H, W m σ H → tt σ H fun b H1 => if b = true then ∃ N : L2.St → Hp → Prop, (∀ σ' H', N σ' H' → ∃ m', m' < m ∧ W m' σ' H') ∧ tb { D with nx := N, ct := N, bk := D.nx } σ H1 else D.nx σ H1) : tWhile tt tb D σ H := ⟨W, ⟨m0, h0⟩, hs⟩
section
variable {K : PySem.W.Frag} {σ : L2.St} {H : Hp} {Q : VK} {te : TE} {tt : TT} {i : Nat} {vs : List Nat}
theorem lcLRowsL {a : Addr} {xs : List V} (P : List (List Int) → Prop) (h0 : P []) (hn : xs.length ≤ 100000) (s : SqL K H a xs) (hw : ∀ x : V, wipe ((wipe σ vs).set i (some x)) vs = wipe σ vs)
    (hs : ∀ D k v as rows H1 (R : VK), xs[k]? = some v → rows.length = k → P rows → Led H (rowLed D as rows) H1 → (∀ r row H2, P (rows ++ [row]) → Led H (rowLed D as rows ++ [(r, ilst row)]) H2 → R (.ref r) H2) → te ((wipe σ vs).set i (some v)) H1 R)
    (hd : ∀ D as rows H1, as.length = rows.length → rows.length = xs.length → P rows → Led H (rowLed D as rows) H1 → Q (.ref D) H1) : LcL K a i tYes te vs σ H Q :=
  lcL (xs := xs) (RowsUp H P) (fun D nD => RowsUp.start h0 D nD) (fun D k H1 _ ⟨as, rows, e0, e, p1, l1⟩ => l1.base s) hw
    (fun D k v H1 nD hx ⟨as, rows, e0, e, p1, l1⟩ => hs D k v as rows H1 _ hx e p1 l1 fun r row H2 p2 l2 => RowsUp.step e0 e (by have := (List.getElem?_eq_some_iff.mp hx).1; omega) p2 l2)
    (fun D H1 nD ⟨as, rows, e0, e, p1, l1⟩ => hd D as rows H1 e0 e p1 l1)
/-- each row copied, the copies in the ledger -/
theorem lcCopyL {a : Addr} {rows : List (List Int)} (R : RowsAt H a rows) (hn : rows.length ≤ 100000) (hw : ∀ x : V, wipe ((wipe σ vs).set i (some x)) vs = wipe σ vs) (hi : ∀ x : V, ((wipe σ vs).set i (some x))[i]? = some (some x))
    (hd : ∀ D as H1, as.length = rows.length → Led H (rowLed D as rows) H1 → Q (.ref D) H1) : LcL K a i tYes (tCB (mList K) (tCons (tVar i) tNil)) vs σ H Q := by
  obtain ⟨as, e1, e2, e3⟩ := R.sq (K := K)
  refine lcLRowsL (fun rs => rs = rows.take rs.length) rfl (by rw [List.length_map, e2]; exact hn) e1 hw (fun D k v bs rs H1 S hx e p l q => ?_) (fun D as' rs H1 e0 e p l => ?_)
  · obtain ⟨r, rfl, hk, hr⟩ := e3 k v hx
    refine g_cb (g_cons (g_var (hi _) (g_nil (g_list (l.base hr) fun m nm => q m (rows.getD k []) _ ?_ (l.alloc nm _)))))
    rw [List.length_append, e]
    show rs ++ [rows.getD k []] = rows.take (k + 1)
    rw [p, e, List.take_add_one, List.getD_eq_getElem?_getD, List.getElem?_eq_getElem hk]
    rfl
  · rw [List.length_map, e2] at e
    rw [e, List.take_length] at p
    subst p
    exact hd D as' H1 e0 l
end

@[irreducible] def sp_drawn (K : PySem.W.Frag) (_ : Ads) : Sp := fun vs H Q _ => ∃ (a : Addr) (ns : List Int) (k many : Int), vs = [.ref a, .int k, .int many] ∧ SqL K H a (ns.map V.int) ∧ 0 ≤ k ∧ k < 2147483648 ∧ 0 < many ∧
  ∀ d, 0 ≤ d → d < many → Q (.int d) H
theorem len_drawn {K : PySem.W.Frag} {G : Ads} {vs H Q E} (h : sp_drawn K G vs H Q E) : vs.length = 3 := by
  unfold sp_drawn at h
  obtain ⟨a, ns, k, many, rfl, _⟩ := h
  rfl
theorem c_drawn {K : PySem.W.Frag} {G : Ads} {H : Hp} {Q : VK} {E : XK} {a : Addr} {ns : List Int} {k many : Int} (s : SqL K H a (ns.map V.int)) (h0 : 0 ≤ k) (h1 : k < 2147483648) (h2 : 0 < many) (q : ∀ d, 0 ≤ d → d < many → Q (.int d) H) :
    sp_drawn K G [.ref a, .int k, .int many] H Q E := by
  unfold sp_drawn
  exact ⟨a, ns, k, many, rfl, s, h0, h1, h2, q⟩
def t_drawn_c2 (K : PySem.W.Frag) (G : Ads) (E : XK) : TS :=
  (tSeq (tAsg (tOp mAdd (tOp mAdd (tOp mMul (tVar 3) (tOp mAdd (tC (.int 48271)) (tOp mMul (tC (.int 9973)) (tOp mMod (tVar 1) (tC (.int 97)))))) (tOp mMul (tOp mMul (tOp mAdd (tVar 1) (tC (.int 1))) (tOp mAdd (tVar 1) (tC (.int 3)))) (tC (.int 16807)))) (tCB (mLen K) (tCons (tVar 0) tNil))) (gName 4))
    (tRet (tOp mMod (tOp mFdiv (tOp mMod (tVar 4) (tC (.int 2147483647))) (tC (.int 16))) (tVar 2))))
def t_drawn (K : PySem.W.Frag) (G : Ads) (E : XK) : TS :=
  (tSeq (tAsg (tC (.int 7)) (gName 3))
    (tSeq (tIfS (tTest (tOp mGt (tCB (mLen K) (tCons (tVar 0) tNil)) (tC (.int 0))))
    (tAsg (tOp (rIxL K) (tVar 0) (tOp mMod (tVar 1) (tCB (mLen K) (tCons (tVar 0) tNil)))) (gName 3))
    tNext)
    (t_drawn_c2 K G E)))
abbrev N_drawn : List Str := ["script", "k", "many", "cell", "mixed"]

theorem pure_drawn {K : PySem.W.Frag} {G : Ads} {vs H Q E} (h : sp_drawn K G vs H Q E) : t_drawn K G E { nx := fun _ H' => Q .non H', rt := Q } (start N_drawn vs) H := by
  unfold sp_drawn at h
  obtain ⟨a, ns, k, many, rfl, hS, hk, hk2, hm, q⟩ := h
  show t_drawn K G E _ [some (.ref a), some (.int k), some (.int many), none, none] H
  unfold t_drawn
  walk_at "g"
  have fin : ∀ c : Int, t_drawn_c2 K G E { nx := fun _ H' => Q .non H', rt := Q } [some (.ref a), some (.int k), some (.int many), some (.int c), none] H := fun c => by
    unfold t_drawn_c2
    walk_at "g"
    exact q _ (Int.emod_nonneg _ (by omega)) (Int.emod_lt_of_pos _ hm)
  refine ifP (fun h => ?_) (fun h => ?_)
  · walk_at "g"
    exact fin _
  · walk_at "g"
    exact fin _

@[irreducible] def sp_other (_ : PySem.W.Frag) (_ : Ads) : Sp := fun vs H Q _ => ∃ (g many : Int), vs = [.int g, .int many] ∧ Q (.int (other g many)) H
theorem len_other {K : PySem.W.Frag} {G : Ads} {vs H Q E} (h : sp_other K G vs H Q E) : vs.length = 2 := by
  unfold sp_other at h
  obtain ⟨a, ns, rfl, _⟩ := h
  rfl
theorem c_other {K : PySem.W.Frag} {G : Ads} {H : Hp} {Q : VK} {E : XK} {g many : Int} (q : Q (.int (other g many)) H) : sp_other K G [.int g, .int many] H Q E := by
  unfold sp_other
  exact ⟨g, many, rfl, q⟩
def t_other (K : PySem.W.Frag) (G : Ads) (E : XK) : TS :=
  (tSeq (tIfS (tTest (tOp mLt (tVar 0) (tC (.int 0))))
    (tRet (tVar 0))
    tNext)
    (tRet (tOp mSub (tOp mSub (tVar 1) (tC (.int 1))) (tVar 0))))
abbrev N_other : List Str := ["gone", "many"]

theorem pure_other {K : PySem.W.Frag} {G : Ads} {vs H Q E} (h : sp_other K G vs H Q E) : t_other K G E { nx := fun _ H' => Q .non H', rt := Q } (start N_other vs) H := by
  unfold sp_other at h
  obtain ⟨g, many, rfl, q⟩ := h
  show t_other K G E _ [some (.int g), some (.int many)] H
  unfold t_other
  walk_at "g"
  unfold other at q
  refine ifP (fun h => ?_) (fun h => ?_)
  · walk_at "g"
    rw [if_pos h] at q
    exact q
  · walk_at "g"
    rw [if_neg h] at q
    exact q
/-- [[other(gone, many) for gone in row] for row in reversed(rows)] -/
theorem g_lcFlip {K : PySem.W.Frag} {G : Ads} {σ : L2.St} {H : Hp} {Q : VK} {i j m : Nat} {vs ws : List Nat} {a : Addr} {rows : List (List Int)} (R : RowsAt H a rows) (hn : rows.length ≤ 100000) (hrow : ∀ k, k < rows.length → (rows.getD k []).length ≤ 100000)
    (hw : ∀ x : V, wipe ((wipe σ vs).set i (some x)) vs = wipe σ vs) (hw2 : ∀ x y : V, wipe ((wipe ((wipe σ vs).set i (some x)) ws).set j (some y)) ws = wipe ((wipe σ vs).set i (some x)) ws)
    (h1 : ∀ x : V, ((wipe σ vs).set i (some x))[i]? = some (some x)) (h2 : ∀ x y : V, ((wipe ((wipe σ vs).set i (some x)) ws).set j (some y))[j]? = some (some y)) (h3 : ∀ x y : V, ((wipe ((wipe σ vs).set i (some x)) ws).set j (some y))[m]? = some (some (.int rows.length)))
    (hd : ∀ D H1, Same H H1 → NewRows H H1 D (flipRows rows) → Q (.ref D) H1) :
    ∃ (b : Addr) (ys : List V), [V.ref a] = [.ref b] ∧ SqL K H b ys ∧ LcV K b ys.length i tYes (tLc (iList K (tVar i)) (gName j) tYes (tCall (sp_other K G) [] E0 (tCons (tVar j) (tCons (tVar m) tNil))) ws) vs σ H Q := by
  obtain ⟨bs, s1, e1, at1⟩ := R.sq (K := K)
  refine g_lstv s1 ?_
  have hbl : (bs.map V.ref).length = rows.length := by rw [List.length_map, e1]
  refine lcVRows (fun rs => ∀ k : Nat, k < rs.length → rs.getD k [] = (flipRows rows).getD k []) (fun k hk => by simp at hk) (by rw [hbl]; omega) s1 hw (fun D k v cs rs H2 S hk hx el p l2 qs => ?_) (fun D rs H2 el p s2 n2 => ?_)
  · rw [hbl] at hk
    rw [hbl] at hx
    obtain ⟨r, rfl, hk2, hr2⟩ := at1 _ _ hx
    refine g_lcL (g_var (h1 _) (g_lstw (l2.base hr2) ?_))
    refine lcLI (fun zs => zs = ((rows.getD (rows.length - 1 - k) []).map (fun g => other g rows.length)).take zs.length) rfl (by rw [List.length_map]; exact hrow _ hk2) (l2.base hr2) (fun x => hw2 _ x) (fun D2 j v zs H3 S3 hx3 el3 p3 l3 qs3 => ?_) (fun D2 zs H3 nD2 el3 p3 s3 hD2 => ?_)
    · obtain ⟨g, hg, rfl⟩ : ∃ g, (rows.getD (rows.length - 1 - k) [])[j]? = some g ∧ v = V.int g := by
        rw [List.getElem?_map] at hx3
        cases z : (rows.getD (rows.length - 1 - k) [])[j]? with
        | none =>
          rw [z] at hx3
          cases hx3
        | some g =>
          rw [z] at hx3
          exact ⟨g, rfl, (Option.some.inj hx3).symm⟩
      refine g_call (g_cons (g_var (h2 _ _) (g_cons (g_var (h3 _ _) (g_nil ?_)))))
      refine c_other (qs3 _ _ ?_ l3)
      rw [List.length_append, el3]
      show zs ++ [other g rows.length] = List.take (j + 1) _
      rw [List.take_add_one, List.getElem?_map, hg, ← el3, ← p3]
      rfl
    · rw [List.length_map] at el3
      refine qs D2 zs H3 (fun m hm2 => ?_) (l2.add s3 nD2 hD2)
      rw [List.length_append] at hm2
      by_cases z : m < rs.length
      · rw [List.getD_eq_getElem?_getD, List.getElem?_append_left z, ← List.getD_eq_getElem?_getD]
        exact p m z
      · have e2 : m = rs.length := by simp at hm2; omega
        subst e2
        rw [List.getD_eq_getElem?_getD, List.getElem?_append_right (Nat.le_refl _), Nat.sub_self, el, flip_at hk]
        show zs = _
        rw [p3, el3, ← List.length_map (f := fun g => other g rows.length), List.take_length]
  · rw [hbl] at el
    have er : rs = flipRows rows := rows_ext (by rw [flip_length]; exact el) p
    subst er
    exact hd D H2 s2 n2

@[irreducible] def sp_rows_by (K : PySem.W.Frag) (_ : Ads) : Sp := fun vs H Q _ => ∃ (a : Addr) (ns : List Int), vs = [.ref a] ∧ SqL K H a (ns.map V.int) ∧
  ∀ (p : Addr) (rows : List (List Int)) (H' : Hp), Shape rows → Same H H' → NewRows H H' p rows → Q (.ref p) H'
theorem len_rows_by {K : PySem.W.Frag} {G : Ads} {vs H Q E} (h : sp_rows_by K G vs H Q E) : vs.length = 1 := by
  unfold sp_rows_by at h
  obtain ⟨a, ns, rfl, _⟩ := h
  rfl
theorem c_rows_by {K : PySem.W.Frag} {G : Ads} {H : Hp} {Q : VK} {E : XK} {a : Addr} {ns : List Int} (s : SqL K H a (ns.map V.int)) (q : ∀ (p : Addr) (rows : List (List Int)) (H' : Hp), Shape rows → Same H H' → NewRows H H' p rows → Q (.ref p) H') : sp_rows_by K G [.ref a] H Q E := by
  unfold sp_rows_by
  exact ⟨a, ns, rfl, s, q⟩
def t_rows_by_c4_4 (K : PySem.W.Frag) (G : Ads) (E : XK) : TS :=
  (tSeq (tAsg (tLc (iRng1 (tCons (tVar 6) tNil)) (gName 8) tYes (tOp mSub (tCall (sp_drawn K G) [] E0 (tCons (tVar 0) (tCons (tOp mAdd (tOp mAdd (tVar 5) (tC (.int 3))) (tVar 8)) (tCons (tVar 7) tNil)))) (tC (.int 1))) [8]) (gName 9))
    (tSeq (tAsg (tOp mSub (tCall (sp_drawn K G) [] E0 (tCons (tVar 0) (tCons (tOp mAdd (tVar 5) (tC (.int 2))) (tCons (tOp mAdd (tVar 4) (tC (.int 1))) tNil)))) (tC (.int 1))) (gSub (tVar 9) (tCall (sp_drawn K G) [] E0 (tCons (tVar 0) (tCons (tOp mAdd (tVar 5) (tC (.int 1))) (tCons (tVar 6) tNil)))) rSetL))
    (tDrop (tBM K "list" rAppend (tVar 3) (tCons (tVar 9) tNil)))))
def t_rows_by_c7 (K : PySem.W.Frag) (G : Ads) (E : XK) : TS :=
  (tRet (tVar 3))
def t_rows_by_c6 (K : PySem.W.Frag) (G : Ads) (E : XK) : TS :=
  (tSeq (tIfS (tTest (tOp rEq (tCall (sp_drawn K G) [] E0 (tCons (tVar 0) (tCons (tC (.int 3)) (tCons (tC (.int 2)) tNil)))) (tC (.int 1))))
    (tAsg (tLc (iRev K (tCons (tVar 3) tNil)) (gName 9) tYes (tLc (iList K (tVar 9)) (gName 10) tYes (tCall (sp_other K G) [] E0 (tCons (tVar 10) (tCons (tVar 2) tNil))) [10]) [9]) (gName 3))
    tNext)
    (t_rows_by_c7 K G E))
def t_rows_by_c5 (K : PySem.W.Frag) (G : Ads) (E : XK) : TS :=
  (tSeq (tIfS (tAnd (tB (tVar 1)) (tTest (tOp mGt (tCall (sp_drawn K G) [] E0 (tCons (tVar 0) (tCons (tC (.int 4)) (tCons (tC (.int 3)) tNil)))) (tC (.int 0)))))
    (tFor (iRng1 (tCons (tC (.int 3)) tNil)) (gName 8)
    (tSeq (tAsg (tOp (rIxL K) (tVar 3) (tCall (sp_drawn K G) [] E0 (tCons (tVar 0) (tCons (tOp mAdd (tC (.int 5)) (tVar 8)) (tCons (tVar 2) tNil))))) (gName 9))
    (tIfS (tTest (tOp mLt (tCB (mLen K) (tCons (tVar 9) tNil)) (tC (.int 8))))
    (tDrop (tBM K "list" rInsert (tVar 9) (tCons (tCall (sp_drawn K G) [] E0 (tCons (tVar 0) (tCons (tOp mAdd (tC (.int 253)) (tVar 8)) (tCons (tOp mAdd (tCB (mLen K) (tCons (tVar 9) tNil)) (tC (.int 1))) tNil)))) (tCons (tCall (sp_drawn K G) [] E0 (tCons (tVar 0) (tCons (tOp mAdd (tC (.int 250)) (tVar 8)) (tCons (tVar 2) tNil)))) tNil))))
    tNext)))
    tNext)
    (t_rows_by_c6 K G E))
def t_rows_by_c3 (K : PySem.W.Frag) (G : Ads) (E : XK) : TS :=
  (tSeq (tAsg (tLst tNil) (gName 3))
    (tSeq (tFor (iRng1 (tCons (tVar 2) tNil)) (gName 4)
    (tSeq (tAsg (tOp mAdd (tC (.int 10)) (tOp mMul (tC (.int 20)) (tVar 4))) (gName 5))
    (tSeq (tAsg (tOp mAdd (tC (.int 1)) (tCall (sp_drawn K G) [] E0 (tCons (tVar 0) (tCons (tVar 5) (tCons (tC (.int 3)) tNil))))) (gName 6))
    (tSeq (tAsg (tOp mAdd (tVar 2) (tC (.int 1))) (gName 7))
    (tSeq (tIfS (tB (tVar 1))
    (tSeq (tAsg (tOp mAdd (tC (.int 1)) (tCall (sp_drawn K G) [] E0 (tCons (tVar 0) (tCons (tVar 5) (tCons (tC (.int 8)) tNil))))) (gName 6))
    (tAsg (tOp mAdd (tVar 4) (tC (.int 1))) (gName 7)))
    tNext)
    (t_rows_by_c4_4 K G E))))))
    (t_rows_by_c5 K G E)))
def t_rows_by (K : PySem.W.Frag) (G : Ads) (E : XK) : TS :=
  (tSeq (tAsg (tOp rEq (tCall (sp_drawn K G) [] E0 (tCons (tVar 0) (tCons (tC (.int 0)) (tCons (tC (.int 4)) tNil)))) (tC (.int 1))) (gName 1))
    (tSeq (tAsg (tOp mAdd (tC (.int 1)) (tCall (sp_drawn K G) [] E0 (tCons (tVar 0) (tCons (tC (.int 1)) (tCons (tC (.int 4)) tNil))))) (gName 2))
    (tSeq (tIfS (tB (tVar 1))
    (tAsg (tOp mAdd (tC (.int 5)) (tCall (sp_drawn K G) [] E0 (tCons (tVar 0) (tCons (tC (.int 2)) (tCons (tC (.int 8)) tNil))))) (gName 2))
    tNext)
    (t_rows_by_c3 K G E))))
abbrev N_rows_by : List Str := ["script", "big", "many", "rows", "k", "at", "size", "top", "j", "row", "gone"]

/-- the k-th row as it is drawn -/
def RowK (big : Bool) (many : Int) (j : Nat) (row : List Int) : Prop := 1 ≤ row.length ∧ (row.length : Int) ≤ (if big = true then 8 else 3) ∧ (∀ g, g ∈ row → -1 ≤ g ∧ g < many) ∧ (∃ g, g ∈ row ∧ g < (j : Int)) ∧ (big = true → ∀ g, g ∈ row → g < (j : Int))
def RowsK (big : Bool) (many : Int) (rows : List (List Int)) : Prop := ∀ j : Nat, j < rows.length → RowK big many j (rows.getD j [])
def ManyOk (big : Bool) (many : Int) : Prop := (big = false ∧ 1 ≤ many ∧ many ≤ 4) ∨ (big = true ∧ 5 ≤ many ∧ many ≤ 12)
theorem RowsK.push {big : Bool} {many : Int} {rows : List (List Int)} {row : List Int} (h : RowsK big many rows) (r : RowK big many rows.length row) : RowsK big many (rows ++ [row]) := fun j hj => by
  rw [List.length_append] at hj
  by_cases e : j < rows.length
  · rw [List.getD_eq_getElem?_getD, List.getElem?_append_left e, ← List.getD_eq_getElem?_getD]
    exact h j e
  · have e2 : j = rows.length := by simp at hj; omega
    subst e2
    rw [List.getD_eq_getElem?_getD, List.getElem?_append_right (Nat.le_refl _), Nat.sub_self]
    exact r
/-- what is known of the rows while exits are put in -/
def RowsJ (big : Bool) (many : Int) (u : Nat) (rows : List (List Int)) : Prop := (rows.length : Int) = many ∧ ManyOk big many ∧ OkRows rows ∧ Down rows ∧ (big = false → ∀ row, row ∈ rows → row.length ≤ 3) ∧ (big = true → upsFrom 0 rows ≤ u)
theorem ups_all : ∀ (k : Nat) (rows : List (List Int)), (∀ j : Nat, j < rows.length → ∀ g, g ∈ rows.getD j [] → g < ((k + j : Nat) : Int)) → upsFrom k rows = 0
  | _, [], _ => rfl
  | k, row :: r, h => by
    show ups k row + upsFrom (k + 1) r = 0
    rw [ups_zero (k := k) (row := row) (fun g hg => h 0 (by simp) g hg), ups_all (k + 1) r fun j hj g hg => by
      have := h (j + 1) (by simpa using hj) g hg
      rw [show k + 1 + j = k + (j + 1) by omega]
      exact this]
theorem mem_getD {rows : List (List Int)} {row : List Int} (h : row ∈ rows) : ∃ j : Nat, j < rows.length ∧ rows.getD j [] = row := by
  obtain ⟨j, hj, e⟩ := List.getElem_of_mem h
  exact ⟨j, hj, by rw [List.getD_eq_getElem?_getD, List.getElem?_eq_getElem hj]; exact e⟩
theorem RowsK.to {big : Bool} {many : Int} {rows : List (List Int)} (h : RowsK big many rows) (hm : ManyOk big many) (e : (rows.length : Int) = many) : RowsJ big many 0 rows := by
  refine ⟨e, hm, ⟨?_, ?_, fun row hr => ?_⟩, fun k hk => (h k hk).2.2.2.1, fun hb row hr => ?_, fun hb => ?_⟩
  · unfold ManyOk at hm; omega
  · unfold ManyOk at hm; omega
  · obtain ⟨j, hj, rfl⟩ := mem_getD hr
    obtain ⟨h1, h2, h3, _⟩ := h j hj
    refine ⟨h1, ?_, fun g hg => ⟨(h3 g hg).1, by rw [e]; exact (h3 g hg).2⟩⟩
    split at h2 <;> omega
  · obtain ⟨j, hj, rfl⟩ := mem_getD hr
    have h2 := (h j hj).2.1
    rw [hb, if_neg (by decide)] at h2
    omega
  · rw [ups_all 0 rows fun j hj g hg => by
      have := (h j hj).2.2.2.2 hb g hg
      rw [Nat.zero_add]
      exact this]
    exact Nat.le_refl _
theorem mem_insert {row : List Int} {i : Nat} {x g : Int} : g ∈ row.take i ++ [x] ++ row.drop i ↔ g = x ∨ g ∈ row := by
  have e : g ∈ row ↔ g ∈ row.take i ∨ g ∈ row.drop i := by rw [← List.mem_append, List.take_append_drop]
  rw [e]
  simp only [List.mem_append, List.mem_singleton]
  constructor
  · rintro ((h | h) | h)
    · exact .inr (.inl h)
    · exact .inl h
    · exact .inr (.inr h)
  · rintro (h | h | h)
    · exact .inl (.inr h)
    · exact .inl (.inl h)
    · exact .inr h
theorem insert_length {row : List Int} {i : Nat} {x : Int} : (row.take i ++ [x] ++ row.drop i).length = row.length + 1 := by
  simp only [List.length_append, List.length_take, List.length_drop, List.length_singleton]
  omega
theorem RowsJ.insert {big : Bool} {many x : Int} {u i k : Nat} {rows : List (List Int)} (h : RowsJ big many u rows) (hb : big = true) (hk : k < rows.length) (h8 : (rows.getD k []).length < 8) (hx : -1 ≤ x ∧ x < many) :
    RowsJ big many (u + 1) (rows.set k ((rows.getD k []).take i ++ [x] ++ (rows.getD k []).drop i)) := by
  obtain ⟨e, hm, ok, dn, sm, up⟩ := h
  refine ⟨by rw [List.length_set]; exact e, hm, ⟨by rw [List.length_set]; exact ok.1, by rw [List.length_set]; exact ok.2.1, fun row hr => ?_⟩, fun j hj => ?_, fun q => ?_, fun _ => ?_⟩
  · rw [List.length_set]
    rcases List.mem_or_eq_of_mem_set hr with hr | rfl
    · exact ok.2.2 row hr
    · refine ⟨by rw [insert_length]; omega, by rw [insert_length]; omega, fun g hg => ?_⟩
      rcases mem_insert.mp hg with rfl | hg
      · omega
      · exact (ok.row hk).2.2 g hg
  · rw [List.length_set] at hj
    rw [getD_set hk]
    obtain ⟨g, hg, hl⟩ := dn j hj
    by_cases q : k = j
    · subst q
      rw [if_pos rfl]
      exact ⟨g, mem_insert.mpr (.inr hg), hl⟩
    · rw [if_neg q]
      exact ⟨g, hg, hl⟩
  · rw [hb] at q
    cases q
  · have h1 := upsFrom_set 0 rows k ((rows.getD k []).take i ++ [x] ++ (rows.getD k []).drop i) hk
    have h2 := ups_insert (k := 0 + k) (rows.getD k []) i x
    have h3 := up hb
    omega
theorem RowsJ.mono {big : Bool} {many : Int} {u u' : Nat} {rows : List (List Int)} (h : RowsJ big many u rows) (hu : u ≤ u') : RowsJ big many u' rows :=
  ⟨h.1, h.2.1, h.2.2.1, h.2.2.2.1, h.2.2.2.2.1, fun b => Nat.le_trans (h.2.2.2.2.2 b) hu⟩
theorem RowsJ.k0 {big : Bool} {many : Int} {rows : List (List Int)} (h : RowsJ big many 3 rows) : K0 rows := by
  obtain ⟨e, hm, ok, dn, sm, up⟩ := h
  refine ⟨ok, dn, ?_⟩
  cases big with
  | true => exact .inr (up rfl)
  | false =>
    refine .inl ⟨?_, sm rfl⟩
    unfold ManyOk at hm
    simp at hm
    omega
section
variable {K : PySem.W.Frag} {G : Ads} {H : Hp} {Q : VK} {E : XK} {a : Addr} {ns : List Int}
/-- the end: rows turned about or not -/
theorem rows_by_c6 (hS : SqL K H a (ns.map V.int)) (q : ∀ (p : Addr) (rows : List (List Int)) (H' : Hp), Shape rows → Same H H' → NewRows H H' p rows → Q (.ref p) H')
    {big : Bool} {many : Int} {ro : Addr} {as : List Addr} {rows : List (List Int)} {H1 : Hp} {v4 v5 v6 v7 v8 v9 : Option V} (e : as.length = rows.length) (hr : RowsJ big many 3 rows) (led : Led H (rowLed ro as rows) H1) :
    t_rows_by_c6 K G E { nx := fun _ H' => Q .non H', rt := Q } [some (.ref a), some (.bl big), some (.int many), some (.ref ro), v4, v5, v6, v7, v8, v9, none] H1 := by
  have hm := hr.1
  unfold t_rows_by_c6
  walk_at "g"
  refine c_drawn (by walk_at "sq") (by walk_at "ar") (by walk_at "ar") (by walk_at "ar") fun d h0 h1 => ?_
  walk_at "g"
  refine ifP (fun h => ?_) (fun h => ?_)
  · walk_at "g"
    have R := led.rowAt e
    obtain ⟨bs, s1, e1, at1⟩ := R.sq (K := K)
    refine g_lstv s1 ?_
    have hbl : (bs.map V.ref).length = rows.length := by rw [List.length_map, e1]
    have hn12 := hr.2.2.1.2.1
    refine lcVRows (fun rs => ∀ k : Nat, k < rs.length → rs.getD k [] = (flipRows rows).getD k []) (fun k hk => by simp at hk) (by rw [hbl]; omega) s1 (fun _ => rfl) (fun D k v cs rs H2 S hk hx el p l2 qs => ?_) (fun D rs H2 el p s2 n2 => ?_)
    · rw [hbl] at hk
      rw [hbl] at hx
      obtain ⟨r, rfl, hk2, hr2⟩ := at1 _ _ hx
      walk_at "g"
      refine lcLI (fun zs => zs = ((rows.getD (rows.length - 1 - k) []).map (fun g => other g rows.length)).take zs.length) rfl (by rw [List.length_map]; have := (hr.2.2.1.row hk2).2.1; omega) (l2.base hr2) (fun _ => rfl) (fun D2 j v zs H3 S3 hx3 el3 p3 l3 qs3 => ?_) (fun D2 zs H3 nD2 el3 p3 s3 hD2 => ?_)
      · obtain ⟨g, hg, rfl⟩ : ∃ g, (rows.getD (rows.length - 1 - k) [])[j]? = some g ∧ v = V.int g := by
          rw [List.getElem?_map] at hx3
          cases z : (rows.getD (rows.length - 1 - k) [])[j]? with
          | none =>
            rw [z] at hx3
            cases hx3
          | some g =>
            rw [z] at hx3
            exact ⟨g, rfl, (Option.some.inj hx3).symm⟩
        walk_at "g"
        refine c_other (qs3 _ _ ?_ l3)
        rw [List.length_append, el3]
        show zs ++ [other g many] = List.take (j + 1) _
        rw [List.take_add_one, List.getElem?_map, hg, ← el3, ← p3, hm]
        rfl
      · rw [List.length_map] at el3
        refine qs D2 zs H3 (fun m hm2 => ?_) (l2.add s3 nD2 hD2)
        rw [List.length_append] at hm2
        by_cases z : m < rs.length
        · rw [List.getD_eq_getElem?_getD, List.getElem?_append_left z, ← List.getD_eq_getElem?_getD]
          exact p m z
        · have e2 : m = rs.length := by simp at hm2; omega
          subst e2
          rw [List.getD_eq_getElem?_getD, List.getElem?_append_right (Nat.le_refl _), Nat.sub_self, el, flip_at hk]
          show zs = _
          rw [p3, el3, ← List.length_map (f := fun g => other g rows.length), List.take_length]
    · rw [hbl] at el
      have er : rs = flipRows rows := rows_ext (by rw [flip_length]; exact el) p
      walk_at "g"
      unfold t_rows_by_c7
      walk_at "g"
      refine q D rs H2 ⟨rows, hr.k0, .inr er⟩ (led.same.trans s2) (n2.back led.same)
  · walk_at "g"
    unfold t_rows_by_c7
    walk_at "g"
    exact q ro rows H1 ⟨rows, hr.k0, .inl rfl⟩ led.same (led.rowNew e)
end
/-- exits put in -/
theorem rows_by_c5 {K : PySem.W.Frag} {G : Ads} {H : Hp} {Q : VK} {E : XK} {a : Addr} {ns : List Int} (hS : SqL K H a (ns.map V.int)) (q : ∀ (p : Addr) (rows : List (List Int)) (H' : Hp), Shape rows → Same H H' → NewRows H H' p rows → Q (.ref p) H')
    {big : Bool} {many : Int} {ro : Addr} {as : List Addr} {rows : List (List Int)} {H1 : Hp} {v4 v5 v6 v7 v8 v9 : Option V} (e : as.length = rows.length) (hr : RowsJ big many 0 rows) (led : Led H (rowLed ro as rows) H1) :
    t_rows_by_c5 K G E { nx := fun _ H' => Q .non H', rt := Q } [some (.ref a), some (.bl big), some (.int many), some (.ref ro), v4, v5, v6, v7, v8, v9, none] H1 := by
  unfold t_rows_by_c5
  walk_at "g"
  refine ifC (fun hb => ?_) (fun hb => ?_)
  · walk_at "g"
    refine c_drawn (by walk_at "sq") (by walk_at "ar") (by walk_at "ar") (by walk_at "ar") fun d h0 h1 => ?_
    walk_at "g"
    refine ifP (fun h => ?_) (fun h => ?_)
    · walk_at "g"
      refine loopR (fun u σ H2 => ∃ (rows' : List (List Int)) (v8 v9 : Option V), σ = [some (.ref a), some (.bl big), some (.int many), some (.ref ro), v4, v5, v6, v7, v8, v9, none] ∧ as.length = rows'.length ∧ RowsJ big many u rows' ∧ Led H (rowLed ro as rows') H2)
        ⟨rows, _, _, rfl, e, hr, led⟩ ?_ ?_
      · rintro u σ H2 hu ⟨rows', v8', v9', rfl, e', hr', led'⟩
        have hmany : (rows'.length : Int) = many := hr'.1
        have hm12 := hr'.2.2.1
        have h1l := hm12.1
        walk_at "g"
        refine c_drawn (by walk_at "sq") (by walk_at "ar") (by walk_at "ar") (by walk_at "ar") fun d2 h2 h3 => ?_
        walk_at "g"
        have R := led'.rowAt e'
        have hd2 : d2.toNat < rows'.length := by omega
        obtain ⟨r, hr1⟩ : ∃ r, as[d2.toNat]? = some r := ⟨_, List.getElem?_eq_getElem (by omega)⟩
        have hrow : rows'[d2.toNat]? = some (rows'.getD d2.toNat []) := by rw [List.getD_eq_getElem?_getD, List.getElem?_eq_getElem hd2]; rfl
        have hz : (rowLed ro as rows')[d2.toNat + 1]? = some (r, ilst (rows'.getD d2.toNat [])) := zip_at hr1 hrow
        have hsr : SqL K H2 r ((rows'.getD d2.toNat []).map V.int) := led'.sq _ hz
        refine ⟨ro, as.map V.ref, d2, .ref r, rfl, rfl, led'.sq 0 rfl, at_of (j := d2.toNat) (by omega) (by rw [List.getElem?_map, hr1]; rfl), ?_⟩
        walk_at "g"
        refine ifP (fun h8 => ?_) (fun h8 => ?_)
        · walk_at "g"
          refine c_drawn (by walk_at "sq") (by walk_at "ar") (by walk_at "ar") (by walk_at "ar") fun d3 h4 h5 => ?_
          walk_at "g"
          refine c_drawn (by walk_at "sq") (by walk_at "ar") (by walk_at "ar") (by walk_at "ar") fun d4 h6 h7 => ?_
          walk_at "g"
          have h8' : (rows'.getD d2.toNat []).length < 8 := by omega
          refine g_ins led' (d2.toNat + 1) hz (by omega) (by omega) (by omega) fun H3 led3 => ?_
          walk_at "g"
          have e3 : (rowLed ro as rows').set (d2.toNat + 1) (r, ilst ((rows'.getD d2.toNat []).take d3.toNat ++ [d4] ++ (rows'.getD d2.toNat []).drop d3.toNat)) = rowLed ro as (rows'.set d2.toNat ((rows'.getD d2.toNat []).take d3.toNat ++ [d4] ++ (rows'.getD d2.toNat []).drop d3.toNat)) := by
            show (ro, HO.lst (as.map V.ref)) :: (List.zipWith (fun a row => (a, ilst row)) as rows').set d2.toNat _ = _
            rw [rowLed]
            congr 1
            apply List.ext_getElem?
            intro j
            rw [List.getElem?_zipWith]
            by_cases z : d2.toNat = j
            · subst z
              rw [List.getElem?_set_self (by rw [List.length_zipWith]; omega), List.getElem?_set_self hd2, hr1]
            · rw [List.getElem?_set_ne z, List.getElem?_set_ne z, List.getElem?_zipWith]
          rw [e3] at led3
          exact ⟨_, _, _, rfl, by rw [List.length_set]; exact e', hr'.insert hb hd2 h8' (by omega), led3⟩
        · walk_at "g"
          exact ⟨rows', _, _, rfl, e', hr'.mono (Nat.le_succ _), led'⟩
      · rintro σ H2 ⟨rows', v8', v9', rfl, e', hr', led'⟩
        exact rows_by_c6 (E := E) hS q e' hr' led'
    · walk_at "g"
      exact rows_by_c6 (E := E) hS q e (hr.mono (by decide)) led
  · walk_at "g"
    exact rows_by_c6 (E := E) hS q e (hr.mono (by decide)) led
/-- one row drawn -/
theorem rows_by_c4_4 {K : PySem.W.Frag} {G : Ads} {H H2 : Hp} {E : XK} {D : Ends} {a ro : Addr} {ns : List Int} (hS : SqL K H a (ns.map V.int)) {big : Bool} {many size top : Int} {k : Nat} {as : List Addr} {rows : List (List Int)} {v9 : Option V}
    (hm : ManyOk big many) (hk : (k : Int) < many) (hs1 : 1 ≤ size) (hs2 : size ≤ (if big = true then 8 else 3)) (ht : top = (if big = true then (k : Int) + 1 else many + 1)) (e : as.length = rows.length) (el : rows.length = k) (hr : RowsK big many rows) (led : Led H (rowLed ro as rows) H2)
    (nx : ∀ (as' : List Addr) (rows' : List (List Int)) (v9 : Option V) (H3 : Hp), as'.length = rows'.length → rows'.length = k + 1 → RowsK big many rows' → Led H (rowLed ro as' rows') H3 → D.nx [some (.ref a), some (.bl big), some (.int many), some (.ref ro), some (.int (0 + k)), some (.int (10 + 20 * (0 + k))), some (.int size), some (.int top), none, v9, none] H3) :
    t_rows_by_c4_4 K G E D [some (.ref a), some (.bl big), some (.int many), some (.ref ro), some (.int (0 + k)), some (.int (10 + 20 * (0 + k))), some (.int size), some (.int top), none, v9, none] H2 := by
  have hm2 : many ≤ 12 := by unfold ManyOk at hm; omega
  have hsz : size ≤ 8 := by split at hs2 <;> omega
  have htop : 1 ≤ top ∧ top ≤ many + 1 := by split at ht <;> omega
  have ht2 : big = true → top = (k : Int) + 1 := fun b => by rw [ht, if_pos b]
  unfold t_rows_by_c4_4
  walk_at "g"
  refine lcRI (fun ns => ∀ g, g ∈ ns → -1 ≤ g ∧ g < top - 1) (fun g hg => by simp at hg) (by omega) (fun _ => rfl) (fun D2 j zs H3 R hj ez pz lz qz => ?_) (fun D2 zs H3 nD ez pz sm hD => ?_)
  · walk_at "g"
    refine c_drawn (lz.base (led.base hS)) (by walk_at "ar") (by walk_at "ar") (by walk_at "ar") fun d h0 h1 => ?_
    walk_at "g"
    refine qz _ _ (fun g hg => ?_) lz
    rcases List.mem_append.mp hg with hg | hg
    · exact pz g hg
    · simp at hg
      omega
  · have led3 := led.add sm nD hD
    have hl : (rowLed ro as rows).length = k + 1 := by rw [rowLed, List.length_cons, List.length_zipWith, e, Nat.min_self, el]
    have hz : (rowLed ro as rows ++ [(D2, ilst zs)])[k + 1]? = some (D2, ilst zs) := by rw [← hl, List.getElem?_append_right (Nat.le_refl _), Nat.sub_self]; rfl
    have hzl : (zs.length : Int) = size := by omega
    walk_at "g"
    refine c_drawn (led3.base hS) (by walk_at "ar") (by walk_at "ar") (by walk_at "ar") fun d1 h0 h1 => ?_
    walk_at "g"
    refine c_drawn (led3.base hS) (by walk_at "ar") (by walk_at "ar") (by walk_at "ar") fun d2 h2 h3 => ?_
    walk_at "g"
    refine g_setL led3 (k + 1) hz (by omega) (by omega) fun H4 led4 => ?_
    rw [List.set_append_right _ _ (by omega), hl, Nat.sub_self] at led4
    have led4 : Led H (rowLed ro as rows ++ [(D2, ilst (zs.set d2.toNat (d1 - 1)))]) H4 := led4
    walk_at "g"
    refine g_app led4 0 (p := ro) (xs := as.map V.ref) rfl (by rw [List.length_map]; omega) fun H5 led5 => ?_
    rw [rowLed_push e] at led5
    walk_at "g"
    refine nx _ _ _ _ (by simp [e]) (by simp [el]) (hr.push ?_) led5
    rw [el]
    have hd2 : d2.toNat < zs.length := by omega
    refine ⟨by rw [List.length_set]; omega, by rw [List.length_set, hzl]; exact hs2, fun g hg => ?_, ⟨d1 - 1, ?_, by omega⟩, fun b g hg => ?_⟩
    · rcases List.mem_or_eq_of_mem_set hg with hg | rfl
      · have := pz g hg
        omega
      · omega
    · exact List.mem_of_getElem? (List.getElem?_set_self hd2)
    · have := ht2 b
      rcases List.mem_or_eq_of_mem_set hg with hg | rfl
      · have := pz g hg
        omega
      · omega
/-- the rows one by one -/
theorem rows_by_c3 {K : PySem.W.Frag} {G : Ads} {H : Hp} {Q : VK} {E : XK} {a : Addr} {ns : List Int} (hS : SqL K H a (ns.map V.int)) (q : ∀ (p : Addr) (rows : List (List Int)) (H' : Hp), Shape rows → Same H H' → NewRows H H' p rows → Q (.ref p) H')
    {big : Bool} {many : Int} (hm : ManyOk big many) :
    t_rows_by_c3 K G E { nx := fun _ H' => Q .non H', rt := Q } [some (.ref a), some (.bl big), some (.int many), none, none, none, none, none, none, none, none] H := by
  have hm1 : 1 ≤ many := by unfold ManyOk at hm; omega
  have hm2 : many ≤ 12 := by unfold ManyOk at hm; omega
  unfold t_rows_by_c3
  walk_at "g"
  refine ⟨by decide, fun ro nro => ?_⟩
  walk_at "g"
  refine loopR (fun k σ H2 => ∃ (as : List Addr) (rows : List (List Int)) (v4 v5 v6 v7 v9 : Option V), σ = [some (.ref a), some (.bl big), some (.int many), some (.ref ro), v4, v5, v6, v7, none, v9, none] ∧ as.length = rows.length ∧ rows.length = k ∧ RowsK big many rows ∧ Led H (rowLed ro as rows) H2)
    ⟨[], [], _, _, _, _, _, rfl, rfl, rfl, fun j hj => by simp at hj, (Led.nil H).alloc nro _⟩ ?_ ?_
  · rintro k σ H2 hk ⟨as, rows, v4, v5, v6, v7, v9, rfl, e, el, hr, led⟩
    walk_at "g"
    refine c_drawn (by walk_at "sq") (by walk_at "ar") (by walk_at "ar") (by walk_at "ar") fun d1 h0 h1 => ?_
    walk_at "g"
    refine ifC (fun hb => ?_) (fun hb => ?_)
    · walk_at "g"
      refine c_drawn (by walk_at "sq") (by walk_at "ar") (by walk_at "ar") (by walk_at "ar") fun d2 h2 h3 => ?_
      walk_at "g"
      exact rows_by_c4_4 (E := E) hS hm (by omega) (by omega) (by rw [if_pos hb]; omega) (by rw [if_pos hb]; omega) e el hr led fun as' rows' v9 H3 e1 e2 e3 e4 => ⟨as', rows', _, _, _, _, _, rfl, e1, e2, e3, e4⟩
    · walk_at "g"
      exact rows_by_c4_4 (E := E) hS hm (by omega) (by omega) (by rw [if_neg (by rw [hb]; decide)]; omega) (by rw [if_neg (by rw [hb]; decide)]) e el hr led fun as' rows' v9 H3 e1 e2 e3 e4 => ⟨as', rows', _, _, _, _, _, rfl, e1, e2, e3, e4⟩
  · rintro σ H2 ⟨as, rows, v4, v5, v6, v7, v9, rfl, e, el, hr, led⟩
    exact rows_by_c5 (E := E) hS q e (hr.to hm (by omega)) led
theorem pure_rows_by {K : PySem.W.Frag} {G : Ads} {vs H Q E} (h : sp_rows_by K G vs H Q E) : t_rows_by K G E { nx := fun _ H' => Q .non H', rt := Q } (start N_rows_by vs) H := by
  unfold sp_rows_by at h
  obtain ⟨a, ns, rfl, hS, q⟩ := h
  show t_rows_by K G E _ [some (.ref a), none, none, none, none, none, none, none, none, none, none] H
  unfold t_rows_by
  walk_at "g"
  refine c_drawn (by walk_at "sq") (by walk_at "ar") (by walk_at "ar") (by walk_at "ar") fun d1 h0 h1 => ?_
  walk_at "g"
  refine c_drawn (by walk_at "sq") (by walk_at "ar") (by walk_at "ar") (by walk_at "ar") fun d2 h2 h3 => ?_
  walk_at "g"
  refine ifC (fun hb => ?_) (fun hb => ?_)
  · walk_at "g"
    refine c_drawn (by walk_at "sq") (by walk_at "ar") (by walk_at "ar") (by walk_at "ar") fun d3 h4 h5 => ?_
    walk_at "g"
    exact rows_by_c3 (E := E) hS q (.inr ⟨hb, by omega, by omega⟩)
  · walk_at "g"
    exact rows_by_c3 (E := E) hS q (.inl ⟨hb, by omega, by omega⟩)

@[irreducible] def sp_checked (_ : PySem.W.Frag) (G : Ads) : Sp := fun vs H Q E => ∃ (p : Addr) (rows : List (List Int)), vs = [.ref p] ∧ RowsAt H p rows ∧ rows.length ≤ 10000 ∧ (∀ row, row ∈ rows → row.length ≤ 10000) ∧
  ((rows.length < 1 ∨ 12 < rows.length) → E (.ref G.NoSite) none H) ∧ (1 ≤ rows.length → rows.length ≤ 12 → ¬ OkRows rows → E (.ref G.NoExit) none H) ∧
  (OkRows rows → ∀ (D : Addr) (H' : Hp), Same H H' → NewRows H H' D rows → Q (.ref D) H')
theorem len_checked {K : PySem.W.Frag} {G : Ads} {vs H Q E} (h : sp_checked K G vs H Q E) : vs.length = 1 := by
  unfold sp_checked at h
  obtain ⟨a, ns, rfl, _⟩ := h
  rfl
def t_checked (K : PySem.W.Frag) (G : Ads) (E : XK) : TS :=
  (tSeq (tIfS (tOr (tTest (tOp mLt (tCB (mLen K) (tCons (tVar 0) tNil)) (tC (.int 1)))) (tTest (tOp mGt (tCB (mLen K) (tCons (tVar 0) tNil)) (tC (.int 12)))))
    (tRaise E G.NoSite)
    tNext)
    (tSeq (tFor (iList K (tVar 0)) (gName 1)
    (tSeq (tIfS (tOr (tTest (tOp mLt (tCB (mLen K) (tCons (tVar 1) tNil)) (tC (.int 1)))) (tTest (tOp mGt (tCB (mLen K) (tCons (tVar 1) tNil)) (tC (.int 8)))))
    (tRaise E G.NoExit)
    tNext)
    (tFor (iList K (tVar 1)) (gName 2)
    (tIfS (tOr (tTest (tOp mLt (tVar 2) (tC (.int (-1))))) (tTest (tOp mGe (tVar 2) (tCB (mLen K) (tCons (tVar 0) tNil)))))
    (tRaise E G.NoExit)
    tNext))))
    (tRet (tLc (iList K (tVar 0)) (gName 1) tYes (tCB (mList K) (tCons (tVar 1) tNil)) [1]))))
abbrev N_checked : List Str := ["rows", "row", "gone"]

theorem pure_checked {K : PySem.W.Frag} {G : Ads} {vs H Q E} (h : sp_checked K G vs H Q E) : t_checked K G E { nx := fun _ H' => Q .non H', rt := Q } (start N_checked vs) H := by
  unfold sp_checked at h
  obtain ⟨p, rows, rfl, R, hn, hn2, q1, q2, q3⟩ := h
  show t_checked K G E _ [some (.ref p), none, none] H
  unfold t_checked
  walk_at "g"
  refine ifP (fun h => ?_) (fun h => ?_)
  · walk_at "g"
    exact q1 (.inl (by omega))
  walk_at "g"
  refine ifP (fun h2 => ?_) (fun h2 => ?_)
  · walk_at "g"
    exact q1 (.inr (by omega))
  walk_at "g"
  refine loopRows (fun k σ H' => ∃ v1 v2 : Option V, σ = [some (.ref p), v1, v2] ∧ H' = H ∧ ∀ j : Nat, j < k → OkRow rows.length (rows.getD j [])) ⟨_, _, rfl, rfl, fun j hj => by omega⟩ R (fun k σ H' ⟨_, _, _, e, _⟩ => by rw [e]; exact Same.refl H) ?_ ?_
  · rintro k r σ H' hk ⟨v1, v2, rfl, rfl, ok⟩ hr
    have hrl := hn2 _ (getD_mem (d := []) hk)
    walk_at "g"
    refine ifP (fun h => ?_) (fun h => ?_)
    · walk_at "g"
      exact q2 (by omega) (by omega) fun o => by have := (o.row hk).1; omega
    walk_at "g"
    refine ifP (fun h2 => ?_) (fun h2 => ?_)
    · walk_at "g"
      exact q2 (by omega) (by omega) fun o => by have := (o.row hk).2.1; omega
    walk_at "g"
    refine loopI (ns := rows.getD k []) (fun j σ H2 => ∃ v2 : Option V, σ = [some (.ref p), some (.ref r), v2] ∧ H2 = H' ∧ ∀ i : Nat, i < j → -1 ≤ (rows.getD k []).getD i 0 ∧ (rows.getD k []).getD i 0 < rows.length) ⟨_, rfl, rfl, fun i hi => by omega⟩ (fun j σ H2 _ ⟨_, _, e, _⟩ => by rw [e]; exact hr) ?_ ?_
    · rintro j σ H2 hj ⟨v2, rfl, rfl, ok2⟩
      walk_at "g"
      refine ifP (fun h => ?_) (fun h => ?_)
      · walk_at "g"
        exact q2 (by omega) (by omega) fun o => by have := o.exit hk hj; omega
      walk_at "g"
      refine ifP (fun h2 => ?_) (fun h2 => ?_)
      · walk_at "g"
        exact q2 (by omega) (by omega) fun o => by have := o.exit hk hj; omega
      walk_at "g"
      refine ⟨_, rfl, rfl, fun i hi => ?_⟩
      by_cases z : i = j
      · subst z
        omega
      · exact ok2 i (by omega)
    · rintro σ H2 ⟨v2, rfl, rfl, ok2⟩
      refine ⟨_, _, rfl, rfl, fun j hj => ?_⟩
      by_cases z : j = k
      · subst z
        refine ⟨by omega, by omega, fun g hg => ?_⟩
        obtain ⟨i, hi, rfl⟩ := List.getElem_of_mem hg
        have := ok2 i hi
        rw [List.getD_eq_getElem?_getD, List.getElem?_eq_getElem hi] at this
        exact this
      · exact ok j (by omega)
  · rintro σ H' ⟨v1, v2, rfl, rfl, ok⟩
    have okr : OkRows rows := ⟨by omega, by omega, fun row hr => by
      obtain ⟨j, hj, e⟩ := List.getElem_of_mem hr
      have := ok j hj
      rw [List.getD_eq_getElem?_getD, List.getElem?_eq_getElem hj] at this
      rw [← e]
      exact this⟩
    walk_at "g"
    exact lcCopy R (by omega) (fun _ => rfl) (fun _ => rfl) fun D H1 s n => q3 okr D H1 s n

/-- what __init__ leaves: the instance b filled, all else as it was -/
def InitBd (C : Addr) (H H' : Hp) (b dx r t l s : Addr) (rows : List (List Int)) : Prop := ∃ B1, (∀ q o, H q = some o → q ≠ b → B1 q = some o) ∧ NewRows H B1 r rows ∧
  Led B1 (bl C b dx r t l s (List.replicate rows.length 0) (List.replicate rows.length 0) (List.replicate rows.length 0) 0) H'
@[irreducible] def sp_Board_init (_ : PySem.W.Frag) (G : Ads) : Sp := fun vs H Q E => ∃ (b dx p : Addr) (rows : List (List Int)), vs = [.ref b, .ref p] ∧ H b = some (.ins G.Board dx []) ∧ RowsAt H p rows ∧ rows.length ≤ 10000 ∧ (∀ row, row ∈ rows → row.length ≤ 10000) ∧
  ((rows.length < 1 ∨ 12 < rows.length) → E (.ref G.NoSite) none H) ∧ (1 ≤ rows.length → rows.length ≤ 12 → ¬ OkRows rows → E (.ref G.NoExit) none H) ∧
  (OkRows rows → ∀ (r t l s : Addr) (H' : Hp), InitBd G.Board H H' b dx r t l s rows → Q .non H')
theorem len_Board_init {K : PySem.W.Frag} {G : Ads} {vs H Q E} (h : sp_Board_init K G vs H Q E) : vs.length = 2 := by
  unfold sp_Board_init at h
  obtain ⟨b, dx, p, rows, rfl, _⟩ := h
  rfl
/-- Board(rows) -/
theorem c_Board {K : PySem.W.Frag} {G : Ads} {H : Hp} {QB : Addr → Hp → Prop} {E : XK} {p : Addr} {rows : List (List Int)} (R : RowsAt H p rows) (hn : rows.length ≤ 10000) (hn2 : ∀ row, row ∈ rows → row.length ≤ 10000)
    (q1 : (rows.length < 1 ∨ 12 < rows.length) → ∀ H', Same H H' → E (.ref G.NoSite) none H') (q2 : 1 ≤ rows.length → rows.length ≤ 12 → ¬ OkRows rows → ∀ H', Same H H' → E (.ref G.NoExit) none H')
    (q3 : OkRows rows → ∀ (b dx r t l s : Addr) (H' : Hp), NewB G.Board H H' b dx r t l s rows (List.replicate rows.length 0) (List.replicate rows.length 0) (List.replicate rows.length 0) 0 → QB b H') :
    ∀ x dx, H x = none → H dx = none → dx ≠ x → sp_Board_init K G [.ref x, .ref p] (upd (upd H dx (.own x)) x (.ins G.Board dx [])) (fun v H2 => v = .non ∧ QB x H2) E := by
  intro b dx nb ndx ne
  have s0 : Same H (upd (upd H dx (.own b)) b (.ins G.Board dx [])) := fun q o e => by
    rw [upd_ne (ne_of_none e nb), upd_ne (ne_of_none e ndx)]
    exact e
  unfold sp_Board_init
  refine ⟨b, dx, p, rows, rfl, upd_same, R.mono s0, hn, hn2, fun h => q1 h _ s0, fun h1 h2 h3 => q2 h1 h2 h3 _ s0, fun ok r t l s H' I => ⟨rfl, q3 ok b dx r t l s H' ?_⟩⟩
  obtain ⟨B1, kp, nr, led⟩ := I
  exact ⟨B1, fun q o e => kp q o (s0 q o e) (ne_of_none e nb), nr.back s0, led⟩
def t_Board_init (K : PySem.W.Frag) (G : Ads) (E : XK) : TS :=
  (tSeq (sFld K (tVar 0) (tCall (sp_checked K G) [] E (tCons (tVar 1) tNil)) "rows")
    (tSeq (sFld K (tVar 0) (tLc (iList K (tVar 1)) (gName 2) tYes (tC (.int 0)) [2]) "turns")
    (tSeq (sFld K (tVar 0) (tLc (iList K (tVar 1)) (gName 2) tYes (tC (.int 0)) [2]) "loads")
    (tSeq (sFld K (tVar 0) (tLc (iList K (tVar 1)) (gName 2) tYes (tC (.int 0)) [2]) "steps")
    (sFld K (tVar 0) (tC (.int 0)) "taken")))))
abbrev N_Board_init : List Str := ["self", "rows", "row"]

theorem pure_Board_init {K : PySem.W.Frag} {G : Ads} {vs H Q E} (bd : BdOk K G) (h : sp_Board_init K G vs H Q E) : t_Board_init K G E { nx := fun _ H' => Q .non H', rt := Q } (start N_Board_init vs) H := by
  unfold sp_Board_init at h
  obtain ⟨b, dx, p, rows, rfl, hb, R, hn, hn2, q1, q2, q3⟩ := h
  show t_Board_init K G E _ [some (.ref b), some (.ref p), none] H
  unfold t_Board_init
  obtain ⟨B, led, keep⟩ := Led.one hb
  walk_at "g"
  unfold sp_checked
  refine ⟨p, rows, rfl, R, hn, hn2, q1, q2, fun ok r H1 s1 n1 => ?_⟩
  obtain ⟨B2, sB, nR, led2⟩ := led.rows s1 n1
  have R1 : RowsAt H1 p rows := R.mono s1
  walk_at "g"
  refine g_put led2 0 rfl bd.cl bd.n_rows (by show 0 < 1000; decide) rfl fun H2 led3 => ?_
  -- the rows that were handed in stand in the base, for they are lists
  have RB : RowsAt B2 p rows := by
    obtain ⟨as, e1, e2, e3⟩ := R
    refine ⟨as, sB _ _ (keep _ _ e1 (ne_of e1 hb (by intro z; cases z))), e2, fun i a row h1 h2 => sB _ _ (keep _ _ (e3 i a row h1 h2) (ne_of (e3 i a row h1 h2) hb (by intro z; cases z)))⟩
  have hlen : rows.length ≤ 100000 := by omega
  walk_at "g"
  refine lcRows0 (led3.ra RB) hlen (fun _ => rfl) fun t H3 nt st et => ?_
  have led4 := led3.add st nt et
  walk_at "g"
  refine g_put led4 0 rfl bd.cl bd.n_turns (by show 1 < 1000; decide) rfl fun H4 led5 => ?_
  walk_at "g"
  refine lcRows0 (led5.ra RB) hlen (fun _ => rfl) fun l H5 nl sl el => ?_
  have led6 := led5.add sl nl el
  walk_at "g"
  refine g_put led6 0 rfl bd.cl bd.n_loads (by show 2 < 1000; decide) rfl fun H6 led7 => ?_
  walk_at "g"
  refine lcRows0 (led7.ra RB) hlen (fun _ => rfl) fun s H7 ns ss es => ?_
  have led8 := led7.add ss ns es
  walk_at "g"
  refine g_put led8 0 rfl bd.cl bd.n_steps (by show 3 < 1000; decide) rfl fun H8 led9 => ?_
  walk_at "g"
  refine g_put led9 0 rfl bd.cl bd.n_taken (by show 4 < 1000; decide) bf_made fun H9 led10 => ?_
  walk_at "g"
  exact q3 ok r t l s H9 ⟨B2, fun q o e n => sB _ _ (keep q o e n), nR, led10⟩

@[irreducible] def sp_refusal_k05 (_ : PySem.W.Frag) (_ : Ads) : Sp := fun vs H Q _ => ∃ (p : Addr) (rows : List (List Int)), vs = [.ref p] ∧ RowsAt H p rows ∧ rows.length ≤ 1000 ∧ (∀ row, row ∈ rows → row.length ≤ 1000) ∧
  ((rows.length < 1 ∨ 12 < rows.length) → ∀ H', Same H H' → Q (.str "site") H') ∧ (1 ≤ rows.length → rows.length ≤ 12 → ¬ OkRows rows → ∀ H', Same H H' → Q (.str "exit") H') ∧ (OkRows rows → ∀ H', Same H H' → Q (.str "none") H')
theorem len_refusal_k05 {K : PySem.W.Frag} {G : Ads} {vs H Q E} (h : sp_refusal_k05 K G vs H Q E) : vs.length = 1 := by
  unfold sp_refusal_k05 at h
  obtain ⟨_, _, rfl, _⟩ := h
  rfl
theorem c_refusal_k05 {K : PySem.W.Frag} {G : Ads} {H : Hp} {Q : VK} {E : XK} {p : Addr} {rows : List (List Int)} (R : RowsAt H p rows) (h1 : rows.length ≤ 1000) (h2 : ∀ row, row ∈ rows → row.length ≤ 1000)
    (q1 : (rows.length < 1 ∨ 12 < rows.length) → ∀ H', Same H H' → Q (.str "site") H') (q2 : 1 ≤ rows.length → rows.length ≤ 12 → ¬ OkRows rows → ∀ H', Same H H' → Q (.str "exit") H') (q3 : OkRows rows → ∀ H', Same H H' → Q (.str "none") H') : sp_refusal_k05 K G [.ref p] H Q E := by
  unfold sp_refusal_k05
  exact ⟨p, rows, rfl, R, h1, h2, q1, q2, q3⟩
def t_refusal_k05 (K : PySem.W.Frag) (G : Ads) (E : XK) : TS :=
  (tSeq (tTryAs K (.ref G.BoardError) 1 (fun W => (tDrop (tMakeT G.Board (sp_Board_init K G) (WE W) (tCons (tVar 0) tNil)))) (fun a cls d => (tSeq (tIfS (tNot (tB (tCB (rIsX K a cls d) (tCons (tVar 1) (tCons (tC (.ty "ValueError")) tNil)))))
    (tRet (tC (.str "other")))
    tNext)
    (tSeq (tIfS (tAnd (tB (tCB (rIsX K a cls d) (tCons (tVar 1) (tCons (tC (.ref G.NoSite)) tNil)))) (tNot (tB (tCB (rIsX K a cls d) (tCons (tVar 1) (tCons (tC (.ref G.NoExit)) tNil))))))
    (tRet (tC (.str "site")))
    tNext)
    (tSeq (tIfS (tAnd (tB (tCB (rIsX K a cls d) (tCons (tVar 1) (tCons (tC (.ref G.NoExit)) tNil)))) (tNot (tB (tCB (rIsX K a cls d) (tCons (tVar 1) (tCons (tC (.ref G.NoSite)) tNil))))))
    (tRet (tC (.str "exit")))
    tNext)
    (tRet (tC (.str "other"))))))) (fun _ _ _ _ => False))
    (tRet (tC (.str "none"))))
abbrev N_refusal_k05 : List Str := ["rows", "e"]

theorem pure_refusal_k05 {K : PySem.W.Frag} {G : Ads} {vs H Q E} (e1 : PySem.W.exmOne K (.ref G.NoSite) (.ref G.BoardError) = some true) (e2 : PySem.W.exmOne K (.ref G.NoExit) (.ref G.BoardError) = some true)
    (k1 : PySem.W.kitOne K (.ref G.NoSite) (.type "ValueError") = some true) (k2 : PySem.W.kitOne K (.ref G.NoExit) (.type "ValueError") = some true)
    (k3 : PySem.W.kitOne K (.ref G.NoSite) (.ref G.NoSite) = some true) (k4 : PySem.W.kitOne K (.ref G.NoSite) (.ref G.NoExit) = some false) (k5 : PySem.W.kitOne K (.ref G.NoExit) (.ref G.NoSite) = some false) (k6 : PySem.W.kitOne K (.ref G.NoExit) (.ref G.NoExit) = some true)
    (c1 : ExcC K G.NoSite) (c2 : ExcC K G.NoExit) (h : sp_refusal_k05 K G vs H Q E) : t_refusal_k05 K G E { nx := fun _ H' => Q .non H', rt := Q } (start N_refusal_k05 vs) H := by
  unfold sp_refusal_k05 at h
  obtain ⟨p, rows, rfl, R, h1, h2, q1, q2, q3⟩ := h
  show t_refusal_k05 K G E _ [some (.ref p), none] H
  unfold t_refusal_k05
  walk_at "g"
  refine c_Board R (Nat.le_trans h1 (by decide)) (fun row hr => Nat.le_trans (h2 row hr) (by decide)) (fun h H1 s1 => ?_) (fun ha hb hc H1 s1 => ?_) (fun ok b dx r t l s H1 N1 => ?_)
  · refine ⟨true, e1, fun _ y ny => ?_, fun h => by cases h⟩
    walk_at "g"
    refine g_isXt c1 k1 ?_
    walk_at "g"
    refine g_isX c1 k3 ?_
    walk_at "g"
    refine g_isX c1 k4 ?_
    walk_at "g"
    exact q1 h H1 s1
  · refine ⟨true, e2, fun _ y ny => ?_, fun h => by cases h⟩
    walk_at "g"
    refine g_isXt c2 k2 ?_
    walk_at "g"
    refine g_isX c2 k5 ?_
    walk_at "g"
    refine g_isX c2 k6 ?_
    walk_at "g"
    refine g_isX c2 k5 ?_
    walk_at "g"
    exact q2 ha hb hc H1 s1
  · walk_at "g"
    exact q3 ok H1 N1.same

theorem setRef_rows {B H : Hp} {D m : Addr} {as : List Addr} {rows : List (List Int)} {row : List Int} {i : Nat} (e : as.length = rows.length) (led : Led B ((rowLed D as rows ++ [(m, ilst row)]).set 0 (D, .lst ((as.map V.ref).set i (V.ref m)))) H) : RowsAt H D (rows.set i row) := by
  refine ⟨as.set i m, ?_, by rw [List.length_set, List.length_set]; exact e, fun j r row' h1 h2 => ?_⟩
  · have z := led.get 0 (p := D) (o := .lst ((as.map V.ref).set i (V.ref m))) rfl
    rw [List.map_set]
    exact z
  · by_cases z : i = j
    · subst z
      have hi : i < as.length := by
        have := (List.getElem?_eq_some_iff.mp h1).1
        simpa using this
      rw [List.getElem?_set_self hi] at h1
      rw [List.getElem?_set_self (by omega)] at h2
      cases h1
      cases h2
      refine led.get (rowLed D as rows).length ?_
      rw [List.getElem?_set_ne (by simp [rowLed]), List.getElem?_append_right (Nat.le_refl _), Nat.sub_self]
      rfl
    · rw [List.getElem?_set_ne z] at h1 h2
      refine led.get (j + 1) ?_
      rw [List.getElem?_set_ne (by omega), List.getElem?_append_left (by
        have h3 := (List.getElem?_eq_some_iff.mp h1).1
        have h4 := (List.getElem?_eq_some_iff.mp h2).1
        simp [rowLed]
        omega)]
      exact zip_at h1 h2
theorem zip_set : ∀ (as : List Addr) (rows : List (List Int)) (i : Nat) (r : Addr) (x : List Int), as[i]? = some r → (List.zipWith (fun a row => (a, ilst row)) as rows).set i (r, ilst x) = List.zipWith (fun a row => (a, ilst row)) as (rows.set i x)
  | [], _, i, r, x, h => by simp at h
  | a :: as, [], i, r, x, h => by simp
  | a :: as, row :: rows, 0, r, x, h => by
    cases h
    rfl
  | a :: as, row :: rows, i + 1, r, x, h => by
    show (a, ilst row) :: (List.zipWith _ as rows).set i (r, ilst x) = (a, ilst row) :: List.zipWith _ as (rows.set i x)
    rw [zip_set as rows i r x h]
theorem zip_key : ∀ (as : List Addr) (rows : List (List Int)) (i : Nat) (r : Addr) (o : HO), (List.zipWith (fun a row => (a, ilst row)) as rows)[i]? = some (r, o) → as[i]? = some r := by
  intro as rows i r o h
  rw [List.getElem?_zipWith] at h
  cases h1 : as[i]? with
  | none => rw [h1] at h; cases h
  | some a =>
    rw [h1] at h
    cases h2 : rows[i]? with
    | none => rw [h2] at h; cases h
    | some b =>
      rw [h2] at h
      cases h
      rfl
theorem spoil_row {rows : List (List Int)} {i : Nat} {x : List Int} (hi : i < rows.length) (h : ¬ OkRow rows.length x) : ¬ OkRows (rows.set i x) := fun ok => by
  have := ok.row (k := i) (by rw [List.length_set]; exact hi)
  rw [getD_set hi, if_pos rfl, List.length_set] at this
  exact h this
def t_law_k05_c12 (K : PySem.W.Frag) (G : Ads) (E : XK) : TS :=
  (tRet (tOp rEq (tCall (sp_refusal_k05 K G) [] E0 (tCons (tLc (iList K (tVar 1)) (gName 10) tYes (tCB (mList K) (tCons (tVar 10) tNil)) [10]) tNil)) (tC (.str "none"))))
def t_law_k05_c10 (K : PySem.W.Frag) (G : Ads) (E : XK) : TS :=
  (tSeq (tAsg (tLc (iList K (tVar 2)) (gName 10) tYes (tCB (mList K) (tCons (tVar 10) tNil)) [10]) (gName 9))
    (tSeq (tIfS (tOr (tTest (tOp rNe (tCall (sp_refusal_k05 K G) [] E0 (tCons (tVar 2) tNil)) (tVar 6))) (tTest (tOp (rNeD K) (tVar 2) (tVar 9))))
    (tRet (tC (.bl false)))
    tNext)
    (t_law_k05_c12 K G E)))
def t_law_k05 (K : PySem.W.Frag) (G : Ads) (E : XK) : TS :=
  (tSeq (tAsg (tCall (sp_rows_by K G) [] E0 (tCons (tVar 0) tNil)) (gName 1))
    (tSeq (tAsg (tLc (iList K (tVar 1)) (gName 10) tYes (tCB (mList K) (tCons (tVar 10) tNil)) [10]) (gName 2))
    (tSeq (tAsg (tCall (sp_drawn K G) [] E0 (tCons (tVar 0) (tCons (tC (.int 500)) (tCons (tCB (mLen K) (tCons (tVar 1) tNil)) tNil)))) (gName 3))
    (tSeq (tAsg (tCall (sp_drawn K G) [] E0 (tCons (tVar 0) (tCons (tC (.int 501)) (tCons (tC (.int 5)) tNil)))) (gName 4))
    (tSeq (tAsg (tCall (sp_drawn K G) [] E0 (tCons (tVar 0) (tCons (tC (.int 502)) (tCons (tOp mPow (tC (.int 10)) (tC (.int 9))) tNil)))) (gName 5))
    (tSeq (tAsg (tC (.str "exit")) (gName 6))
    (tSeq (tIfS (tTest (tOp rEq (tVar 4) (tC (.int 0))))
    (tAsg (tLst tNil) (gSub (tVar 2) (tVar 3) rSetL))
    tNext)
    (tSeq (tIfS (tTest (tOp rEq (tVar 4) (tC (.int 1))))
    (tAsg (tLc (iRng1 (tCons (tOp mAdd (tC (.int 9)) (tCall (sp_drawn K G) [] E0 (tCons (tVar 0) (tCons (tC (.int 503)) (tCons (tC (.int 4)) tNil))))) tNil)) (gName 11) tYes (tUn mNeg (tC (.int 1))) [11]) (gSub (tVar 2) (tVar 3) rSetL))
    tNext)
    (tSeq (tIfS (tOr (tTest (tOp rEq (tVar 4) (tC (.int 2)))) (tTest (tOp rEq (tVar 4) (tC (.int 3)))))
    (tSeq (tAsg (tCall (sp_drawn K G) [] E0 (tCons (tVar 0) (tCons (tC (.int 504)) (tCons (tCB (mLen K) (tCons (tOp (rIxL K) (tVar 2) (tVar 3)) tNil)) tNil)))) (gName 7))
    (tAsg (tOp (rIxL K) (tLst (tCons (tCB (mLen K) (tCons (tVar 1) tNil)) (tCons (tOp mAdd (tCB (mLen K) (tCons (tVar 1) tNil)) (tVar 5)) (tCons (tUn mNeg (tC (.int 2))) (tCons (tOp mSub (tUn mNeg (tC (.int 2))) (tVar 5)) tNil))))) (tCall (sp_drawn K G) [] E0 (tCons (tVar 0) (tCons (tC (.int 505)) (tCons (tC (.int 4)) tNil))))) (gSub (tOp (rIxL K) (tVar 2) (tVar 3)) (tVar 7) rSetL)))
    tNext)
    (tSeq (tIfS (tTest (tOp rEq (tVar 4) (tC (.int 4))))
    (tSeq (tAsg (tC (.str "site")) (gName 6))
    (tSeq (tAsg (tOp (rIxL K) (tLst (tCons (tUn mNeg (tC (.int 1))) (tCons (tOp mAdd (tVar 5) (tC (.int 20))) tNil))) (tCall (sp_drawn K G) [] E0 (tCons (tVar 0) (tCons (tC (.int 506)) (tCons (tC (.int 2)) tNil))))) (gName 8))
    (tAsg (tLc (iRng1 (tCons (tOp (rIxL K) (tLst (tCons (tC (.int 0)) (tCons (tOp mAdd (tC (.int 13)) (tCall (sp_drawn K G) [] E0 (tCons (tVar 0) (tCons (tC (.int 507)) (tCons (tC (.int 8)) tNil))))) tNil))) (tCall (sp_drawn K G) [] E0 (tCons (tVar 0) (tCons (tC (.int 508)) (tCons (tC (.int 2)) tNil))))) tNil)) (gName 11) tYes (tLst (tCons (tVar 8) tNil)) [11]) (gName 2))))
    tNext)
    (t_law_k05_c10 K G E)))))))))))
abbrev N_law_k05 : List Str := ["script", "rows", "spoilt", "at", "way", "far", "due", "place", "bad", "kept", "row", "k"]

theorem pure_law_k05 {K : PySem.W.Frag} {G : Ads} {vs H Q E} (h : spLaw K vs H Q E) : t_law_k05 K G E { nx := fun _ H' => Q .non H', rt := Q } (start N_law_k05 vs) H := by
  obtain ⟨a, ns, rfl, hS, _, q⟩ := h
  show t_law_k05 K G E _ [some (.ref a), none, none, none, none, none, none, none, none, none, none, none] H
  unfold t_law_k05
  walk_at "g"
  refine c_rows_by hS fun p rows H1 sh s1 n1 => ?_
  have ok := sh.ok
  have hn := ok.2.1
  have hn0 := ok.1
  have S1 := s1.seq hS
  have R1 := n1.at_
  walk_at "g"
  refine lcCopyL R1 (by omega) (fun _ => rfl) (fun _ => rfl) fun D as H2 eas led2 => ?_
  have S2 := led2.base S1
  have R2 := led2.ra R1
  have row8 : ∀ row, row ∈ rows → row.length ≤ 8 := fun row hr => (ok.2.2 row hr).2.1
  -- the end
  have fin : ∀ (SP : Addr) (srows : List (List Int)) (w : Str) (v3 v4 v5 v7 v8 : Option V) (H3 : Hp), RowsAt H3 SP srows → RowsAt H3 p rows → srows.length ≤ 1000 → (∀ row, row ∈ srows → row.length ≤ 1000) → ((w = "site" ∧ (srows.length < 1 ∨ 12 < srows.length)) ∨ (w = "exit" ∧ 1 ≤ srows.length ∧ srows.length ≤ 12 ∧ ¬ OkRows srows)) →
      t_law_k05_c10 K G E { nx := fun _ H' => Q .non H', rt := Q } [some (.ref a), some (.ref p), some (.ref SP), v3, v4, v5, some (.str w), v7, v8, none, none, none] H3 := by
    intro SP srows w v3 v4 v5 v7 v8 H3 RS RP hl1 hl2 hw
    unfold t_law_k05_c10
    walk_at "g"
    refine lcCopy RS (by omega) (fun _ => rfl) (fun _ => rfl) fun C H4 s4 n4 => ?_
    have RS4 := RS.mono s4
    have RP4 := RP.mono s4
    have RC4 := n4.at_
    walk_at "g"
    have rest : ∀ H5, Same H4 H5 → rNeD K (.ref SP) (.ref C) H5 (fun x H6 => x = .bl false ∧ Same H4 H6) := fun H5 s5 => g_neRows (RS4.mono s5) (RC4.mono s5) ⟨by rw [decide_eq_true rfl]; rfl, s5⟩
    have last : ∀ H5, Same H4 H5 → t_law_k05_c12 K G E { nx := fun _ H' => Q .non H', rt := Q } [some (.ref a), some (.ref p), some (.ref SP), v3, v4, v5, some (.str w), v7, v8, some (.ref C), none, none] H5 := fun H5 s5 => by
      unfold t_law_k05_c12
      have RP5 := RP4.mono s5
      walk_at "g"
      refine lcCopy RP5 (by omega) (fun _ => rfl) (fun _ => rfl) fun C2 H6 s6 n6 => ?_
      walk_at "g"
      refine c_refusal_k05 n6.at_ (by omega) (fun row hr => by have := row8 row hr; omega) (fun h => by omega) (fun _ _ h => absurd ok h) fun _ H7 s7 => ?_
      walk_at "g"
      have e : ∀ R : Bool, R = true → Q (.bl R) H7 := fun R hR => by rw [hR]; exact q H7
      first
        | exact q H7
        | (refine e _ ?_; exact decide_eq_true rfl)
    rcases hw with ⟨rfl, hw⟩ | ⟨rfl, h1, h2, h3⟩
    · refine c_refusal_k05 RS4 hl1 hl2 (fun _ H5 s5 => ?_) (fun h1 h2 _ => by omega) (fun h => by have := h.1; have := h.2.1; omega)
      walk_at "g"
      refine g_neRows (RS4.mono s5) (RC4.mono s5) ?_
      walk_at "g"
      try refine ifNf rfl ?_
      try walk_at "g"
      exact last H5 s5
    · refine c_refusal_k05 RS4 hl1 hl2 (fun h => by omega) (fun _ _ _ H5 s5 => ?_) (fun h => absurd h h3)
      walk_at "g"
      refine g_neRows (RS4.mono s5) (RC4.mono s5) ?_
      walk_at "g"
      try refine ifNf rfl ?_
      try walk_at "g"
      exact last H5 s5
  walk_at "g"
  try refine g_lenR R2 ?_
  try walk_at "g"
  refine c_drawn S2 (by decide) (by decide) (by omega) fun at_ a0 a1 => ?_
  have hat : at_.toNat < rows.length := by omega
  have hrow := ok.row hat
  have hrow1 := hrow.1
  have hrow8 := hrow.2.1
  walk_at "g"
  refine c_drawn S2 (by decide) (by decide) (by decide) fun way w0 w1 => ?_
  walk_at "g"
  refine g_I (C := CPow) ⟨by decide, by decide, by decide⟩ ?_
  walk_at "g"
  refine c_drawn S2 (by decide) (by decide) (by decide) fun far f0 f1 => ?_
  have size_set : ∀ x : List Int, x.length ≤ 1000 → ∀ row, row ∈ rows.set at_.toNat x → row.length ≤ 1000 := fun x hx row hr => by
    rcases List.mem_or_eq_of_mem_set hr with hr | hr
    · have := row8 row hr
      omega
    · rw [hr]
      exact hx
  have cases5 : way = 0 ∨ way = 1 ∨ (way = 2 ∨ way = 3) ∨ way = 4 := by omega
  rcases cases5 with rfl | rfl | hw23 | rfl
  · walk_at "g"
    refine ⟨by show 0 ≤ sizeLine; decide, fun m nm => ?_⟩
    have led3 := led2.alloc nm (.lst [])
    walk_at "g"
    refine g_setV led3 0 rfl a0 (by rw [List.length_map]; omega) fun H4 led4 => ?_
    have RS := setRef_rows (row := []) eas led4
    walk_at "g"
    exact fin D _ "exit" _ _ _ _ _ H4 RS (led4.ra R1) (by rw [List.length_set]; omega) (size_set [] (by decide)) (.inr ⟨rfl, by rw [List.length_set]; omega, by rw [List.length_set]; omega, spoil_row hat fun h => by have := h.1; simp at this⟩)
  · walk_at "g"
    refine c_drawn S2 (by decide) (by decide) (by decide) fun c c0 c1 => ?_
    walk_at "g"
    refine lcRI (fun ys => True) trivial (by omega) (fun _ => rfl) (fun D2 k ys H3 S hk el pt l3 qs => ?_) (fun m ys H3 nm el pt s3 em => ?_)
    · walk_at "g"
      exact qs _ _ trivial l3
    have led3 := led2.add s3 nm em
    walk_at "g"
    refine g_setV led3 0 rfl a0 (by rw [List.length_map]; omega) fun H4 led4 => ?_
    have RS := setRef_rows (row := ys) eas led4
    walk_at "g"
    exact fin D _ "exit" _ _ _ _ _ H4 RS (led4.ra R1) (by rw [List.length_set]; omega) (size_set ys (by omega)) (.inr ⟨rfl, by rw [List.length_set]; omega, by rw [List.length_set]; omega, spoil_row hat fun h => by have := h.2.1; omega⟩)
  · rcases hw23 with rfl | rfl
    all_goals
      walk_at "g"
      refine g_rowLed led2 eas a0 a1 fun w hw => ?_
      have sw : SqL K H2 w ((rows.getD at_.toNat []).map V.int) := led2.sq _ hw
      walk_at "g"
      try refine g_lenI sw ?_
      try walk_at "g"
      refine c_drawn S2 (by decide) (by decide) (by omega) fun pl p0 p1 => ?_
      walk_at "g"
      try refine g_lenR R2 ?_
      try walk_at "g"
      refine ⟨by show 4 ≤ sizeLine; decide, fun m nm => ?_⟩
      have s3 := same_upd (H := H2) (o := ilst [(rows.length : Int), rows.length + far, -2, -2 - far]) nm
      have led3 := led2.ext s3
      walk_at "g"
      refine c_drawn (led3.base S1) (by decide) (by decide) (by decide) fun j j0 j1 => ?_
      refine g_ixI (ns := [(rows.length : Int), rows.length + far, -2, -2 - far]) (SqL.of upd_same) j0 (by simpa using j1) ?_
      have bad : ¬ (-1 ≤ ([(rows.length : Int), rows.length + far, -2, -2 - far]).getD j.toNat 0 ∧ ([(rows.length : Int), rows.length + far, -2, -2 - far]).getD j.toNat 0 < rows.length) := by
        have : j = 0 ∨ j = 1 ∨ j = 2 ∨ j = 3 := by omega
        rcases this with rfl | rfl | rfl | rfl
        · show ¬ (-1 ≤ (rows.length : Int) ∧ (rows.length : Int) < rows.length)
          omega
        · show ¬ (-1 ≤ (rows.length : Int) + far ∧ (rows.length : Int) + far < rows.length)
          omega
        · show ¬ (-1 ≤ (-2 : Int) ∧ (-2 : Int) < rows.length)
          omega
        · show ¬ (-1 ≤ (-2 : Int) - far ∧ (-2 : Int) - far < rows.length)
          omega
      generalize ([(rows.length : Int), rows.length + far, -2, -2 - far]).getD j.toNat 0 = x at bad
      walk_at "g"
      refine g_rowLed led3 eas a0 a1 fun w2 hw2 => ?_
      walk_at "g"
      refine g_setL led3 _ hw2 p0 (by omega) fun H4 led4 => ?_
      have ez : (rowLed D as rows).set (at_.toNat + 1) (w2, ilst ((rows.getD at_.toNat []).set pl.toNat x)) = rowLed D as (rows.set at_.toNat ((rows.getD at_.toNat []).set pl.toNat x)) := by
        show (D, HO.lst (as.map V.ref)) :: (List.zipWith (fun a row => (a, ilst row)) as rows).set at_.toNat _ = _
        rw [zip_set as rows _ _ _ (zip_key as rows _ _ _ hw2)]
        rfl
      rw [ez] at led4
      have RS := led4.rowAt (by rw [List.length_set]; exact eas)
      walk_at "g"
      refine fin D _ "exit" _ _ _ _ _ H4 RS (led4.ra R1) (by rw [List.length_set]; omega) (size_set _ (by rw [List.length_set]; omega)) (.inr ⟨rfl, by rw [List.length_set]; omega, by rw [List.length_set]; omega, spoil_row hat fun h => bad ?_⟩)
      have hm : x ∈ (rows.getD at_.toNat []).set pl.toNat x := by
        have := getD_mem (l := (rows.getD at_.toNat []).set pl.toNat x) (d := 0) (k := pl.toNat) (by rw [List.length_set]; omega)
        rw [getD_set (by omega), if_pos rfl] at this
        exact this
      exact h.2.2 x hm
  · walk_at "g"
    refine ⟨by show 2 ≤ sizeLine; decide, fun m nm => ?_⟩
    have s3 := same_upd (H := H2) (o := ilst [-1, far + 20]) nm
    have led3 := led2.ext s3
    have S3 := led3.base S1
    walk_at "g"
    refine c_drawn S3 (by decide) (by decide) (by decide) fun j j0 j1 => ?_
    refine g_ixI (ns := [-1, far + 20]) (SqL.of upd_same) j0 (by simpa using j1) ?_
    generalize ([-1, far + 20]).getD j.toNat 0 = x
    walk_at "g"
    refine c_drawn S3 (by decide) (by decide) (by decide) fun c c0 c1 => ?_
    walk_at "g"
    refine ⟨by show 2 ≤ sizeLine; decide, fun m2 nm2 => ?_⟩
    have s4 := same_upd (o := ilst [0, 13 + c]) nm2
    have led4 := led3.ext s4
    have S4 := led4.base S1
    walk_at "g"
    refine c_drawn S4 (by decide) (by decide) (by decide) fun e e0 e1 => ?_
    refine g_ixI (ns := [0, 13 + c]) (SqL.of upd_same) e0 (by simpa using e1) ?_
    have hk : ([0, 13 + c]).getD e.toNat 0 = 0 ∨ (13 ≤ ([0, 13 + c]).getD e.toNat 0 ∧ ([0, 13 + c]).getD e.toNat 0 ≤ 21) := by
      have : e = 0 ∨ e = 1 := by omega
      rcases this with rfl | rfl
      · exact .inl rfl
      · refine .inr ?_
        show 13 ≤ 13 + c ∧ 13 + c ≤ 21
        omega
    generalize ([0, 13 + c]).getD e.toNat 0 = k at hk
    walk_at "g"
    refine lcRRows (fun rs => ∀ row, row ∈ rs → row.length = 1) (fun row hr => by simp at hr) (by omega) (fun _ => rfl) (fun D2 i bs rs H5 S hi el pt l5 qs => ?_) (fun SP rs H5 el pt s5 n5 => ?_)
    · walk_at "g"
      refine ⟨by show 1 ≤ sizeLine; decide, fun y ny => ?_⟩
      refine qs y [x] _ (fun row hr => ?_) (l5.alloc ny _)
      rcases List.mem_append.mp hr with hr | hr
      · exact pt row hr
      · simp at hr
        rw [hr]
        rfl
    have led5 := led4.ext s5
    walk_at "g"
    exact fin SP rs "site" _ _ _ _ _ H5 n5.at_ (led5.ra R1) (by omega) (fun row hr => by rw [pt row hr]; decide) (.inl ⟨rfl, by omega⟩)

/-! ### the text by places -/
def top (i : Nat) : Stmt := PySem.Challenge.pw_marblerun_k05_boards_refused.main.body.getD i (.Pass ⟨0, 0, 0, 0⟩)
abbrev s_drawn : Stmt := (top 12)
theorem sc_drawn : FnScope N_drawn ["script", "k", "many"] (defScope s_drawn) := ⟨rfl, rfl, rfl, by decide +kernel, rfl, by decide +kernel, by decide +kernel⟩
abbrev s_other : Stmt := (top 13)
theorem sc_other : FnScope N_other ["gone", "many"] (defScope s_other) := ⟨rfl, rfl, rfl, by decide +kernel, rfl, by decide +kernel, by decide +kernel⟩
abbrev s_rows_by : Stmt := (top 14)
theorem sc_rows_by : FnScope N_rows_by ["script"] (defScope s_rows_by) := ⟨rfl, rfl, rfl, by decide +kernel, rfl, by decide +kernel, by decide +kernel⟩
abbrev s_checked : Stmt := (top 9)
theorem sc_checked : FnScope N_checked ["rows"] (defScope s_checked) := ⟨rfl, rfl, rfl, by decide +kernel, rfl, by decide +kernel, by decide +kernel⟩
abbrev s_Board_init : Stmt := (inClass (top 10) 0)
theorem sc_Board_init : FnScope N_Board_init ["self", "rows"] (defScope s_Board_init) := ⟨rfl, rfl, rfl, by decide +kernel, rfl, by decide +kernel, by decide +kernel⟩
abbrev s_refusal_k05 : Stmt := (top 15)
theorem sc_refusal_k05 : FnScope N_refusal_k05 ["rows"] (defScope s_refusal_k05) := ⟨rfl, rfl, rfl, by decide +kernel, rfl, by decide +kernel, by decide +kernel⟩
abbrev s_law_k05 : Stmt := (top 16)
theorem sc_law_k05 : FnScope N_law_k05 ["script"] (defScope s_law_k05) := ⟨rfl, rfl, rfl, by decide +kernel, rfl, by decide +kernel, by decide +kernel⟩
/-- what the top has written -/
structure Txt (K : PySem.W.Frag) (mg : Str → Option Value) where
  G : Ads
  f_drawn : Addr
  d_drawn : FuncData
  F_drawn : Fun K "_law_drawn" "_law_drawn" s_drawn f_drawn d_drawn
  b_drawn : Binds K d_drawn ["script", "k", "many"] []
  g_drawn : mg "_law_drawn" = some (.ref f_drawn)
  f_other : Addr
  d_other : FuncData
  F_other : Fun K "_law_other" "_law_other" s_other f_other d_other
  b_other : Binds K d_other ["gone", "many"] []
  g_other : mg "_law_other" = some (.ref f_other)
  f_rows_by : Addr
  d_rows_by : FuncData
  F_rows_by : Fun K "_law_rows_by" "_law_rows_by" s_rows_by f_rows_by d_rows_by
  b_rows_by : Binds K d_rows_by ["script"] []
  g_rows_by : mg "_law_rows_by" = some (.ref f_rows_by)
  f_checked : Addr
  d_checked : FuncData
  F_checked : Fun K "checked" "checked" s_checked f_checked d_checked
  b_checked : Binds K d_checked ["rows"] []
  g_checked : mg "checked" = some (.ref f_checked)
  f_Board_init : Addr
  d_Board_init : FuncData
  F_Board_init : Fun K "__init__" "Board.__init__" s_Board_init f_Board_init d_Board_init
  b_Board_init : Binds K d_Board_init ["self", "rows"] []
  mk_Board : Mk K G.Board f_Board_init
  f_refusal_k05 : Addr
  d_refusal_k05 : FuncData
  F_refusal_k05 : Fun K "_law_refusal" "_law_refusal" s_refusal_k05 f_refusal_k05 d_refusal_k05
  b_refusal_k05 : Binds K d_refusal_k05 ["rows"] []
  g_refusal_k05 : mg "_law_refusal" = some (.ref f_refusal_k05)
  f_law_k05 : Addr
  d_law_k05 : FuncData
  F_law_k05 : Fun K "law" "law" s_law_k05 f_law_k05 d_law_k05
  b_law_k05 : Binds K d_law_k05 ["script"] []
  cl_Board : Cls K G.Board
  bd : BdOk K G
  g_Board : mg "Board" = some (.ref G.Board)
  tk_MOST_SITES : Tok
  g_MOST_SITES : mg "MOST_SITES" = some (.int 12 tk_MOST_SITES)
  tk_MOST_EXITS : Tok
  g_MOST_EXITS : mg "MOST_EXITS" = some (.int 8 tk_MOST_EXITS)
  tk_PIT : Tok
  g_PIT : mg "PIT" = some (.int (-1) tk_PIT)
  n_len : mg "len" = none
  n_range : mg "range" = none
  n_reversed : mg "reversed" = none
  n_list : mg "list" = none
  n_ValueError : mg "ValueError" = none
  n_isinstance : mg "isinstance" = none
  g_NoSite : mg "NoSite" = some (.ref G.NoSite)
  x_NoSite : PySem.W.excIn K G.NoSite [.type "ValueError", .type "Exception", .type "BaseException", .type "object"] "ValueError.__new__" = true
  k_NoSite : PySem.W.keepIn K (.ref G.NoSite) = true
  b_NoSite : PySem.W.subIn K (.ref G.NoSite) (.type "BaseException") = some true
  t_NoSite : PySem.W.typeIn K (.ref G.NoSite) = some (.type "type")
  g_NoExit : mg "NoExit" = some (.ref G.NoExit)
  x_NoExit : PySem.W.excIn K G.NoExit [.type "ValueError", .type "Exception", .type "BaseException", .type "object"] "ValueError.__new__" = true
  k_NoExit : PySem.W.keepIn K (.ref G.NoExit) = true
  b_NoExit : PySem.W.subIn K (.ref G.NoExit) (.type "BaseException") = some true
  t_NoExit : PySem.W.typeIn K (.ref G.NoExit) = some (.type "type")
  g_BoardError : mg "BoardError" = some (.ref G.BoardError)
  x_BoardError : PySem.W.excIn K G.BoardError [.type "ValueError", .type "Exception", .type "BaseException", .type "object"] "ValueError.__new__" = true
  k_BoardError : PySem.W.keepIn K (.ref G.BoardError) = true
  b_BoardError : PySem.W.subIn K (.ref G.BoardError) (.type "BaseException") = some true
  t_BoardError : PySem.W.typeIn K (.ref G.BoardError) = some (.type "type")
  e_NoSite_BoardError : PySem.W.exmOne K (.ref G.NoSite) (.ref G.BoardError) = some true
  e_NoExit_BoardError : PySem.W.exmOne K (.ref G.NoExit) (.ref G.BoardError) = some true
  kt_NoSite_ValueError : PySem.W.kitOne K (.ref G.NoSite) (.type "ValueError") = some true
  kt_NoExit_ValueError : PySem.W.kitOne K (.ref G.NoExit) (.type "ValueError") = some true
  ki_NoSite_NoSite : PySem.W.kitOne K (.ref G.NoSite) (.ref G.NoSite) = some true
  ki_NoSite_NoExit : PySem.W.kitOne K (.ref G.NoSite) (.ref G.NoExit) = some false
  ki_NoExit_NoSite : PySem.W.kitOne K (.ref G.NoExit) (.ref G.NoSite) = some false
  ki_NoExit_NoExit : PySem.W.kitOne K (.ref G.NoExit) (.ref G.NoExit) = some true
  ec_NoSite : ExcC K G.NoSite
  ec_NoExit : ExcC K G.NoExit
section
variable {P : Program} {w : World} {K : PySem.W.Frag} {mg : Str → Option Value} {base : Heap}
theorem ok_drawn (T : Txt K mg) : FnOk P w K mg base CX0 1 T.f_drawn T.d_drawn ["script", "k", "many"] (sp_drawn K T.G) := by
  refine T.F_drawn.ok sc_drawn (fun vs H Q E h => len_drawn h) (fun cdv A outer s H vs Q E hr h => ⟨t_drawn K T.G E, ?_, pure_drawn  h⟩)
  exact (pss_cons (ps_set (i := 3) sc_drawn.nd rfl (by first | exact Or.inl rfl | exact Or.inr rfl) pe_int)
    (pss_cons (ps_if (pt_cmpR op_gt (pe_callB call_len_seq (by rfl) T.n_len bt_len (pa_cons (pv 0) pa_nil)) pe_int (nomark _))
    (pss_one (ps_set (i := 3) sc_drawn.nd rfl (by first | exact Or.inl rfl | exact Or.inr rfl) (pe_ix ix_list (pv 0) (pe_op op_mod (pv 1) (pe_callB call_len_seq (by rfl) T.n_len bt_len (pa_cons (pv 0) pa_nil))) (fun _ _ => rfl))))
    pss_nil)
    (pss_cons (ps_set (i := 4) sc_drawn.nd rfl (by first | exact Or.inl rfl | exact Or.inr rfl) (pe_op op_add (pe_op op_add (pe_op op_mul (pv 3) (pe_op op_add pe_int (pe_op op_mul pe_int (pe_op op_mod (pv 1) pe_int)))) (pe_op op_mul (pe_op op_mul (pe_op op_add (pv 1) pe_int) (pe_op op_add (pv 1) pe_int)) pe_int)) (pe_callB call_len_seq (by rfl) T.n_len bt_len (pa_cons (pv 0) pa_nil))))
    (pss_one (ps_ret (pe_op op_mod (pe_op op_fdiv (pe_op op_mod (pv 4) pe_int) pe_int) (pv 2)))))))
theorem ok_other (T : Txt K mg) : FnOk P w K mg base CX0 1 T.f_other T.d_other ["gone", "many"] (sp_other K T.G) := by
  refine T.F_other.ok sc_other (fun vs H Q E h => len_other h) (fun cdv A outer s H vs Q E hr h => ⟨t_other K T.G E, ?_, pure_other  h⟩)
  exact (pss_cons (ps_if (pt_cmpR op_lt (pv 0) pe_int (nomark _))
    (pss_one (ps_ret (pv 0)))
    pss_nil)
    (pss_one (ps_ret (pe_op op_sub (pe_op op_sub (pv 1) pe_int) (pv 0)))))
theorem ok_rows_by (T : Txt K mg) : FnOk P w K mg base CX0 2 T.f_rows_by T.d_rows_by ["script"] (sp_rows_by K T.G) := by
  refine T.F_rows_by.ok sc_rows_by (fun vs H Q E h => len_rows_by h) (fun cdv A outer s H vs Q E hr h => ⟨t_rows_by K T.G E, ?_, pure_rows_by  h⟩)
  exact (pss_cons (ps_set (i := 1) sc_rows_by.nd rfl (by first | exact Or.inl rfl | exact Or.inr rfl) (pe_cmpR op_eq (pe_call (ok_drawn T) (hr.mono (by decide)) (by rfl) T.g_drawn T.F_drawn.kp T.b_drawn .nil pass0 (pa_cons (pv 0) (pa_cons pe_int (pa_cons pe_int pa_nil)))) pe_int (nomark _)))
    (pss_cons (ps_set (i := 2) sc_rows_by.nd rfl (by first | exact Or.inl rfl | exact Or.inr rfl) (pe_op op_add pe_int (pe_call (ok_drawn T) (hr.mono (by decide)) (by rfl) T.g_drawn T.F_drawn.kp T.b_drawn .nil pass0 (pa_cons (pv 0) (pa_cons pe_int (pa_cons pe_int pa_nil))))))
    (pss_cons (ps_if (pt_val (pv 1))
    (pss_one (ps_set (i := 2) sc_rows_by.nd rfl (by first | exact Or.inl rfl | exact Or.inr rfl) (pe_op op_add pe_int (pe_call (ok_drawn T) (hr.mono (by decide)) (by rfl) T.g_drawn T.F_drawn.kp T.b_drawn .nil pass0 (pa_cons (pv 0) (pa_cons pe_int (pa_cons pe_int pa_nil)))))))
    pss_nil)
    (pss_cons (ps_set (i := 3) sc_rows_by.nd rfl (by first | exact Or.inl rfl | exact Or.inr rfl) (pe_lst pa_nil))
    (pss_cons (ps_for PassesOwn.never rfl (pi_range1 (by rfl) T.n_range (pa_cons (pv 2) pa_nil)) (pg_name (i := 4) sc_rows_by.nd rfl (by first | exact Or.inl rfl | exact Or.inr rfl))
    (pss_cons (ps_set (i := 5) sc_rows_by.nd rfl (by first | exact Or.inl rfl | exact Or.inr rfl) (pe_op op_add pe_int (pe_op op_mul pe_int (pv 4))))
    (pss_cons (ps_set (i := 6) sc_rows_by.nd rfl (by first | exact Or.inl rfl | exact Or.inr rfl) (pe_op op_add pe_int (pe_call (ok_drawn T) (hr.mono (by decide)) (by rfl) T.g_drawn T.F_drawn.kp T.b_drawn .nil pass0 (pa_cons (pv 0) (pa_cons (pv 5) (pa_cons pe_int pa_nil))))))
    (pss_cons (ps_set (i := 7) sc_rows_by.nd rfl (by first | exact Or.inl rfl | exact Or.inr rfl) (pe_op op_add (pv 2) pe_int))
    (pss_cons (ps_if (pt_val (pv 1))
    (pss_cons (ps_set (i := 6) sc_rows_by.nd rfl (by first | exact Or.inl rfl | exact Or.inr rfl) (pe_op op_add pe_int (pe_call (ok_drawn T) (hr.mono (by decide)) (by rfl) T.g_drawn T.F_drawn.kp T.b_drawn .nil pass0 (pa_cons (pv 0) (pa_cons (pv 5) (pa_cons pe_int pa_nil))))))
    (pss_one (ps_set (i := 7) sc_rows_by.nd rfl (by first | exact Or.inl rfl | exact Or.inr rfl) (pe_op op_add (pv 4) pe_int))))
    pss_nil)
    (pss_cons (ps_setLc (i := 9) (own := [("j", 8)]) (g := (gName 8)) (tt := tYes) rfl sc_rows_by.nd rfl rfl (sw_true rfl rfl rfl (by decide +kernel)) (pi_range1 (by rfl) T.n_range (pa_cons (pv 6) pa_nil)) (blkOk_by (own := [("j", 8)]) (N := N_rows_by) (by kernel_rfl))
      (fun _ _ _ _ _ => (pg_name (i := 8) sc_rows_by.nd rfl (by first | exact Or.inl rfl | exact Or.inr rfl))) (fun _ _ _ _ _ => pts_nil) (fun _ _ _ _ _ => (pe_op op_sub (pe_call (ok_drawn T) (hr.mono (by decide)) (by rfl) T.g_drawn T.F_drawn.kp T.b_drawn .nil pass0 (pa_cons (pv 0) (pa_cons (pe_op op_add (pe_op op_add (pv 5) pe_int) (pv 8)) (pa_cons (pv 7) pa_nil)))) pe_int)))
    (pss_cons (ps_asg (pe_op op_sub (pe_call (ok_drawn T) (hr.mono (by decide)) (by rfl) T.g_drawn T.F_drawn.kp T.b_drawn .nil pass0 (pa_cons (pv 0) (pa_cons (pe_op op_add (pv 5) pe_int) (pa_cons (pe_op op_add (pv 4) pe_int) pa_nil)))) pe_int) (pg_sub (pv 9) (pe_call (ok_drawn T) (hr.mono (by decide)) (by rfl) T.g_drawn T.F_drawn.kp T.b_drawn .nil pass0 (pa_cons (pv 0) (pa_cons (pe_op op_add (pv 5) pe_int) (pa_cons (pv 6) pa_nil)))) set_list))
    (pss_one (ps_expr (pe_bm PySem.F.plainAttrs_list PySem.F.slot_list_append PySem.F.type_list_append mt_append (pv 3) (pa_cons (pv 9) pa_nil)))))))))))
    (pss_cons (ps_if (PW.pt (pw_and (pt_val (pv 1)) (pw_and1 (pt_cmpR op_gt (pe_call (ok_drawn T) (hr.mono (by decide)) (by rfl) T.g_drawn T.F_drawn.kp T.b_drawn .nil pass0 (pa_cons (pv 0) (pa_cons pe_int (pa_cons pe_int pa_nil)))) pe_int (nomark _)))))
    (pss_one (ps_for PassesOwn.never rfl (pi_range1 (by rfl) T.n_range (pa_cons pe_int pa_nil)) (pg_name (i := 8) sc_rows_by.nd rfl (by first | exact Or.inl rfl | exact Or.inr rfl))
    (pss_cons (ps_set (i := 9) sc_rows_by.nd rfl (by first | exact Or.inl rfl | exact Or.inr rfl) (pe_ix ix_list (pv 3) (pe_call (ok_drawn T) (hr.mono (by decide)) (by rfl) T.g_drawn T.F_drawn.kp T.b_drawn .nil pass0 (pa_cons (pv 0) (pa_cons (pe_op op_add pe_int (pv 8)) (pa_cons (pv 2) pa_nil)))) (fun _ _ => rfl)))
    (pss_one (ps_if (pt_cmpR op_lt (pe_callB call_len_seq (by rfl) T.n_len bt_len (pa_cons (pv 9) pa_nil)) pe_int (nomark _))
    (pss_one (ps_expr (pe_bm PySem.F.plainAttrs_list PySem.F.slot_list_insert PySem.F.type_list_insert mt_insert (pv 9) (pa_cons (pe_call (ok_drawn T) (hr.mono (by decide)) (by rfl) T.g_drawn T.F_drawn.kp T.b_drawn .nil pass0 (pa_cons (pv 0) (pa_cons (pe_op op_add pe_int (pv 8)) (pa_cons (pe_op op_add (pe_callB call_len_seq (by rfl) T.n_len bt_len (pa_cons (pv 9) pa_nil)) pe_int) pa_nil)))) (pa_cons (pe_call (ok_drawn T) (hr.mono (by decide)) (by rfl) T.g_drawn T.F_drawn.kp T.b_drawn .nil pass0 (pa_cons (pv 0) (pa_cons (pe_op op_add pe_int (pv 8)) (pa_cons (pv 2) pa_nil)))) pa_nil)))))
    pss_nil)))))
    pss_nil)
    (pss_cons (ps_if (pt_cmpR op_eq (pe_call (ok_drawn T) (hr.mono (by decide)) (by rfl) T.g_drawn T.F_drawn.kp T.b_drawn .nil pass0 (pa_cons (pv 0) (pa_cons pe_int (pa_cons pe_int pa_nil)))) pe_int (nomark _))
    (pss_one (ps_setLc (i := 3) (own := [("row", 9)]) (g := (gName 9)) (tt := tYes) rfl sc_rows_by.nd rfl rfl (sw_true rfl rfl rfl (by decide +kernel)) (pi_reversed (by rfl) T.n_reversed (pa_cons (pv 3) pa_nil)) (blkOk_by (own := [("row", 9)]) (N := N_rows_by) (by kernel_rfl))
      (fun _ _ _ _ _ => (pg_name (i := 9) sc_rows_by.nd rfl (by first | exact Or.inl rfl | exact Or.inr rfl))) (fun _ _ _ _ _ => pts_nil) (fun _ _ _ _ _ => (pe_lc (own := [("gone", 10)]) (g := (gName 10)) (tt := tYes) rfl sc_rows_by.nd (pi_list (pv 9)) (blkOk_by (own := [("gone", 10)]) (N := N_rows_by) (by kernel_rfl))
      (fun _ _ _ _ _ => (pg_name (i := 10) sc_rows_by.nd rfl (by first | exact Or.inl rfl | exact Or.inr rfl))) (fun _ _ _ _ _ => pts_nil) (fun _ _ _ _ _ => (pe_call (ok_other T) (hr.mono (by decide)) (by rfl) T.g_other T.F_other.kp T.b_other .nil pass0 (pa_cons (pv 10) (pa_cons (pv 2) pa_nil))))))))
    pss_nil)
    (pss_one (ps_ret (pv 3))))))))))
theorem ok_checked (T : Txt K mg) : FnOk P w K mg base (L2.CX P w) 1 T.f_checked T.d_checked ["rows"] (sp_checked K T.G) := by
  refine T.F_checked.okX sc_checked (fun vs H Q E h => len_checked h) (fun cdv A outer s H vs Q E hr h => ⟨t_checked K T.G E, ?_, pure_checked  h⟩)
  exact (pss_cons (ps_if (PW.pt (pw_or (pt_cmpR op_lt (pe_callB call_len_seq (by rfl) T.n_len bt_len (pa_cons (pv 0) pa_nil)) pe_int (nomark _)) (pw_or1 (pt_cmpR op_gt (pe_callB call_len_seq (by rfl) T.n_len bt_len (pa_cons (pv 0) pa_nil)) (pe_glob (v := .int 12) (by rfl) T.g_MOST_SITES ⟨_, rfl⟩) (nomark _)))))
    (pss_one (ps_raise rfl (takes_of rfl rfl rfl rfl) (pmk_own PySem.F.excBase_ValueError T.x_NoSite T.g_NoSite T.k_NoSite (raises_own T.b_NoSite T.t_NoSite) (by rfl))))
    pss_nil)
    (pss_cons (ps_for (passes_of rfl) rfl (pi_list (pv 0)) (pg_name (i := 1) sc_checked.nd rfl (by first | exact Or.inl rfl | exact Or.inr rfl))
    (pss_cons (ps_if (PW.pt (pw_or (pt_cmpR op_lt (pe_callB call_len_seq (by rfl) T.n_len bt_len (pa_cons (pv 1) pa_nil)) pe_int (nomark _)) (pw_or1 (pt_cmpR op_gt (pe_callB call_len_seq (by rfl) T.n_len bt_len (pa_cons (pv 1) pa_nil)) (pe_glob (v := .int 8) (by rfl) T.g_MOST_EXITS ⟨_, rfl⟩) (nomark _)))))
    (pss_one (ps_raise rfl (takes_of rfl rfl rfl rfl) (pmk_own PySem.F.excBase_ValueError T.x_NoExit T.g_NoExit T.k_NoExit (raises_own T.b_NoExit T.t_NoExit) (by rfl))))
    pss_nil)
    (pss_one (ps_for (passes_of rfl) rfl (pi_list (pv 1)) (pg_name (i := 2) sc_checked.nd rfl (by first | exact Or.inl rfl | exact Or.inr rfl))
    (pss_one (ps_if (PW.pt (pw_or (pt_cmpR op_lt (pv 2) (pe_glob (v := .int (-1)) (by rfl) T.g_PIT ⟨_, rfl⟩) (nomark _)) (pw_or1 (pt_cmpR op_ge (pv 2) (pe_callB call_len_seq (by rfl) T.n_len bt_len (pa_cons (pv 0) pa_nil)) (nomark _)))))
    (pss_one (ps_raise rfl (takes_of rfl rfl rfl rfl) (pmk_own PySem.F.excBase_ValueError T.x_NoExit T.g_NoExit T.k_NoExit (raises_own T.b_NoExit T.t_NoExit) (by rfl))))
    pss_nil))))))
    (pss_one (ps_ret (pe_lc (own := [("row", 1)]) (g := (gName 1)) (tt := tYes) rfl sc_checked.nd (pi_list (pv 0)) (blkOk_by (own := [("row", 1)]) (N := N_checked) (by kernel_rfl))
      (fun _ _ _ _ _ => (pg_name (i := 1) sc_checked.nd rfl (by first | exact Or.inl rfl | exact Or.inr rfl))) (fun _ _ _ _ _ => pts_nil) (fun _ _ _ _ _ => (pe_callTy call_list_of (by rfl) T.n_list bt_list (pa_cons (pv 1) pa_nil))))))))
theorem ok_Board_init (T : Txt K mg) : FnOk P w K mg base (L2.CX P w) 2 T.f_Board_init T.d_Board_init ["self", "rows"] (sp_Board_init K T.G) := by
  refine T.F_Board_init.okX sc_Board_init (fun vs H Q E h => len_Board_init h) (fun cdv A outer s H vs Q E hr h => ⟨t_Board_init K T.G E, ?_, pure_Board_init T.bd h⟩)
  exact (pss_cons (ps_fld (pv 0) (pe_call (ok_checked T) (hr.mono (by decide)) (by rfl) T.g_checked T.F_checked.kp T.b_checked .nil (passes_call (takes_of rfl rfl rfl rfl) fun _ _ _ _ z => z) (pa_cons (pv 1) pa_nil)) rfl)
    (pss_cons (ps_fld (pv 0) (pe_lc (own := [("row", 2)]) (g := (gName 2)) (tt := tYes) rfl sc_Board_init.nd (pi_list (pv 1)) (blkOk_by (own := [("row", 2)]) (N := N_Board_init) (by kernel_rfl))
      (fun _ _ _ _ _ => (pg_name (i := 2) sc_Board_init.nd rfl (by first | exact Or.inl rfl | exact Or.inr rfl))) (fun _ _ _ _ _ => pts_nil) (fun _ _ _ _ _ => pe_int)) rfl)
    (pss_cons (ps_fld (pv 0) (pe_lc (own := [("row", 2)]) (g := (gName 2)) (tt := tYes) rfl sc_Board_init.nd (pi_list (pv 1)) (blkOk_by (own := [("row", 2)]) (N := N_Board_init) (by kernel_rfl))
      (fun _ _ _ _ _ => (pg_name (i := 2) sc_Board_init.nd rfl (by first | exact Or.inl rfl | exact Or.inr rfl))) (fun _ _ _ _ _ => pts_nil) (fun _ _ _ _ _ => pe_int)) rfl)
    (pss_cons (ps_fld (pv 0) (pe_lc (own := [("row", 2)]) (g := (gName 2)) (tt := tYes) rfl sc_Board_init.nd (pi_list (pv 1)) (blkOk_by (own := [("row", 2)]) (N := N_Board_init) (by kernel_rfl))
      (fun _ _ _ _ _ => (pg_name (i := 2) sc_Board_init.nd rfl (by first | exact Or.inl rfl | exact Or.inr rfl))) (fun _ _ _ _ _ => pts_nil) (fun _ _ _ _ _ => pe_int)) rfl)
    (pss_one (ps_fld (pv 0) pe_int rfl))))))
theorem ok_refusal_k05 (T : Txt K mg) : FnOk P w K mg base CX0 4 T.f_refusal_k05 T.d_refusal_k05 ["rows"] (sp_refusal_k05 K T.G) := by
  refine T.F_refusal_k05.ok sc_refusal_k05 (fun vs H Q E h => len_refusal_k05 h) (fun cdv A outer s H vs Q E hr h => ⟨t_refusal_k05 K T.G E, ?_, pure_refusal_k05 T.e_NoSite_BoardError T.e_NoExit_BoardError T.kt_NoSite_ValueError T.kt_NoExit_ValueError T.ki_NoSite_NoSite T.ki_NoSite_NoExit T.ki_NoExit_NoSite T.ki_NoExit_NoExit T.ec_NoSite T.ec_NoExit h⟩)
  exact (pss_cons (ps_try_as (tb := (fun W => (tDrop (tMakeT T.G.Board (sp_Board_init K T.G) (WE W) (tCons (tVar 0) tNil))))) (i := 1) rfl rfl sc_refusal_k05.nd rfl rfl ⟨rfl, by decide, .inl T.g_BoardError⟩ takes0
    (fun W pn xe tk po => (pss_one (ps_expr (pe_makeT T.mk_Board (ok_Board_init T) (hr.mono (by decide)) (by rfl) T.g_Board T.b_Board_init (fun σ => passAt tk σ) (pa_cons (pv 0) pa_nil)))))
    (fun a oe cls d pn hz hf => (pss_cons (ps_if (pt_not (pt_val (pe_callB (call_isX hz hf) (by rfl) T.n_isinstance bt_isinstance (pa_cons (pv 1) (pa_cons (pe_bltn (v := .ty "ValueError") (by rfl) T.n_ValueError bt_ValueError rfl) pa_nil)))))
    (pss_one (ps_ret pe_str))
    pss_nil)
    (pss_cons (ps_if (PW.pt (pw_and (pt_val (pe_callB (call_isX hz hf) (by rfl) T.n_isinstance bt_isinstance (pa_cons (pv 1) (pa_cons (pe_glob (v := .ref T.G.NoSite) (by rfl) T.g_NoSite rfl) pa_nil)))) (pw_and1 (pt_not (pt_val (pe_callB (call_isX hz hf) (by rfl) T.n_isinstance bt_isinstance (pa_cons (pv 1) (pa_cons (pe_glob (v := .ref T.G.NoExit) (by rfl) T.g_NoExit rfl) pa_nil))))))))
    (pss_one (ps_ret pe_str))
    pss_nil)
    (pss_cons (ps_if (PW.pt (pw_and (pt_val (pe_callB (call_isX hz hf) (by rfl) T.n_isinstance bt_isinstance (pa_cons (pv 1) (pa_cons (pe_glob (v := .ref T.G.NoExit) (by rfl) T.g_NoExit rfl) pa_nil)))) (pw_and1 (pt_not (pt_val (pe_callB (call_isX hz hf) (by rfl) T.n_isinstance bt_isinstance (pa_cons (pv 1) (pa_cons (pe_glob (v := .ref T.G.NoSite) (by rfl) T.g_NoSite rfl) pa_nil))))))))
    (pss_one (ps_ret pe_str))
    pss_nil)
    (pss_one (ps_ret pe_str)))))))
    (pss_one (ps_ret pe_str)))
theorem ok_law_k05 (T : Txt K mg) : FnOk P w K mg base CX0 5 T.f_law_k05 T.d_law_k05 ["script"] (spLaw K) := by
  refine T.F_law_k05.ok sc_law_k05 (fun vs H Q E h => lenLaw h) (fun cdv A outer s H vs Q E hr h => ⟨t_law_k05 K T.G E, ?_, pure_law_k05  h⟩)
  exact (pss_cons (ps_set (i := 1) sc_law_k05.nd rfl (by first | exact Or.inl rfl | exact Or.inr rfl) (pe_call (ok_rows_by T) (hr.mono (by decide)) (by rfl) T.g_rows_by T.F_rows_by.kp T.b_rows_by .nil pass0 (pa_cons (pv 0) pa_nil)))
    (pss_cons (ps_setLc (i := 2) (own := [("row", 10)]) (g := (gName 10)) (tt := tYes) rfl sc_law_k05.nd rfl rfl (sw_true rfl rfl rfl (by decide +kernel)) (pi_list (pv 1)) (blkOk_by (own := [("row", 10)]) (N := N_law_k05) (by kernel_rfl))
      (fun _ _ _ _ _ => (pg_name (i := 10) sc_law_k05.nd rfl (by first | exact Or.inl rfl | exact Or.inr rfl))) (fun _ _ _ _ _ => pts_nil) (fun _ _ _ _ _ => (pe_callTy call_list_of (by rfl) T.n_list bt_list (pa_cons (pv 10) pa_nil))))
    (pss_cons (ps_set (i := 3) sc_law_k05.nd rfl (by first | exact Or.inl rfl | exact Or.inr rfl) (pe_call (ok_drawn T) (hr.mono (by decide)) (by rfl) T.g_drawn T.F_drawn.kp T.b_drawn .nil pass0 (pa_cons (pv 0) (pa_cons pe_int (pa_cons (pe_callB call_len_seq (by rfl) T.n_len bt_len (pa_cons (pv 1) pa_nil)) pa_nil)))))
    (pss_cons (ps_set (i := 4) sc_law_k05.nd rfl (by first | exact Or.inl rfl | exact Or.inr rfl) (pe_call (ok_drawn T) (hr.mono (by decide)) (by rfl) T.g_drawn T.F_drawn.kp T.b_drawn .nil pass0 (pa_cons (pv 0) (pa_cons pe_int (pa_cons pe_int pa_nil)))))
    (pss_cons (ps_set (i := 5) sc_law_k05.nd rfl (by first | exact Or.inl rfl | exact Or.inr rfl) (pe_call (ok_drawn T) (hr.mono (by decide)) (by rfl) T.g_drawn T.F_drawn.kp T.b_drawn .nil pass0 (pa_cons (pv 0) (pa_cons pe_int (pa_cons (pe_op op_pow pe_int pe_int) pa_nil)))))
    (pss_cons (ps_set (i := 6) sc_law_k05.nd rfl (by first | exact Or.inl rfl | exact Or.inr rfl) pe_str)
    (pss_cons (ps_if (pt_cmpR op_eq (pv 4) pe_int (nomark _))
    (pss_one (ps_asg (pe_lst pa_nil) (pg_sub (pv 2) (pv 3) set_list)))
    pss_nil)
    (pss_cons (ps_if (pt_cmpR op_eq (pv 4) pe_int (nomark _))
    (pss_one (ps_asg (pe_lc (own := [("k", 11)]) (g := (gName 11)) (tt := tYes) rfl sc_law_k05.nd (pi_range1 (by rfl) T.n_range (pa_cons (pe_op op_add pe_int (pe_call (ok_drawn T) (hr.mono (by decide)) (by rfl) T.g_drawn T.F_drawn.kp T.b_drawn .nil pass0 (pa_cons (pv 0) (pa_cons pe_int (pa_cons pe_int pa_nil))))) pa_nil)) (blkOk_by (own := [("k", 11)]) (N := N_law_k05) (by kernel_rfl))
      (fun _ _ _ _ _ => (pg_name (i := 11) sc_law_k05.nd rfl (by first | exact Or.inl rfl | exact Or.inr rfl))) (fun _ _ _ _ _ => pts_nil) (fun _ _ _ _ _ => (pe_un un_neg pe_int))) (pg_sub (pv 2) (pv 3) set_list)))
    pss_nil)
    (pss_cons (ps_if (PW.pt (pw_or (pt_cmpR op_eq (pv 4) pe_int (nomark _)) (pw_or1 (pt_cmpR op_eq (pv 4) pe_int (nomark _)))))
    (pss_cons (ps_set (i := 7) sc_law_k05.nd rfl (by first | exact Or.inl rfl | exact Or.inr rfl) (pe_call (ok_drawn T) (hr.mono (by decide)) (by rfl) T.g_drawn T.F_drawn.kp T.b_drawn .nil pass0 (pa_cons (pv 0) (pa_cons pe_int (pa_cons (pe_callB call_len_seq (by rfl) T.n_len bt_len (pa_cons (pe_ix ix_list (pv 2) (pv 3) (fun _ _ => rfl)) pa_nil)) pa_nil)))))
    (pss_one (ps_asg (pe_ix ix_list (pe_lst (pa_cons (pe_callB call_len_seq (by rfl) T.n_len bt_len (pa_cons (pv 1) pa_nil)) (pa_cons (pe_op op_add (pe_callB call_len_seq (by rfl) T.n_len bt_len (pa_cons (pv 1) pa_nil)) (pv 5)) (pa_cons (pe_un un_neg pe_int) (pa_cons (pe_op op_sub (pe_un un_neg pe_int) (pv 5)) pa_nil))))) (pe_call (ok_drawn T) (hr.mono (by decide)) (by rfl) T.g_drawn T.F_drawn.kp T.b_drawn .nil pass0 (pa_cons (pv 0) (pa_cons pe_int (pa_cons pe_int pa_nil)))) (fun _ _ => rfl)) (pg_sub (pe_ix ix_list (pv 2) (pv 3) (fun _ _ => rfl)) (pv 7) set_list))))
    pss_nil)
    (pss_cons (ps_if (pt_cmpR op_eq (pv 4) pe_int (nomark _))
    (pss_cons (ps_set (i := 6) sc_law_k05.nd rfl (by first | exact Or.inl rfl | exact Or.inr rfl) pe_str)
    (pss_cons (ps_set (i := 8) sc_law_k05.nd rfl (by first | exact Or.inl rfl | exact Or.inr rfl) (pe_ix ix_list (pe_lst (pa_cons (pe_un un_neg pe_int) (pa_cons (pe_op op_add (pv 5) pe_int) pa_nil))) (pe_call (ok_drawn T) (hr.mono (by decide)) (by rfl) T.g_drawn T.F_drawn.kp T.b_drawn .nil pass0 (pa_cons (pv 0) (pa_cons pe_int (pa_cons pe_int pa_nil)))) (fun _ _ => rfl)))
    (pss_one (ps_setLc (i := 2) (own := [("k", 11)]) (g := (gName 11)) (tt := tYes) rfl sc_law_k05.nd rfl rfl (sw_true rfl rfl rfl (by decide +kernel)) (pi_range1 (by rfl) T.n_range (pa_cons (pe_ix ix_list (pe_lst (pa_cons pe_int (pa_cons (pe_op op_add pe_int (pe_call (ok_drawn T) (hr.mono (by decide)) (by rfl) T.g_drawn T.F_drawn.kp T.b_drawn .nil pass0 (pa_cons (pv 0) (pa_cons pe_int (pa_cons pe_int pa_nil))))) pa_nil))) (pe_call (ok_drawn T) (hr.mono (by decide)) (by rfl) T.g_drawn T.F_drawn.kp T.b_drawn .nil pass0 (pa_cons (pv 0) (pa_cons pe_int (pa_cons pe_int pa_nil)))) (fun _ _ => rfl)) pa_nil)) (blkOk_by (own := [("k", 11)]) (N := N_law_k05) (by kernel_rfl))
      (fun _ _ _ _ _ => (pg_name (i := 11) sc_law_k05.nd rfl (by first | exact Or.inl rfl | exact Or.inr rfl))) (fun _ _ _ _ _ => pts_nil) (fun _ _ _ _ _ => (pe_lst (pa_cons (pv 8) pa_nil)))))))
    pss_nil)
    (pss_cons (ps_setLc (i := 9) (own := [("row", 10)]) (g := (gName 10)) (tt := tYes) rfl sc_law_k05.nd rfl rfl (sw_true rfl rfl rfl (by decide +kernel)) (pi_list (pv 2)) (blkOk_by (own := [("row", 10)]) (N := N_law_k05) (by kernel_rfl))
      (fun _ _ _ _ _ => (pg_name (i := 10) sc_law_k05.nd rfl (by first | exact Or.inl rfl | exact Or.inr rfl))) (fun _ _ _ _ _ => pts_nil) (fun _ _ _ _ _ => (pe_callTy call_list_of (by rfl) T.n_list bt_list (pa_cons (pv 10) pa_nil))))
    (pss_cons (ps_if (PW.pt (pw_or (pt_cmpR op_ne (pe_call (ok_refusal_k05 T) (hr.mono (by decide)) (by rfl) T.g_refusal_k05 T.F_refusal_k05.kp T.b_refusal_k05 .nil pass0 (pa_cons (pv 2) pa_nil)) (pv 6) (nomark _)) (pw_or1 (pt_cmpR (op_neD hr.units) (pv 2) (pv 9) (nomark _)))))
    (pss_one (ps_ret pe_bl))
    pss_nil)
    (pss_one (ps_ret (pe_cmpR op_eq (pe_call (ok_refusal_k05 T) (hr.mono (by decide)) (by rfl) T.g_refusal_k05 T.F_refusal_k05.kp T.b_refusal_k05 .nil pass0 (pa_cons (pe_lc (own := [("row", 10)]) (g := (gName 10)) (tt := tYes) rfl sc_law_k05.nd (pi_list (pv 1)) (blkOk_by (own := [("row", 10)]) (N := N_law_k05) (by kernel_rfl))
      (fun _ _ _ _ _ => (pg_name (i := 10) sc_law_k05.nd rfl (by first | exact Or.inl rfl | exact Or.inr rfl))) (fun _ _ _ _ _ => pts_nil) (fun _ _ _ _ _ => (pe_callTy call_list_of (by rfl) T.n_list bt_list (pa_cons (pv 10) pa_nil)))) pa_nil)) pe_str (nomark _))))))))))))))))
end
theorem all_mk {l : PySem.W.OpenLaw} {w : World} {K : PySem.W.Frag} {h : Heap} {mg : Str → Option Value} {fa f_drawn f_other f_rows_by f_checked f_Board_init f_refusal_k05 f_law_k05 c_Board c_NoSite c_NoExit c_BoardError : Addr} (X : K.In h) (G : h.Ns mainGlobals mg) (hfa : mg "law" = some (.ref fa))
    {od_drawn an_drawn : Option Addr} {sl_drawn : Array (Option Value)} {oc_drawn kV_drawn dc_drawn pm_drawn cd_drawn ct_drawn : Value}
    {od_other an_other : Option Addr} {sl_other : Array (Option Value)} {oc_other kV_other dc_other pm_other cd_other ct_other : Value}
    {od_rows_by an_rows_by : Option Addr} {sl_rows_by : Array (Option Value)} {oc_rows_by kV_rows_by dc_rows_by pm_rows_by cd_rows_by ct_rows_by : Value}
    {od_checked an_checked : Option Addr} {sl_checked : Array (Option Value)} {oc_checked kV_checked dc_checked pm_checked cd_checked ct_checked : Value}
    {od_Board_init an_Board_init : Option Addr} {sl_Board_init : Array (Option Value)} {oc_Board_init kV_Board_init dc_Board_init pm_Board_init cd_Board_init ct_Board_init : Value}
    {od_refusal_k05 an_refusal_k05 : Option Addr} {sl_refusal_k05 : Array (Option Value)} {oc_refusal_k05 kV_refusal_k05 dc_refusal_k05 pm_refusal_k05 cd_refusal_k05 ct_refusal_k05 : Value}
    {od_law_k05 an_law_k05 : Option Addr} {sl_law_k05 : Array (Option Value)} {oc_law_k05 kV_law_k05 dc_law_k05 pm_law_k05 cd_law_k05 ct_law_k05 : Value}
    {tk_MOST_SITES : Tok}
    {tk_MOST_EXITS : Tok}
    {tk_PIT : Tok}
    (a_cBoard : PySem.W.nsIn K mainGlobals "Board" = some (some (.ref c_Board)))
    (a_drawn : PySem.W.nsIn K mainGlobals "_law_drawn" = some (some (.ref f_drawn)))
    (l_drawn : K.lookup f_drawn = some ⟨oc_drawn, od_drawn, .func (PySem.W.fnOf "_law_drawn" "_law_drawn" (defArgs s_drawn) (defBody s_drawn) (defScope s_drawn) .none kV_drawn dc_drawn pm_drawn an_drawn cd_drawn ct_drawn), sl_drawn⟩)
    (c_drawn : PySem.W.codeIn K cd_drawn "_law_drawn" = true)
    (k_drawn : PySem.W.keepIn K (.ref f_drawn) = true)
    (a_other : PySem.W.nsIn K mainGlobals "_law_other" = some (some (.ref f_other)))
    (l_other : K.lookup f_other = some ⟨oc_other, od_other, .func (PySem.W.fnOf "_law_other" "_law_other" (defArgs s_other) (defBody s_other) (defScope s_other) .none kV_other dc_other pm_other an_other cd_other ct_other), sl_other⟩)
    (c_other : PySem.W.codeIn K cd_other "_law_other" = true)
    (k_other : PySem.W.keepIn K (.ref f_other) = true)
    (a_rows_by : PySem.W.nsIn K mainGlobals "_law_rows_by" = some (some (.ref f_rows_by)))
    (l_rows_by : K.lookup f_rows_by = some ⟨oc_rows_by, od_rows_by, .func (PySem.W.fnOf "_law_rows_by" "_law_rows_by" (defArgs s_rows_by) (defBody s_rows_by) (defScope s_rows_by) .none kV_rows_by dc_rows_by pm_rows_by an_rows_by cd_rows_by ct_rows_by), sl_rows_by⟩)
    (c_rows_by : PySem.W.codeIn K cd_rows_by "_law_rows_by" = true)
    (k_rows_by : PySem.W.keepIn K (.ref f_rows_by) = true)
    (a_checked : PySem.W.nsIn K mainGlobals "checked" = some (some (.ref f_checked)))
    (l_checked : K.lookup f_checked = some ⟨oc_checked, od_checked, .func (PySem.W.fnOf "checked" "checked" (defArgs s_checked) (defBody s_checked) (defScope s_checked) .none kV_checked dc_checked pm_checked an_checked cd_checked ct_checked), sl_checked⟩)
    (c_checked : PySem.W.codeIn K cd_checked "checked" = true)
    (k_checked : PySem.W.keepIn K (.ref f_checked) = true)
    (a_Board_init : PySem.W.findIn K (.ref c_Board) "__init__" = some (some (.ref f_Board_init)))
    (i_Board_init : PySem.W.isFn K (.ref f_Board_init) = true)
    (l_Board_init : K.lookup f_Board_init = some ⟨oc_Board_init, od_Board_init, .func (PySem.W.fnOf "__init__" "Board.__init__" (defArgs s_Board_init) (defBody s_Board_init) (defScope s_Board_init) .none kV_Board_init dc_Board_init pm_Board_init an_Board_init cd_Board_init ct_Board_init), sl_Board_init⟩)
    (c_Board_init : PySem.W.codeIn K cd_Board_init "Board.__init__" = true)
    (k_Board_init : PySem.W.keepIn K (.ref f_Board_init) = true)
    (a_refusal_k05 : PySem.W.nsIn K mainGlobals "_law_refusal" = some (some (.ref f_refusal_k05)))
    (l_refusal_k05 : K.lookup f_refusal_k05 = some ⟨oc_refusal_k05, od_refusal_k05, .func (PySem.W.fnOf "_law_refusal" "_law_refusal" (defArgs s_refusal_k05) (defBody s_refusal_k05) (defScope s_refusal_k05) .none kV_refusal_k05 dc_refusal_k05 pm_refusal_k05 an_refusal_k05 cd_refusal_k05 ct_refusal_k05), sl_refusal_k05⟩)
    (c_refusal_k05 : PySem.W.codeIn K cd_refusal_k05 "_law_refusal" = true)
    (k_refusal_k05 : PySem.W.keepIn K (.ref f_refusal_k05) = true)
    (a_law_k05 : PySem.W.nsIn K mainGlobals "law" = some (some (.ref f_law_k05)))
    (l_law_k05 : K.lookup f_law_k05 = some ⟨oc_law_k05, od_law_k05, .func (PySem.W.fnOf "law" "law" (defArgs s_law_k05) (defBody s_law_k05) (defScope s_law_k05) .none kV_law_k05 dc_law_k05 pm_law_k05 an_law_k05 cd_law_k05 ct_law_k05), sl_law_k05⟩)
    (c_law_k05 : PySem.W.codeIn K cd_law_k05 "law" = true)
    (k_law_k05 : PySem.W.keepIn K (.ref f_law_k05) = true)
    (pg_Board : PySem.W.plainGet K c_Board Str.empty = true)
    (hd_Board : PySem.W.hasDictIn K c_Board = true)
    (po_Board : PySem.W.plainOver K c_Board = true)
    (sa_Board : PySem.W.findIn K (.ref c_Board) "__setattr__" = some (some (.builtin "object.__setattr__")))
    (mk_Board : PySem.W.makesIn K c_Board = true)
    (kc_Board : PySem.W.keepIn K (.ref c_Board) = true)
    (na_rows : PySem.W.findIn K (.ref c_Board) "rows" = some none)
    (na_turns : PySem.W.findIn K (.ref c_Board) "turns" = some none)
    (na_loads : PySem.W.findIn K (.ref c_Board) "loads" = some none)
    (na_steps : PySem.W.findIn K (.ref c_Board) "steps" = some none)
    (na_taken : PySem.W.findIn K (.ref c_Board) "taken" = some none)
    (gi_MOST_SITES : PySem.W.nsIn K mainGlobals "MOST_SITES" = some (some (.int 12 tk_MOST_SITES)))
    (gi_MOST_EXITS : PySem.W.nsIn K mainGlobals "MOST_EXITS" = some (some (.int 8 tk_MOST_EXITS)))
    (gi_PIT : PySem.W.nsIn K mainGlobals "PIT" = some (some (.int (-1) tk_PIT)))
    (n_len : PySem.W.nsIn K mainGlobals "len" = some none)
    (n_range : PySem.W.nsIn K mainGlobals "range" = some none)
    (n_reversed : PySem.W.nsIn K mainGlobals "reversed" = some none)
    (n_list : PySem.W.nsIn K mainGlobals "list" = some none)
    (n_ValueError : PySem.W.nsIn K mainGlobals "ValueError" = some none)
    (n_isinstance : PySem.W.nsIn K mainGlobals "isinstance" = some none)
    (a_cNoSite : PySem.W.nsIn K mainGlobals "NoSite" = some (some (.ref c_NoSite)))
    (x_NoSite : PySem.W.excIn K c_NoSite [.type "ValueError", .type "Exception", .type "BaseException", .type "object"] "ValueError.__new__" = true)
    (k_NoSite : PySem.W.keepIn K (.ref c_NoSite) = true)
    (b_NoSite : PySem.W.subIn K (.ref c_NoSite) (.type "BaseException") = some true)
    (t_NoSite : PySem.W.typeIn K (.ref c_NoSite) = some (.type "type"))
    (a_cNoExit : PySem.W.nsIn K mainGlobals "NoExit" = some (some (.ref c_NoExit)))
    (x_NoExit : PySem.W.excIn K c_NoExit [.type "ValueError", .type "Exception", .type "BaseException", .type "object"] "ValueError.__new__" = true)
    (k_NoExit : PySem.W.keepIn K (.ref c_NoExit) = true)
    (b_NoExit : PySem.W.subIn K (.ref c_NoExit) (.type "BaseException") = some true)
    (t_NoExit : PySem.W.typeIn K (.ref c_NoExit) = some (.type "type"))
    (a_cBoardError : PySem.W.nsIn K mainGlobals "BoardError" = some (some (.ref c_BoardError)))
    (x_BoardError : PySem.W.excIn K c_BoardError [.type "ValueError", .type "Exception", .type "BaseException", .type "object"] "ValueError.__new__" = true)
    (k_BoardError : PySem.W.keepIn K (.ref c_BoardError) = true)
    (b_BoardError : PySem.W.subIn K (.ref c_BoardError) (.type "BaseException") = some true)
    (t_BoardError : PySem.W.typeIn K (.ref c_BoardError) = some (.type "type"))
    (hd_BoardError : PySem.W.hasDictIn K c_BoardError = true)
    (e_NoSite_BoardError : PySem.W.subIn K (.ref c_NoSite) (.ref c_BoardError) = some true)
    (e_NoExit_BoardError : PySem.W.subIn K (.ref c_NoExit) (.ref c_BoardError) = some true)
    (kt_NoSite_ValueError : PySem.W.kitOne K (.ref c_NoSite) (.type "ValueError") = some true)
    (kt_NoExit_ValueError : PySem.W.kitOne K (.ref c_NoExit) (.type "ValueError") = some true)
    (ki_NoSite_NoSite : PySem.W.kitOne K (.ref c_NoSite) (.ref c_NoSite) = some true)
    (ki_NoSite_NoExit : PySem.W.kitOne K (.ref c_NoSite) (.ref c_NoExit) = some false)
    (ki_NoExit_NoSite : PySem.W.kitOne K (.ref c_NoExit) (.ref c_NoSite) = some false)
    (ki_NoExit_NoExit : PySem.W.kitOne K (.ref c_NoExit) (.ref c_NoExit) = some true)
    (echg_NoSite : PySem.W.findIn K (.ref c_NoSite) "__getattribute__" = some (some (.builtin "BaseException.__getattribute__")))
    (echk_NoSite : PySem.W.findIn K (.ref c_NoSite) "__getattr__" = some none)
    (echs_NoSite : PySem.W.subIn K (.ref c_NoSite) (.type "BaseException") = some true)
    (echd_NoSite : PySem.W.hasDictIn K c_NoSite = true)
    (echa_NoSite : PySem.W.findIn K (.ref c_NoSite) "__class__" = some (some (.builtin "object.__class__")))
    (echn_NoSite : PySem.W.specialIn K (.builtin "object.__class__") "__get__" = some (some (.builtin "getset_descriptor.__get__")))
    (echt_NoSite : PySem.W.takesIn K (.builtin "object.__class__") = some true)
    (echm_NoSite : PySem.W.mroIn K c_NoSite (.type "object") = some true)
    (echg_NoExit : PySem.W.findIn K (.ref c_NoExit) "__getattribute__" = some (some (.builtin "BaseException.__getattribute__")))
    (echk_NoExit : PySem.W.findIn K (.ref c_NoExit) "__getattr__" = some none)
    (echs_NoExit : PySem.W.subIn K (.ref c_NoExit) (.type "BaseException") = some true)
    (echd_NoExit : PySem.W.hasDictIn K c_NoExit = true)
    (echa_NoExit : PySem.W.findIn K (.ref c_NoExit) "__class__" = some (some (.builtin "object.__class__")))
    (echn_NoExit : PySem.W.specialIn K (.builtin "object.__class__") "__get__" = some (some (.builtin "getset_descriptor.__get__")))
    (echt_NoExit : PySem.W.takesIn K (.builtin "object.__class__") = some true)
    (echm_NoExit : PySem.W.mroIn K c_NoExit (.type "object") = some true)
    : ∃ fd : FuncData, (∀ (s : Shared) (v : Value), BindsTo s fd ⟨[v], []⟩ [("script", v)]) ∧ ∀ base : Heap, K.In base → base.Ns mainGlobals mg → FnOk l.prog w K mg base CX0 5 fa fd ["script"] (spLaw K) := by
  have e := hfa.symm.trans (PySem.W.mg_of X G a_law_k05)
  cases e
  let T : Txt K mg := {
    G := ⟨c_Board, c_BoardError, c_NoSite, c_NoExit, 0, 0, 0, 0, 0, 0, 0, 0⟩
    f_drawn := f_drawn
    d_drawn := _
    F_drawn := fun_mk (st := s_drawn) l_drawn c_drawn k_drawn
    b_drawn := Fun.binds (ps := ["script", "k", "many"]) (fun_mk (st := s_drawn) l_drawn c_drawn k_drawn) fun _ _ _ _ _ _ us hl => match us, hl with | [_, _, _], _ => rfl
    g_drawn := PySem.W.mg_of X G a_drawn
    f_other := f_other
    d_other := _
    F_other := fun_mk (st := s_other) l_other c_other k_other
    b_other := Fun.binds (ps := ["gone", "many"]) (fun_mk (st := s_other) l_other c_other k_other) fun _ _ _ _ _ _ us hl => match us, hl with | [_, _], _ => rfl
    g_other := PySem.W.mg_of X G a_other
    f_rows_by := f_rows_by
    d_rows_by := _
    F_rows_by := fun_mk (st := s_rows_by) l_rows_by c_rows_by k_rows_by
    b_rows_by := Fun.binds (ps := ["script"]) (fun_mk (st := s_rows_by) l_rows_by c_rows_by k_rows_by) fun _ _ _ _ _ _ us hl => match us, hl with | [_], _ => rfl
    g_rows_by := PySem.W.mg_of X G a_rows_by
    f_checked := f_checked
    d_checked := _
    F_checked := fun_mk (st := s_checked) l_checked c_checked k_checked
    b_checked := Fun.binds (ps := ["rows"]) (fun_mk (st := s_checked) l_checked c_checked k_checked) fun _ _ _ _ _ _ us hl => match us, hl with | [_], _ => rfl
    g_checked := PySem.W.mg_of X G a_checked
    f_Board_init := f_Board_init
    d_Board_init := _
    F_Board_init := fun_mk (st := s_Board_init) l_Board_init c_Board_init k_Board_init
    b_Board_init := Fun.binds (ps := ["self", "rows"]) (fun_mk (st := s_Board_init) l_Board_init c_Board_init k_Board_init) fun _ _ _ _ _ _ us hl => match us, hl with | [_, _], _ => rfl
    mk_Board := ⟨mk_Board, a_Board_init, i_Board_init, kc_Board⟩
    f_refusal_k05 := f_refusal_k05
    d_refusal_k05 := _
    F_refusal_k05 := fun_mk (st := s_refusal_k05) l_refusal_k05 c_refusal_k05 k_refusal_k05
    b_refusal_k05 := Fun.binds (ps := ["rows"]) (fun_mk (st := s_refusal_k05) l_refusal_k05 c_refusal_k05 k_refusal_k05) fun _ _ _ _ _ _ us hl => match us, hl with | [_], _ => rfl
    g_refusal_k05 := PySem.W.mg_of X G a_refusal_k05
    f_law_k05 := fa
    d_law_k05 := _
    F_law_k05 := fun_mk (st := s_law_k05) l_law_k05 c_law_k05 k_law_k05
    b_law_k05 := Fun.binds (ps := ["script"]) (fun_mk (st := s_law_k05) l_law_k05 c_law_k05 k_law_k05) fun _ _ _ _ _ _ us hl => match us, hl with | [_], _ => rfl
    cl_Board := ⟨pg_Board, hd_Board, po_Board, sa_Board⟩
    bd := ⟨⟨pg_Board, hd_Board, po_Board, sa_Board⟩, na_rows, na_turns, na_loads, na_steps, na_taken⟩
    g_Board := PySem.W.mg_of X G a_cBoard
    tk_MOST_SITES := tk_MOST_SITES
    g_MOST_SITES := PySem.W.mg_of X G gi_MOST_SITES
    tk_MOST_EXITS := tk_MOST_EXITS
    g_MOST_EXITS := PySem.W.mg_of X G gi_MOST_EXITS
    tk_PIT := tk_PIT
    g_PIT := PySem.W.mg_of X G gi_PIT
    n_len := PySem.W.mg_none_of X G n_len
    n_range := PySem.W.mg_none_of X G n_range
    n_reversed := PySem.W.mg_none_of X G n_reversed
    n_list := PySem.W.mg_none_of X G n_list
    n_ValueError := PySem.W.mg_none_of X G n_ValueError
    n_isinstance := PySem.W.mg_none_of X G n_isinstance
    g_NoSite := PySem.W.mg_of X G a_cNoSite
    x_NoSite := x_NoSite
    k_NoSite := k_NoSite
    b_NoSite := b_NoSite
    t_NoSite := t_NoSite
    g_NoExit := PySem.W.mg_of X G a_cNoExit
    x_NoExit := x_NoExit
    k_NoExit := k_NoExit
    b_NoExit := b_NoExit
    t_NoExit := t_NoExit
    g_BoardError := PySem.W.mg_of X G a_cBoardError
    x_BoardError := x_BoardError
    k_BoardError := k_BoardError
    b_BoardError := b_BoardError
    t_BoardError := t_BoardError
    e_NoSite_BoardError := PySem.W.exm_ref b_BoardError hd_BoardError t_BoardError e_NoSite_BoardError
    e_NoExit_BoardError := PySem.W.exm_ref b_BoardError hd_BoardError t_BoardError e_NoExit_BoardError
    kt_NoSite_ValueError := kt_NoSite_ValueError
    kt_NoExit_ValueError := kt_NoExit_ValueError
    ki_NoSite_NoSite := ki_NoSite_NoSite
    ki_NoSite_NoExit := ki_NoSite_NoExit
    ki_NoExit_NoSite := ki_NoExit_NoSite
    ki_NoExit_NoExit := ki_NoExit_NoExit
    ec_NoSite := ⟨echg_NoSite, echk_NoSite, echs_NoSite, echd_NoSite, echa_NoSite, echn_NoSite, echt_NoSite, echm_NoSite⟩
    ec_NoExit := ⟨echg_NoExit, echk_NoExit, echs_NoExit, echd_NoExit, echa_NoExit, echn_NoExit, echt_NoExit, echm_NoExit⟩
  }
  exact ⟨PySem.W.fnOf "law" "law" (defArgs s_law_k05) (defBody s_law_k05) (defScope s_law_k05) .none kV_law_k05 dc_law_k05 pm_law_k05 an_law_k05 cd_law_k05 ct_law_k05, fun s v => .of_eq rfl, fun base _ _ => ok_law_k05 T⟩
theorem walk {l : PySem.W.OpenLaw} {q : Program} {loose : List Str} {XP : (Str → Option Value) → Heap → Prop} {YP : World → Heap → Prop} {d : DefRec} {K : Params → PySem.W.Frag} (hn : l.most = some 63) (hdf : d.params.defaults = [])
    (hY : ∀ (w : World) (h : Heap), YP w h → (K w.params).In h)
    (F : ∀ (w : World) (mg : Str → Option Value) (fa : Addr) (h : Heap), (K w.params).In h → h.Ns mainGlobals mg → mg d.name = some (.ref fa) →
      ∃ fd : FuncData, (∀ (s : Shared) (u : Value), BindsTo s fd ⟨[u], []⟩ [("script", u)]) ∧ ∀ base : Heap, (K w.params).In base → base.Ns mainGlobals mg → FnOk l.prog w (K w.params) mg base CX0 5 fa fd ["script"] (spLaw (K w.params))) :
    PySem.W.WalkO q loose XP YP l.row.toRowW d [] (fun f vs => PySem.call f vs) :=
  L2.walk_of (n := 63) (k := 5) (x := "script") (CX := fun _ => CX0) (sp := fun w => spLaw (K w.params)) hn (by decide) hdf ⟨rfl, by decide, by decide⟩ hY F (fun _ _ a ns hl _ hS => ⟨a, ns, rfl, hS, hl, fun _ => rfl⟩) fun _ _ _ _ _ z => z
end Mb
open PySem PySem.W PyProof.Rows
set_option maxRecDepth 100000 in
set_option maxHeartbeats 0 in
set_option pp.maxSteps 60 in
theorem PySem.Challenge.cw_marblerun_k05_boards_refused_holds : PySem.Challenge.rw_marblerun_k05_boards_refused.Holds := by
  w_on; o_law; k_head; (case hw => w_witness2)
  k_fill
  refine Mb.walk (l := PySem.Challenge.rw_marblerun_k05_boards_refused) rfl rfl (fun w h Y => PySem.W.kIn_of Y) ?F
  case F =>
    intro w mg fa h KX G hmg
    refine' Mb.all_mk KX G hmg ?a_cBoard ?a_drawn ?l_drawn ?c_drawn ?k_drawn ?a_other ?l_other ?c_other ?k_other ?a_rows_by ?l_rows_by ?c_rows_by ?k_rows_by ?a_checked ?l_checked ?c_checked ?k_checked ?a_Board_init ?i_Board_init ?l_Board_init ?c_Board_init ?k_Board_init ?a_refusal_k05 ?l_refusal_k05 ?c_refusal_k05 ?k_refusal_k05 ?a_law_k05 ?l_law_k05 ?c_law_k05 ?k_law_k05 ?pg_Board ?hd_Board ?po_Board ?sa_Board ?mk_Board ?kc_Board ?na_rows ?na_turns ?na_loads ?na_steps ?na_taken ?gi_MOST_SITES ?gi_MOST_EXITS ?gi_PIT ?n_len ?n_range ?n_reversed ?n_list ?n_ValueError ?n_isinstance ?a_cNoSite ?x_NoSite ?k_NoSite ?b_NoSite ?t_NoSite ?a_cNoExit ?x_NoExit ?k_NoExit ?b_NoExit ?t_NoExit ?a_cBoardError ?x_BoardError ?k_BoardError ?b_BoardError ?t_BoardError ?hd_BoardError ?e_NoSite_BoardError ?e_NoExit_BoardError ?kt_NoSite_ValueError ?kt_NoExit_ValueError ?ki_NoSite_NoSite ?ki_NoSite_NoExit ?ki_NoExit_NoSite ?ki_NoExit_NoExit ?echg_NoSite ?echk_NoSite ?echs_NoSite ?echd_NoSite ?echa_NoSite ?echn_NoSite ?echt_NoSite ?echm_NoSite ?echg_NoExit ?echk_NoExit ?echs_NoExit ?echd_NoExit ?echa_NoExit ?echn_NoExit ?echt_NoExit ?echm_NoExit
    (case a_cBoard => k_is)
    (case a_drawn => k_is)
    (case l_drawn => k_is)
    (case c_drawn => k_is)
    (case k_drawn => k_is)
    (case a_other => k_is)
    (case l_other => k_is)
    (case c_other => k_is)
    (case k_other => k_is)
    (case a_rows_by => k_is)
    (case l_rows_by => k_is)
    (case c_rows_by => k_is)
    (case k_rows_by => k_is)
    (case a_checked => k_is)
    (case l_checked => k_is)
    (case c_checked => k_is)
    (case k_checked => k_is)
    (case a_Board_init => k_is)
    (case i_Board_init => k_is)
    (case l_Board_init => k_is)
    (case c_Board_init => k_is)
    (case k_Board_init => k_is)
    (case a_refusal_k05 => k_is)
    (case l_refusal_k05 => k_is)
    (case c_refusal_k05 => k_is)
    (case k_refusal_k05 => k_is)
    (case a_law_k05 => k_is)
    (case l_law_k05 => k_is)
    (case c_law_k05 => k_is)
    (case k_law_k05 => k_is)
    (case pg_Board => k_is)
    (case hd_Board => k_is)
    (case po_Board => k_is)
    (case sa_Board => k_is)
    (case mk_Board => k_is)
    (case kc_Board => k_is)
    (case na_rows => k_is)
    (case na_turns => k_is)
    (case na_loads => k_is)
    (case na_steps => k_is)
    (case na_taken => k_is)
    (case gi_MOST_SITES => k_is)
    (case gi_MOST_EXITS => k_is)
    (case gi_PIT => k_is)
    (case n_len => k_is)
    (case n_range => k_is)
    (case n_reversed => k_is)
    (case n_list => k_is)
    (case n_ValueError => k_is)
    (case n_isinstance => k_is)
    (case a_cNoSite => k_is)
    (case x_NoSite => k_exc)
    (case k_NoSite => k_is)
    (case b_NoSite => k_is)
    (case t_NoSite => k_is)
    (case a_cNoExit => k_is)
    (case x_NoExit => k_exc)
    (case k_NoExit => k_is)
    (case b_NoExit => k_is)
    (case t_NoExit => k_is)
    (case a_cBoardError => k_is)
    (case x_BoardError => k_exc)
    (case k_BoardError => k_is)
    (case b_BoardError => k_is)
    (case t_BoardError => k_is)
    (case hd_BoardError => k_is)
    (case e_NoSite_BoardError => (first | rfl | k_is))
    (case e_NoExit_BoardError => (first | rfl | k_is))
    (case kt_NoSite_ValueError => (first | rfl | k_is))
    (case kt_NoExit_ValueError => (first | rfl | k_is))
    (case ki_NoSite_NoSite => (first | rfl | k_is))
    (case ki_NoSite_NoExit => (first | rfl | k_is))
    (case ki_NoExit_NoSite => (first | rfl | k_is))
    (case ki_NoExit_NoExit => (first | rfl | k_is))
    (case echg_NoSite => k_is)
    (case echk_NoSite => k_is)
    (case echs_NoSite => k_is)
    (case echd_NoSite => k_is)
    (case echa_NoSite => k_is)
    (case echn_NoSite => k_is)
    (case echt_NoSite => k_is)
    (case echm_NoSite => k_is)
    (case echg_NoExit => k_is)
    (case echk_NoExit => k_is)
    (case echs_NoExit => k_is)
    (case echd_NoExit => k_is)
    (case echa_NoExit => k_is)
    (case echn_NoExit => k_is)
    (case echt_NoExit => k_is)
    (case echm_NoExit => k_is)
