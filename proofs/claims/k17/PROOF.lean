import PyProof.Rows.All
import Wide.All
import OpenK.AllK
import Wide.FinOn
import HandS.ForMost
import HandS.ForExc
import HandS.More
import HandS.Steps
import HandS.TryMany
import HandS.IsInst
import HandS.ExcIs
import HandS.SetFor
import HandS.Rev
import HandS.Wide
import HandS.Style
import HandS.Text
import HandS.Hot
import HandS.HotCalls
import HandS.SuiteRaise
import PySem.Challenge.RW_marblerun_k17_whole_trees_counted
set_option Elab.async false
set_option linter.all false
set_option maxRecDepth 100000
set_option maxHeartbeats 4000000
namespace Mb
open PySem L2
/-! Base: the ledger, short readings, rules for try bodies, the tactic words -/

/-- the addresses of the program's classes -/
structure Ads where
  Board : Addr
  BoardError : Addr
  NoSite : Addr
  NoExit : Addr
  NoPlace : Addr
  NoMarble : Addr
  TooMany : Addr
  NotOpen : Addr
  NotBare : Addr
  NotTree : Addr
  TooLong : Addr
  NoBoard : Addr

/-! ### names for the operators' readings -/
abbrev mAdd : R2 := rI0 fun i j => .int (i + j)
abbrev mSub : R2 := rI0 fun i j => .int (i - j)
abbrev mMul : R2 := rI CMul fun i j => .int (i * j)
abbrev mMod : R2 := rI (fun _ j => 0 < j) fun i j => .int (i % j)
abbrev mFdiv : R2 := rI CDiv fun i j => .int (i / j)
abbrev mPow : R2 := rI CPow fun i j => .int (i ^ j.toNat)
abbrev mLt : R2 := rI0 fun i j => .bl (decide (i < j))
abbrev mLe : R2 := rI0 fun i j => .bl (decide (i ≤ j))
abbrev mGt : R2 := rI0 fun i j => .bl (decide (j < i))
abbrev mGe : R2 := rI0 fun i j => .bl (decide (j ≤ i))
abbrev mNeg : V → Hp → VK → Prop := rU fun i => .int (-i)
def mLen (K : PySem.W.Frag) : List V → Hp → VK → Prop := fun xs H Q => ∃ p ys, xs = [.ref p] ∧ (SqL K H p ys ∨ SqT K H p ys) ∧ Q (.int ys.length) H
def mList (K : PySem.W.Frag) : List V → Hp → VK → Prop := fun xs H Q => ∃ p ys, xs = [.ref p] ∧ (SqL K H p ys ∨ SqT K H p ys) ∧ ∀ l, H l = none → Q (.ref l) (upd H l (.lst ys))
def mMax2 : List V → Hp → VK → Prop := fun xs H Q => ∃ i j, xs = [.int i, .int j] ∧ Q (.int (if j > i then j else i)) H
def mAbs : List V → Hp → VK → Prop := fun xs H Q => ∃ i, xs = [.int i] ∧ Q (.int (if i < 0 then -i else i)) H
def mStr : List V → Hp → VK → Prop := fun xs H Q => ∃ i, xs = [.int i] ∧ i.natAbs.log2 < 1920 ∧ Q (.str (toString i)) H
def mInt : List V → Hp → VK → Prop := fun xs H Q => (∃ i, xs = [.int i] ∧ Q (.int i) H) ∨ ∃ k, xs = [.bl k] ∧ Q (.int (if k then 1 else 0)) H
def mLenS : List V → Hp → VK → Prop := fun xs H Q => ∃ z, xs = [.str z] ∧ z.length ≤ sizeLine ∧ Q (.int z.length) H
def rInsert : V → List V → Hp → VK → Prop := fun x vs H Q => ∃ (l : Addr) (xs : List V) (i : Int) (y : V), x = .ref l ∧ vs = [.int i, y] ∧ H l = some (.lst xs) ∧ xs.length < sizeLine ∧ 0 ≤ i ∧ i < 2 ^ 63 ∧
  Q .non (upd H l (.lst (xs.take i.toNat ++ [y] ++ xs.drop i.toNat)))
def tRaise (E : XK) (C : Addr) : TS := fun _ _ H => E (.ref C) none H
def tTry1 (K : PySem.W.Frag) (c : Value) (tb : WX → TS) (ts : Addr → Value → Option Addr → TS) (Wout : WX) : TS := fun D σ H => tb (wOnly K c ts Wout D) D σ H
def tTryN (K : PySem.W.Frag) (tb : WX → TS) (l : List (Value × (Addr → Value → Option Addr → TS))) (Wout : WX) : TS := fun D σ H => tb (wMany K Wout D l) D σ H
def tTryAs (K : PySem.W.Frag) (c : Value) (i : Nat) (tb : WX → TS) (ts : Addr → Value → Option Addr → TS) (Wout : WX) : TS := fun D σ H => tb (wAs K c i ts Wout D) D σ H
def tMethT (C : Addr) (m : Str) (sp : Sp) (E : L2.St → XK) (ta : TE) (t : TA) : TE := fun σ H Q => ta σ H fun x H1 => ∃ a dx fs, x = .ref a ∧ H1 a = some (.ins C dx fs) ∧ fs.lookup m = none ∧
  t σ H1 fun vs H2 => sp (x :: vs) H2 Q (E σ)
def tMakeT (C : Addr) (sp : Sp) (E : L2.St → XK) (t : TA) : TE := fun σ H Q => t σ H fun vs H1 => ∀ x dx, H1 x = none → H1 dx = none → dx ≠ x →
  sp (.ref x :: vs) (upd (upd H1 dx (.own x)) x (.ins C dx [])) (fun v H2 => v = .non ∧ Q (.ref x) H2) (E σ)

theorem bt_len : bootBuiltins "len" = some (.builtin "len") := PySem.boot_len
theorem bt_list : bootBuiltins "list" = some (.type "list") := by decide +kernel
theorem bt_sum : bootBuiltins "sum" = some (.builtin "sum") := by decide +kernel
theorem bt_max : bootBuiltins "max" = some (.builtin "max") := by decide +kernel
theorem bt_min : bootBuiltins "min" = some (.builtin "min") := by decide +kernel
theorem bt_all : bootBuiltins "all" = some (.builtin "all") := by decide +kernel
theorem bt_any : bootBuiltins "any" = some (.builtin "any") := by decide +kernel
theorem bt_abs : bootBuiltins "abs" = some (.builtin "abs") := by decide +kernel
theorem bt_str : bootBuiltins "str" = some (.type "str") := by decide +kernel
theorem bt_int : bootBuiltins "int" = some (.type "int") := by decide +kernel
theorem bt_bool : bootBuiltins "bool" = some (.type "bool") := by decide +kernel
theorem bt_tuple : bootBuiltins "tuple" = some (.type "tuple") := by decide +kernel
theorem bt_isinstance : bootBuiltins "isinstance" = some (.builtin "isinstance") := by decide +kernel
theorem bt_ValueError : bootBuiltins "ValueError" = some (.type "ValueError") := by decide +kernel

/-! ### the ledger: what is frozen (B), what may change (L) -/
structure Led (B : Hp) (L : List (Addr × HO)) (H : Hp) : Prop where
  same : Same B H
  at_ : ∀ (i : Nat) (p : Addr) (o : HO), L[i]? = some (p, o) → H p = some o
  nd : (L.map Prod.fst).Nodup
  new : ∀ p, p ∈ L.map Prod.fst → B p = none

theorem Led.nil (H : Hp) : Led H [] H := ⟨Same.refl H, fun i p o h => by simp at h, by simp, fun p h => by simp at h⟩
theorem Led.get {B : Hp} {L : List (Addr × HO)} {H : Hp} (h : Led B L H) (i : Nat) {p : Addr} {o : HO} (e : L[i]? = some (p, o)) : H p = some o := h.at_ i p o e
theorem Led.mem {B : Hp} {L : List (Addr × HO)} {H : Hp} (h : Led B L H) {p : Addr} {o : HO} (e : (p, o) ∈ L) : H p = some o := by
  obtain ⟨i, hi, q⟩ := List.getElem_of_mem e
  exact h.at_ i p o (by rw [List.getElem?_eq_getElem hi, q])
theorem Led.keys {B : Hp} {L : List (Addr × HO)} {H : Hp} (h : Led B L H) {p : Addr} (e : p ∈ L.map Prod.fst) : ∃ o, H p = some o := by
  obtain ⟨⟨q, o⟩, hm, rfl⟩ := List.mem_map.mp e
  exact ⟨o, h.mem hm⟩
theorem Led.out {B : Hp} {L : List (Addr × HO)} {H : Hp} (h : Led B L H) {p : Addr} (e : H p = none) : p ∉ L.map Prod.fst := fun m => by
  obtain ⟨o, q⟩ := h.keys m
  rw [e] at q
  cases q
theorem key_at {L : List (Addr × HO)} {i : Nat} {p : Addr} {o : HO} (e : L[i]? = some (p, o)) : p ∈ L.map Prod.fst := List.mem_map.mpr ⟨(p, o), List.mem_of_getElem? e, rfl⟩
theorem Led.base {B : Hp} {L : List (Addr × HO)} {H : Hp} (h : Led B L H) {K : PySem.W.Frag} {a : Addr} {xs : List V} (s : SqL K B a xs) : SqL K H a xs := h.same.seq s
theorem Led.sq {B : Hp} {L : List (Addr × HO)} {H : Hp} (h : Led B L H) (i : Nat) {K : PySem.W.Frag} {p : Addr} {xs : List V} (e : L[i]? = some (p, .lst xs)) : SqL K H p xs := SqL.of (h.get i e)
theorem Led.ext {B : Hp} {L : List (Addr × HO)} {H H' : Hp} (h : Led B L H) (s : Same H H') : Led B L H' :=
  ⟨h.same.trans s, fun i p o e => s _ _ (h.at_ i p o e), h.nd, h.new⟩
theorem map_set_fst {L : List (Addr × HO)} {i : Nat} {p : Addr} {o o' : HO} (e : L[i]? = some (p, o)) : (L.set i (p, o')).map Prod.fst = L.map Prod.fst := by
  apply List.ext_getElem?
  intro j
  rw [List.getElem?_map, List.getElem?_map]
  by_cases q : i = j
  · subst q
    have hl : i < L.length := (List.getElem?_eq_some_iff.mp e).1
    rw [List.getElem?_set_self hl, e]
    rfl
  · rw [List.getElem?_set_ne q]
theorem Led.set {B : Hp} {L : List (Addr × HO)} {H : Hp} (h : Led B L H) {i : Nat} {p : Addr} {o : HO} (e : L[i]? = some (p, o)) (o' : HO) : Led B (L.set i (p, o')) (upd H p o') := by
  have hm := map_set_fst (o' := o') e
  have hl : i < L.length := (List.getElem?_eq_some_iff.mp e).1
  refine ⟨fun b u q => ?_, fun j q u z => ?_, by rw [hm]; exact h.nd, fun q z => h.new q (by rw [← hm]; exact z)⟩
  · rw [upd_ne (ne_of_none q (h.new p (key_at e)))]
    exact h.same b u q
  · by_cases ij : i = j
    · subst ij
      rw [List.getElem?_set_self hl] at z
      cases z
      exact upd_same
    · rw [List.getElem?_set_ne ij] at z
      have np : q ≠ p := fun hq => by
        subst hq
        have e1 : (L.map Prod.fst)[j]? = some q := by rw [List.getElem?_map, z]; rfl
        have e2 : (L.map Prod.fst)[i]? = some q := by rw [List.getElem?_map, e]; rfl
        exact ij (nd_ix h.nd e2 e1)
      rw [upd_ne np]
      exact h.at_ j q u z
theorem Led.add {B : Hp} {L : List (Addr × HO)} {H H' : Hp} (h : Led B L H) {p : Addr} {o : HO} (s : Same H H') (n : H p = none) (e : H' p = some o) : Led B (L ++ [(p, o)]) H' := by
  have out := h.out n
  refine ⟨h.same.trans s, fun i q u z => ?_, ?_, fun q z => ?_⟩
  · by_cases hi : i < L.length
    · rw [List.getElem?_append_left hi] at z
      exact s _ _ (h.at_ i q u z)
    · rw [List.getElem?_append_right (by omega)] at z
      cases k : i - L.length with
      | zero =>
        rw [k] at z
        cases z
        exact e
      | succ m =>
        rw [k] at z
        simp at z
  · rw [List.map_append, List.nodup_append]
    refine ⟨h.nd, by simp, fun a ha b hb => ?_⟩
    simp at hb
    subst hb
    intro q
    subst q
    exact out ha
  · rw [List.map_append] at z
    rcases List.mem_append.mp z with z | z
    · exact h.new q z
    · simp at z
      subst z
      cases q2 : B q with
      | none => rfl
      | some u =>
        rw [h.same _ _ q2] at n
        cases n
theorem same_upd {H : Hp} {p : Addr} {o : HO} (n : H p = none) : Same H (upd H p o) := fun b u q => by
  rw [upd_ne (ne_of_none q n)]
  exact q
theorem Led.alloc {B : Hp} {L : List (Addr × HO)} {H : Hp} (h : Led B L H) {p : Addr} (n : H p = none) (o : HO) : Led B (L ++ [(p, o)]) (upd H p o) := h.add (same_upd n) n upd_same
/-- all but the ledger becomes the base -/
theorem Led.rebase {B : Hp} {L : List (Addr × HO)} {H : Hp} (h : Led B L H) : ∃ B', Same B B' ∧ Led B' L H ∧ ∀ p o, H p = some o → p ∉ L.map Prod.fst → B' p = some o := by
  classical
  refine ⟨fun a => if a ∈ L.map Prod.fst then none else H a, fun b u q => ?_, ⟨fun b u q => ?_, h.at_, h.nd, fun p z => if_pos z⟩, fun p o q z => ?_⟩
  · have z : b ∉ L.map Prod.fst := fun m => by
      rw [h.new b m] at q
      cases q
    show (if b ∈ L.map Prod.fst then none else H b) = some u
    rw [if_neg z]
    exact h.same b u q
  · by_cases z : b ∈ L.map Prod.fst
    · rw [show (if b ∈ L.map Prod.fst then none else H b) = none from if_pos z] at q
      cases q
    · rw [show (if b ∈ L.map Prod.fst then none else H b) = H b from if_neg z] at q
      exact q
  · show (if p ∈ L.map Prod.fst then none else H p) = some o
    rw [if_neg z]
    exact q
/-- objects forgotten -/
theorem Led.sub {B : Hp} {L L' : List (Addr × HO)} {H : Hp} (h : Led B L H) (s : L'.Sublist L) : Led B L' H :=
  ⟨h.same, fun i p o e => h.mem (s.subset (List.mem_of_getElem? e)), (s.map Prod.fst).nodup h.nd, fun p z => h.new p ((s.map Prod.fst).subset z)⟩

/-! ### lists of ints, of rows -/
abbrev ilst (ns : List Int) : HO := .lst (ns.map V.int)
abbrev blst (bs : List Bool) : HO := .lst (bs.map V.bl)
/-- rows stand at p in the frozen part -/
def RowsAt (B : Hp) (p : Addr) (rows : List (List Int)) : Prop := ∃ as : List Addr, B p = some (.lst (as.map V.ref)) ∧ as.length = rows.length ∧
  ∀ (i : Nat) (r : Addr) (row : List Int), as[i]? = some r → rows[i]? = some row → B r = some (ilst row)
theorem RowsAt.mono {B B' : Hp} {p : Addr} {rows : List (List Int)} (h : RowsAt B p rows) (s : Same B B') : RowsAt B' p rows := by
  obtain ⟨as, h1, h2, h3⟩ := h
  exact ⟨as, s _ _ h1, h2, fun i r row e1 e2 => s _ _ (h3 i r row e1 e2)⟩

theorem len_map_int (ns : List Int) : (ns.map V.int).length = ns.length := List.length_map _
theorem atI_int {ns : List Int} {i : Int} (h0 : 0 ≤ i) (h1 : i < ns.length) : atI (ns.map V.int) i = some (.int (ns.getD i.toNat 0)) := by
  have hl : i.toNat < ns.length := by omega
  refine at_of (j := i.toNat) (by omega) ?_
  rw [List.getElem?_map, List.getElem?_eq_getElem hl, List.getD_eq_getElem?_getD, List.getElem?_eq_getElem hl]
  rfl
theorem atI_bl {bs : List Bool} {i : Int} (h0 : 0 ≤ i) (h1 : i < bs.length) : atI (bs.map V.bl) i = some (.bl (bs.getD i.toNat false)) := by
  have hl : i.toNat < bs.length := by omega
  refine at_of (j := i.toNat) (by omega) ?_
  rw [List.getElem?_map, List.getElem?_eq_getElem hl, List.getD_eq_getElem?_getD, List.getElem?_eq_getElem hl]
  rfl

/-! ### steps of a reading -/
section
variable {K : PySem.W.Frag} {σ : L2.St} {H : Hp} {Q : VK} {D : Ends} {ta tb te : TE} {t u : TS} {tt tu : TT} {r : R2}
theorem g_seq (h : t { D with nx := u D } σ H) : tSeq t u D σ H := h
theorem g_asg {g : TG} (h : te σ H fun x H1 => g x σ H1 D.nx) : tAsg te g D σ H := h
theorem g_name {i : Nat} {v : V} {R : L2.St → Hp → Prop} (h : R (σ.set i (some v)) H) : gName i v σ H R := h
theorem g_var {i : Nat} {v : V} (e : σ[i]? = some (some v)) (h : Q v H) : tVar i σ H Q := ⟨v, e, h⟩
theorem g_c {v : V} (h : Q v H) : tC v σ H Q := h
theorem g_op (h : ta σ H fun x H1 => tb σ H1 fun y H2 => r x y H2 Q) : tOp r ta tb σ H Q := h
theorem g_un {r : V → Hp → VK → Prop} (h : ta σ H fun x H1 => r x H1 Q) : tUn r ta σ H Q := h
theorem g_I0 {g : Int → Int → V} {i j : Int} (h : Q (g i j) H) : rI0 g (.int i) (.int j) H Q := ⟨i, j, rfl, rfl, h⟩
theorem g_I {C : Int → Int → Prop} {g : Int → Int → V} {i j : Int} (c : C i j) (h : Q (g i j) H) : rI C g (.int i) (.int j) H Q := ⟨i, j, rfl, rfl, c, h⟩
theorem g_U {g : Int → V} {i : Int} (h : Q (g i) H) : rU g (.int i) H Q := ⟨i, rfl, h⟩
theorem g_mulL {i j : Int} (c : -(2 ^ 64) < i ∧ i < 2 ^ 64) (h : Q (.int (i * j)) H) : mMul (.int i) (.int j) H Q := ⟨i, j, rfl, rfl, .inl c, h⟩
theorem g_mulR {i j : Int} (c : -(2 ^ 64) < j ∧ j < 2 ^ 64) (h : Q (.int (i * j)) H) : mMul (.int i) (.int j) H Q := ⟨i, j, rfl, rfl, .inr c, h⟩
theorem g_eqI {i j : Int} (h : Q (.bl (decide (i = j))) H) : rEq (.int i) (.int j) H Q :=
  ⟨rfl, by rw [show decide (V.int i = V.int j) = decide (i = j) from decide_eq_decide.mpr ⟨fun e => V.int.inj e, fun e => e ▸ rfl⟩]; exact h⟩
theorem g_neI {i j : Int} (h : Q (.bl (!decide (i = j))) H) : rNe (.int i) (.int j) H Q :=
  ⟨rfl, by rw [show decide (V.int i = V.int j) = decide (i = j) from decide_eq_decide.mpr ⟨fun e => V.int.inj e, fun e => e ▸ rfl⟩]; exact h⟩
theorem g_eqB {i j : Bool} (h : Q (.bl (decide (i = j))) H) : rEq (.bl i) (.bl j) H Q :=
  ⟨rfl, by rw [show decide (V.bl i = V.bl j) = decide (i = j) from decide_eq_decide.mpr ⟨fun e => V.bl.inj e, fun e => e ▸ rfl⟩]; exact h⟩
theorem g_neB {i j : Bool} (h : Q (.bl (!decide (i = j))) H) : rNe (.bl i) (.bl j) H Q :=
  ⟨rfl, by rw [show decide (V.bl i = V.bl j) = decide (i = j) from decide_eq_decide.mpr ⟨fun e => V.bl.inj e, fun e => e ▸ rfl⟩]; exact h⟩
theorem g_eqS {i j : Str} (h : Q (.bl (decide (i = j))) H) : rEq (.str i) (.str j) H Q :=
  ⟨rfl, by rw [show decide (V.str i = V.str j) = decide (i = j) from decide_eq_decide.mpr ⟨fun e => V.str.inj e, fun e => e ▸ rfl⟩]; exact h⟩
theorem g_neS {i j : Str} (h : Q (.bl (!decide (i = j))) H) : rNe (.str i) (.str j) H Q :=
  ⟨rfl, by rw [show decide (V.str i = V.str j) = decide (i = j) from decide_eq_decide.mpr ⟨fun e => V.str.inj e, fun e => e ▸ rfl⟩]; exact h⟩
theorem g_tB {te : TE} {R : Bool → Hp → Prop} (h : te σ H fun x H1 => ∃ c, x = .bl c ∧ R c H1) : tB te σ H R := h
theorem g_tTest {te : TE} {R : Bool → Hp → Prop} (h : te σ H fun x H1 => ∃ c, x = .bl c ∧ R c H1) : tTest te σ H R := h
theorem g_bl {c : Bool} {R : Bool → Hp → Prop} (h : R c H) : ∃ k, V.bl c = .bl k ∧ R k H := ⟨c, rfl, h⟩
theorem g_and {R : Bool → Hp → Prop} (h : tt σ H fun c H1 => if c = true then tu σ H1 R else R false H1) : tAnd tt tu σ H R := h
theorem g_or {R : Bool → Hp → Prop} (h : tt σ H fun c H1 => if c = true then R true H1 else tu σ H1 R) : tOr tt tu σ H R := h
theorem g_not {R : Bool → Hp → Prop} (h : tt σ H fun c H1 => R (!c) H1) : tNot tt σ H R := h
theorem g_andV (h : ta σ H fun x H1 => ∃ c, x = .bl c ∧ if c = true then tb σ H1 Q else Q (.bl false) H1) : tAndV ta tb σ H Q := h
theorem g_orV (h : ta σ H fun x H1 => ∃ c, x = .bl c ∧ if c = true then Q (.bl true) H1 else tb σ H1 Q) : tOrV ta tb σ H Q := h
theorem g_notV (h : ta σ H fun x H1 => ∃ c, x = .bl c ∧ Q (.bl (!c)) H1) : tNotV ta σ H Q := h
theorem g_blV {c : Bool} {R : Bool → Prop} (h : R c) : ∃ k, V.bl c = .bl k ∧ R k := ⟨c, rfl, h⟩
theorem g_ifE (h : tt σ H fun c H1 => if c = true then ta σ H1 Q else tb σ H1 Q) : tIf tt ta tb σ H Q := h
theorem g_ifS (h : tt σ H fun c H1 => if c = true then t D σ H1 else u D σ H1) : tIfS tt t u D σ H := h
theorem g_next (h : D.nx σ H) : tNext D σ H := h
theorem g_ret (h : te σ H D.rt) : tRet te D σ H := h
theorem g_retN (h : D.rt .non H) : tRetN D σ H := h
theorem g_drop (h : te σ H fun _ H1 => D.nx σ H1) : tDrop te D σ H := h
theorem g_raise {E : XK} {C : Addr} (h : E (.ref C) none H) : tRaise E C D σ H := h
theorem g_nil {R : List V → Hp → Prop} (h : R [] H) : tNil σ H R := h
theorem g_cons {tr : TA} {R : List V → Hp → Prop} (h : te σ H fun x H1 => tr σ H1 fun xs H2 => R (x :: xs) H2) : tCons te tr σ H R := h
theorem g_cb {r : List V → Hp → VK → Prop} {ta : TA} (h : ta σ H fun vs H1 => r vs H1 Q) : tCB r ta σ H Q := h
theorem g_call {sp : Sp} {E : XK} {ta : TA} (h : ta σ H fun vs H1 => sp vs H1 Q E) : tCall sp [] E ta σ H Q := by
  show ta σ H fun vs H1 => sp (vs ++ []) H1 Q E
  have e : (fun (vs : List V) H1 => sp (vs ++ []) H1 Q E) = fun vs H1 => sp vs H1 Q E := by
    funext vs H1
    rw [List.append_nil]
  rw [e]
  exact h
theorem g_len {p : Addr} {xs : List V} (s : SqL K H p xs) (h : Q (.int xs.length) H) : mLen K [.ref p] H Q := ⟨p, xs, rfl, .inl s, h⟩
theorem g_lenI {p : Addr} {ns : List Int} (s : SqL K H p (ns.map V.int)) (h : Q (.int ns.length) H) : mLen K [.ref p] H Q := ⟨p, _, rfl, .inl s, by rw [List.length_map]; exact h⟩
theorem g_lenB {p : Addr} {ns : List Bool} (s : SqL K H p (ns.map V.bl)) (h : Q (.int ns.length) H) : mLen K [.ref p] H Q := ⟨p, _, rfl, .inl s, by rw [List.length_map]; exact h⟩
theorem g_ixI {p : Addr} {ns : List Int} {i : Int} (s : SqL K H p (ns.map V.int)) (h0 : 0 ≤ i) (h1 : i < ns.length) (h : Q (.int (ns.getD i.toNat 0)) H) : rIxL K (.ref p) (.int i) H Q :=
  ⟨p, _, i, _, rfl, rfl, s, atI_int h0 h1, h⟩
theorem g_ixB {p : Addr} {bs : List Bool} {i : Int} (s : SqL K H p (bs.map V.bl)) (h0 : 0 ≤ i) (h1 : i < bs.length) (h : Q (.bl (bs.getD i.toNat false)) H) : rIxL K (.ref p) (.int i) H Q :=
  ⟨p, _, i, _, rfl, rfl, s, atI_bl h0 h1, h⟩
theorem g_lst {ta : TA} (h : ta σ H fun xs H1 => xs.length ≤ sizeLine ∧ ∀ p, H1 p = none → Q (.ref p) (upd H1 p (.lst xs))) : tLst ta σ H Q := h
theorem g_sum {p : Addr} {ns : List Int} (s : SqL K H p (ns.map V.int)) (h : Q (.int ns.sum) H) : rSum K [.ref p] H Q := ⟨p, ns, rfl, s, h⟩
theorem g_fld {a C dx : Addr} {fs : List (Str × V)} {v : V} {f : Str} (e : H a = some (.ins C dx fs)) (c : Cls K C) (n : NoAttr K C f) (l : fs.lookup f = some v) (h : Q v H) :
    ∃ a' C' dx' fs' v', V.ref a = .ref a' ∧ H a' = some (.ins C' dx' fs') ∧ Cls K C' ∧ NoAttr K C' f ∧ fs'.lookup f = some v' ∧ Q v' H := ⟨a, C, dx, fs, v, rfl, e, c, n, l, h⟩
theorem g_tFld {f : Str} (h : ta σ H fun x H1 => ∃ a C dx fs v, x = .ref a ∧ H1 a = some (.ins C dx fs) ∧ Cls K C ∧ NoAttr K C f ∧ fs.lookup f = some v ∧ Q v H1) : tFld K ta f σ H Q := h
theorem g_mod {i j : Int} (c : 0 < j) (h : Q (.int (i % j)) H) : mMod (.int i) (.int j) H Q := ⟨i, j, rfl, rfl, c, h⟩
theorem g_fdiv {i j : Int} (c : 0 < j) (c2 : j < 1073741824) (h : Q (.int (i / j)) H) : mFdiv (.int i) (.int j) H Q := ⟨i, j, rfl, rfl, ⟨c, c2⟩, h⟩
theorem ifPt {p : Prop} [Decidable p] {A B : Prop} (hp : p) (h : A) : if decide p = true then A else B := by
  rw [if_pos (decide_eq_true hp)]
  exact h
theorem ifPf {p : Prop} [Decidable p] {A B : Prop} (hp : ¬ p) (h : B) : if decide p = true then A else B := by
  rw [if_neg (by simp [hp])]
  exact h
theorem ifNt {p : Prop} [Decidable p] {A B : Prop} (hp : ¬ p) (h : A) : if (!decide p) = true then A else B := by
  rw [if_pos (by simp [hp])]
  exact h
theorem ifNf {p : Prop} [Decidable p] {A B : Prop} (hp : p) (h : B) : if (!decide p) = true then A else B := by
  rw [if_neg (by simp [hp])]
  exact h
theorem ifP {p : Prop} [Decidable p] {A B : Prop} (h1 : p → A) (h2 : ¬ p → B) : if decide p = true then A else B := by
  by_cases h : p
  · rw [if_pos (decide_eq_true h)]
    exact h1 h
  · rw [if_neg (by simp [h])]
    exact h2 h
theorem ifN {p : Prop} [Decidable p] {A B : Prop} (h1 : ¬ p → A) (h2 : p → B) : if (!decide p) = true then A else B := by
  by_cases h : p
  · rw [if_neg (by simp [h])]
    exact h2 h
  · rw [if_pos (by simp [h])]
    exact h1 h
theorem ifC {c : Bool} {A B : Prop} (h1 : c = true → A) (h2 : c = false → B) : if c = true then A else B := by
  cases c with
  | true => exact iteT (h1 rfl)
  | false => exact iteF (h2 rfl)
end

/-! ### the class Board -/
structure BdOk (K : PySem.W.Frag) (G : Ads) : Prop where
  cl : Cls K G.Board
  n_rows : NoAttr K G.Board "rows"
  n_turns : NoAttr K G.Board "turns"
  n_loads : NoAttr K G.Board "loads"
  n_steps : NoAttr K G.Board "steps"
  n_taken : NoAttr K G.Board "taken"

/-! ### the law's own promise -/
def spLaw (K : PySem.W.Frag) : Sp := fun vs H Q _ => ∃ (a : Addr) (ns : List Int), vs = [.ref a] ∧ SqL K H a (ns.map V.int) ∧ ns.length ≤ 63 ∧ ∀ H', Q (.bl true) H'
theorem lenLaw {K : PySem.W.Frag} {vs H Q E} (h : spLaw K vs H Q E) : vs.length = 1 := by
  obtain ⟨a, ns, rfl, _⟩ := h
  rfl


/-! Rows, boards in the heap and in the ledger -/
/-- rows that came new -/
def NewRows (H H' : Hp) (q : Addr) (rows : List (List Int)) : Prop := ∃ as : List Addr, H' q = some (.lst (as.map V.ref)) ∧ H q = none ∧ as.length = rows.length ∧
  ∀ (i : Nat) (r : Addr) (row : List Int), as[i]? = some r → rows[i]? = some row → H' r = some (ilst row) ∧ H r = none
theorem NewRows.at_ {H H' : Hp} {q : Addr} {rows : List (List Int)} (h : NewRows H H' q rows) : RowsAt H' q rows := by
  obtain ⟨as, h1, _, h2, h3⟩ := h
  exact ⟨as, h1, h2, fun i r row e1 e2 => (h3 i r row e1 e2).1⟩
theorem NewRows.mono {H H1 H2 : Hp} {q : Addr} {rows : List (List Int)} (h : NewRows H H1 q rows) (s : Same H1 H2) : NewRows H H2 q rows := by
  obtain ⟨as, h1, h0, h2, h3⟩ := h
  exact ⟨as, s _ _ h1, h0, h2, fun i r row e1 e2 => ⟨s _ _ (h3 i r row e1 e2).1, (h3 i r row e1 e2).2⟩⟩
theorem NewRows.back {H0 H H1 : Hp} {q : Addr} {rows : List (List Int)} (h : NewRows H H1 q rows) (s : Same H0 H) : NewRows H0 H1 q rows := by
  obtain ⟨as, h1, h0, h2, h3⟩ := h
  exact ⟨as, h1, s.free h0, h2, fun i r row e1 e2 => ⟨(h3 i r row e1 e2).1, s.free (h3 i r row e1 e2).2⟩⟩
theorem Led.rows {B H H' : Hp} {L : List (Addr × HO)} {q : Addr} {rows : List (List Int)} (h : Led B L H) (s : Same H H') (n : NewRows H H' q rows) : ∃ B', Same B B' ∧ NewRows H B' q rows ∧ Led B' L H' := by
  obtain ⟨B', s1, l1, k1⟩ := (h.ext s).rebase
  obtain ⟨as, h1, h0, h2, h3⟩ := n
  exact ⟨B', s1, ⟨as, k1 _ _ h1 (h.out h0), h0, h2, fun i r row e1 e2 => ⟨k1 _ _ (h3 i r row e1 e2).1 (h.out (h3 i r row e1 e2).2), (h3 i r row e1 e2).2⟩⟩, l1⟩
/-- an item of rows read -/
theorem g_row {K : PySem.W.Frag} {H : Hp} {Q : VK} {p : Addr} {rows : List (List Int)} {i : Int} (R : RowsAt H p rows) (h0 : 0 ≤ i) (h1 : i < rows.length) (h : ∀ r, SqL K H r ((rows.getD i.toNat []).map V.int) → Q (.ref r) H) : rIxL K (.ref p) (.int i) H Q := by
  obtain ⟨as, e1, e2, e3⟩ := R
  have hl : i.toNat < rows.length := by omega
  have ha : i.toNat < as.length := by omega
  refine ⟨p, _, i, .ref as[i.toNat], rfl, rfl, SqL.of e1, at_of (j := i.toNat) (by omega) ?_, h _ (SqL.of ?_)⟩
  · rw [List.getElem?_map, List.getElem?_eq_getElem ha]
    rfl
  · have q := e3 i.toNat as[i.toNat] rows[i.toNat] (List.getElem?_eq_getElem ha) (List.getElem?_eq_getElem hl)
    rw [List.getD_eq_getElem?_getD, List.getElem?_eq_getElem hl]
    exact q
theorem g_rowL {K : PySem.W.Frag} {H : Hp} {Q : VK} {p : Addr} {rows : List (List Int)} {i : Int} (R : RowsAt H p rows) (h0 : 0 ≤ i) (h1 : i < rows.length) (h : ∀ r, H r = some (ilst (rows.getD i.toNat [])) → Q (.ref r) H) : rIxL K (.ref p) (.int i) H Q := by
  obtain ⟨as, e1, e2, e3⟩ := R
  have hl : i.toNat < rows.length := by omega
  have ha : i.toNat < as.length := by omega
  refine ⟨p, _, i, .ref as[i.toNat], rfl, rfl, SqL.of e1, at_of (j := i.toNat) (by omega) ?_, h _ ?_⟩
  · rw [List.getElem?_map, List.getElem?_eq_getElem ha]
    rfl
  · have q := e3 i.toNat as[i.toNat] rows[i.toNat] (List.getElem?_eq_getElem ha) (List.getElem?_eq_getElem hl)
    rw [List.getD_eq_getElem?_getD, List.getElem?_eq_getElem hl]
    exact q
theorem g_lenR {K : PySem.W.Frag} {H : Hp} {Q : VK} {p : Addr} {rows : List (List Int)} (R : RowsAt H p rows) (h : Q (.int rows.length) H) : mLen K [.ref p] H Q := by
  obtain ⟨as, e1, e2, _⟩ := R
  exact ⟨p, _, rfl, .inl (SqL.of e1), by rw [List.length_map, e2]; exact h⟩
theorem Led.ra {B H : Hp} {L : List (Addr × HO)} {p : Addr} {rows : List (List Int)} (h : Led B L H) (r : RowsAt B p rows) : RowsAt H p rows := r.mono h.same

/-! ### rows that make a board -/
def OkRow (n : Nat) (row : List Int) : Prop := 1 ≤ row.length ∧ row.length ≤ 8 ∧ ∀ g, g ∈ row → -1 ≤ g ∧ g < n
def OkRows (rows : List (List Int)) : Prop := 1 ≤ rows.length ∧ rows.length ≤ 12 ∧ ∀ row, row ∈ rows → OkRow rows.length row
def TurnsOk (rows : List (List Int)) (turns : List Int) : Prop := turns.length = rows.length ∧ ∀ k : Nat, k < rows.length → 0 ≤ turns.getD k 0 ∧ turns.getD k 0 < (rows.getD k []).length
theorem getD_mem {α : Type} {l : List α} {k : Nat} {d : α} (h : k < l.length) : l.getD k d ∈ l := by
  rw [List.getD_eq_getElem?_getD, List.getElem?_eq_getElem h]
  exact List.getElem_mem h
theorem OkRows.row {rows : List (List Int)} (h : OkRows rows) {k : Nat} (hk : k < rows.length) : OkRow rows.length (rows.getD k []) := h.2.2 _ (getD_mem hk)
theorem OkRows.exit {rows : List (List Int)} (h : OkRows rows) {k j : Nat} (hk : k < rows.length) (hj : j < (rows.getD k []).length) : -1 ≤ (rows.getD k []).getD j 0 ∧ (rows.getD k []).getD j 0 < rows.length := (h.row hk).2.2 _ (getD_mem hj)
theorem getD_set {α : Type} {l : List α} {i j : Nat} {x d : α} (h : i < l.length) : (l.set i x).getD j d = if i = j then x else l.getD j d := by
  rw [List.getD_eq_getElem?_getD, List.getD_eq_getElem?_getD]
  by_cases e : i = j
  · subst e
    rw [if_pos rfl, List.getElem?_set_self h]
    rfl
  · rw [if_neg e, List.getElem?_set_ne e]

/-! ### a board's fields -/
def bf (r t l s : Addr) (n : Int) : List (Str × V) := [("rows", .ref r), ("turns", .ref t), ("loads", .ref l), ("steps", .ref s), ("taken", .int n)]
section
variable {r t l s t' l' s' : Addr} {n n' : Int}
theorem st12 : (("turns" : Str) == ("rows" : Str)) = false := by decide +kernel
theorem st13 : (("loads" : Str) == ("rows" : Str)) = false := by decide +kernel
theorem st14 : (("steps" : Str) == ("rows" : Str)) = false := by decide +kernel
theorem st15 : (("taken" : Str) == ("rows" : Str)) = false := by decide +kernel
theorem st23 : (("loads" : Str) == ("turns" : Str)) = false := by decide +kernel
theorem st24 : (("steps" : Str) == ("turns" : Str)) = false := by decide +kernel
theorem st25 : (("taken" : Str) == ("turns" : Str)) = false := by decide +kernel
theorem st34 : (("steps" : Str) == ("loads" : Str)) = false := by decide +kernel
theorem st35 : (("taken" : Str) == ("loads" : Str)) = false := by decide +kernel
theorem st45 : (("taken" : Str) == ("steps" : Str)) = false := by decide +kernel
theorem bf_rows : (bf r t l s n).lookup ("rows" : Str) = some (.ref r) := by simp only [bf, List.lookup, beq_self_eq_true]
theorem bf_turns : (bf r t l s n).lookup ("turns" : Str) = some (.ref t) := by simp only [bf, List.lookup, st12, beq_self_eq_true]
theorem bf_loads : (bf r t l s n).lookup ("loads" : Str) = some (.ref l) := by simp only [bf, List.lookup, st13, st23, beq_self_eq_true]
theorem bf_steps : (bf r t l s n).lookup ("steps" : Str) = some (.ref s) := by simp only [bf, List.lookup, st14, st24, st34, beq_self_eq_true]
theorem bf_taken : (bf r t l s n).lookup ("taken" : Str) = some (.int n) := by simp only [bf, List.lookup, st15, st25, st35, st45, beq_self_eq_true]
theorem sn12 : ¬ (("rows" : Str) = ("turns" : Str)) := by decide +kernel
theorem sn13 : ¬ (("rows" : Str) = ("loads" : Str)) := by decide +kernel
theorem sn14 : ¬ (("rows" : Str) = ("steps" : Str)) := by decide +kernel
theorem sn15 : ¬ (("rows" : Str) = ("taken" : Str)) := by decide +kernel
theorem sn23 : ¬ (("turns" : Str) = ("loads" : Str)) := by decide +kernel
theorem sn24 : ¬ (("turns" : Str) = ("steps" : Str)) := by decide +kernel
theorem sn25 : ¬ (("turns" : Str) = ("taken" : Str)) := by decide +kernel
theorem sn34 : ¬ (("loads" : Str) = ("steps" : Str)) := by decide +kernel
theorem sn35 : ¬ (("loads" : Str) = ("taken" : Str)) := by decide +kernel
theorem sn45 : ¬ (("steps" : Str) = ("taken" : Str)) := by decide +kernel
theorem bf_pturns : putF ("turns" : Str) (.ref t') (bf r t l s n) = bf r t' l s n := by simp only [bf, putF, sn12, if_false, if_true]
theorem bf_ploads : putF ("loads" : Str) (.ref l') (bf r t l s n) = bf r t l' s n := by simp only [bf, putF, sn13, sn23, if_false, if_true]
theorem bf_psteps : putF ("steps" : Str) (.ref s') (bf r t l s n) = bf r t l s' n := by simp only [bf, putF, sn14, sn24, sn34, if_false, if_true]
theorem bf_ptaken : putF ("taken" : Str) (.int n') (bf r t l s n) = bf r t l s n' := by simp only [bf, putF, sn15, sn25, sn35, sn45, if_false, if_true]
theorem bf_made : putF ("taken" : Str) (.int n) (putF ("steps" : Str) (.ref s) (putF ("loads" : Str) (.ref l) (putF ("turns" : Str) (.ref t) (putF ("rows" : Str) (.ref r) [])))) = bf r t l s n := by
  simp only [bf, putF, sn12, sn13, sn14, sn15, sn23, sn24, sn25, sn34, sn35, sn45, if_false]
theorem bf_len : (bf r t l s n).length < 1000 := by show 5 < 1000; decide
theorem bf_none {m : Str} (h1 : ¬ m = ("rows" : Str)) (h2 : ¬ m = ("turns" : Str)) (h3 : ¬ m = ("loads" : Str)) (h4 : ¬ m = ("steps" : Str)) (h5 : ¬ m = ("taken" : Str)) : (bf r t l s n).lookup m = none := by
  have e1 : (m == ("rows" : Str)) = false := by simpa using h1
  have e2 : (m == ("turns" : Str)) = false := by simpa using h2
  have e3 : (m == ("loads" : Str)) = false := by simpa using h3
  have e4 : (m == ("steps" : Str)) = false := by simpa using h4
  have e5 : (m == ("taken" : Str)) = false := by simpa using h5
  simp only [bf, List.lookup, e1, e2, e3, e4, e5]
theorem bm_has_site : (bf r t l s n).lookup ("has_site" : Str) = none := bf_none (by decide +kernel) (by decide +kernel) (by decide +kernel) (by decide +kernel) (by decide +kernel)
theorem bm_turn_to : (bf r t l s n).lookup ("turn_to" : Str) = none := bf_none (by decide +kernel) (by decide +kernel) (by decide +kernel) (by decide +kernel) (by decide +kernel)
theorem bm_load : (bf r t l s n).lookup ("load" : Str) = none := bf_none (by decide +kernel) (by decide +kernel) (by decide +kernel) (by decide +kernel) (by decide +kernel)
theorem bm_become : (bf r t l s n).lookup ("become" : Str) = none := bf_none (by decide +kernel) (by decide +kernel) (by decide +kernel) (by decide +kernel) (by decide +kernel)
theorem bm_twin : (bf r t l s n).lookup ("twin" : Str) = none := bf_none (by decide +kernel) (by decide +kernel) (by decide +kernel) (by decide +kernel) (by decide +kernel)
end
/-- a board as it stands in a heap -/
structure BdAt (C : Addr) (H : Hp) (b dx r t l s : Addr) (rows : List (List Int)) (turns loads steps : List Int) (taken : Int) : Prop where
  ins : H b = some (.ins C dx (bf r t l s taken))
  rws : RowsAt H r rows
  tns : H t = some (ilst turns)
  lds : H l = some (ilst loads)
  sts : H s = some (ilst steps)
theorem BdAt.mono {C : Addr} {H H' : Hp} {b dx r t l s : Addr} {rows : List (List Int)} {turns loads steps : List Int} {taken : Int} (h : BdAt C H b dx r t l s rows turns loads steps taken) (q : Same H H') : BdAt C H' b dx r t l s rows turns loads steps taken :=
  ⟨q _ _ h.ins, h.rws.mono q, q _ _ h.tns, q _ _ h.lds, q _ _ h.sts⟩
/-- a board in the ledger, from place i on -/
structure LB (C : Addr) (B : Hp) (L : List (Addr × HO)) (i : Nat) (b dx r t l s : Addr) (rows : List (List Int)) (turns loads steps : List Int) (taken : Int) : Prop where
  ins : L[i]? = some (b, .ins C dx (bf r t l s taken))
  tns : L[i + 1]? = some (t, ilst turns)
  lds : L[i + 2]? = some (l, ilst loads)
  sts : L[i + 3]? = some (s, ilst steps)
  rws : RowsAt B r rows
theorem Led.bd {C : Addr} {B H : Hp} {L : List (Addr × HO)} {i : Nat} {b dx r t l s : Addr} {rows : List (List Int)} {turns loads steps : List Int} {taken : Int} (h : Led B L H) (x : LB C B L i b dx r t l s rows turns loads steps taken) : BdAt C H b dx r t l s rows turns loads steps taken :=
  ⟨h.get _ x.ins, h.ra x.rws, h.get _ x.tns, h.get _ x.lds, h.get _ x.sts⟩
abbrev bl (C : Addr) (b dx r t l s : Addr) (turns loads steps : List Int) (taken : Int) : List (Addr × HO) := [(b, .ins C dx (bf r t l s taken)), (t, ilst turns), (l, ilst loads), (s, ilst steps)]
/-- two ledgers become one -/
theorem Led.merge {B H B1 H' : Hp} {L M : List (Addr × HO)} (h : Led B L H) (s1 : Same H B1) (l1 : Led B1 M H') : ∃ B', Same B B' ∧ Led B' (L ++ M) H' ∧ ∀ q o, B1 q = some o → H q = none → B' q = some o := by
  classical
  have hb : ∀ p, p ∈ L.map Prod.fst → ∃ o, B1 p = some o := fun p m => by
    obtain ⟨o, e⟩ := h.keys m
    exact ⟨o, s1 _ _ e⟩
  refine ⟨fun a => if a ∈ L.map Prod.fst then none else B1 a, fun q o e => ?_, ⟨fun q o e => ?_, fun i p o e => ?_, ?_, fun p z => ?_⟩, fun q o e n => ?_⟩
  · have z : q ∉ L.map Prod.fst := fun m => by
      rw [h.new q m] at e
      cases e
    show (if q ∈ L.map Prod.fst then none else B1 q) = some o
    rw [if_neg z]
    exact s1 _ _ (h.same _ _ e)
  · by_cases z : q ∈ L.map Prod.fst
    · rw [show (if q ∈ L.map Prod.fst then none else B1 q) = none from if_pos z] at e
      cases e
    · rw [show (if q ∈ L.map Prod.fst then none else B1 q) = B1 q from if_neg z] at e
      exact l1.same _ _ e
  · rcases List.mem_append.mp (List.mem_of_getElem? e) with hm | hm
    · exact l1.same _ _ (s1 _ _ (h.mem hm))
    · exact l1.mem hm
  · rw [List.map_append, List.nodup_append]
    refine ⟨h.nd, l1.nd, fun a ha b hb2 e => ?_⟩
    subst e
    obtain ⟨o, q⟩ := hb a ha
    rw [l1.new a hb2] at q
    cases q
  · show (if p ∈ L.map Prod.fst then none else B1 p) = none
    by_cases y : p ∈ L.map Prod.fst
    · exact if_pos y
    · rw [if_neg y]
      rw [List.map_append] at z
      rcases List.mem_append.mp z with z | z
      · exact (y z).elim
      · exact l1.new p z
  · show (if q ∈ L.map Prod.fst then none else B1 q) = some o
    rw [if_neg (h.out n)]
    exact e
/-- a new board -/
def NewB (C : Addr) (H H' : Hp) (b dx r t l s : Addr) (rows : List (List Int)) (turns loads steps : List Int) (taken : Int) : Prop := ∃ B1, Same H B1 ∧ NewRows H B1 r rows ∧ Led B1 (bl C b dx r t l s turns loads steps taken) H'
theorem Led.board {C : Addr} {B H H' : Hp} {L : List (Addr × HO)} {b dx r t l s : Addr} {rows : List (List Int)} {turns loads steps : List Int} {taken : Int} (h : Led B L H) (n : NewB C H H' b dx r t l s rows turns loads steps taken) :
    ∃ B', Same B B' ∧ RowsAt B' r rows ∧ Led B' (L ++ bl C b dx r t l s turns loads steps taken) H' := by
  obtain ⟨B1, s1, ⟨as, e1, e0, e2, e3⟩, l1⟩ := n
  obtain ⟨B', sB, lB, k⟩ := h.merge s1 l1
  exact ⟨B', sB, ⟨as, k _ _ e1 e0, e2, fun i a row h1 h2 => k _ _ (e3 i a row h1 h2).1 (e3 i a row h1 h2).2⟩, lB⟩
theorem NewB.same {C : Addr} {H H' : Hp} {b dx r t l s : Addr} {rows : List (List Int)} {turns loads steps : List Int} {taken : Int} (n : NewB C H H' b dx r t l s rows turns loads steps taken) : Same H H' := by
  obtain ⟨B1, s1, _, l1⟩ := n
  exact s1.trans l1.same
theorem NewB.at_ {C : Addr} {H H' : Hp} {b dx r t l s : Addr} {rows : List (List Int)} {turns loads steps : List Int} {taken : Int} (n : NewB C H H' b dx r t l s rows turns loads steps taken) : BdAt C H' b dx r t l s rows turns loads steps taken := by
  obtain ⟨B1, s1, n1, l1⟩ := n
  exact ⟨l1.get 0 rfl, n1.at_.mono l1.same, l1.get 1 rfl, l1.get 2 rfl, l1.get 3 rfl⟩
def setB (L : List (Addr × HO)) (C : Addr) (i : Nat) (b dx r t l s : Addr) (turns loads steps : List Int) (taken : Int) : List (Addr × HO) :=
  (((L.set i (b, .ins C dx (bf r t l s taken))).set (i + 1) (t, ilst turns)).set (i + 2) (l, ilst loads)).set (i + 3) (s, ilst steps)
theorem nodup_of_ix {α : Type} {l : List α} (h : ∀ (i j : Nat) (x : α), l[i]? = some x → l[j]? = some x → i = j) : l.Nodup := by
  refine List.pairwise_iff_getElem.mpr fun i j hi hj ij e => ?_
  have := h i j l[i] (List.getElem?_eq_getElem hi) (by rw [List.getElem?_eq_getElem hj, e])
  omega
theorem setB_get {L : List (Addr × HO)} {C : Addr} {i : Nat} {b dx r t l s : Addr} {turns loads steps : List Int} {taken : Int} {j : Nat} {p : Addr} {o : HO} (h : (setB L C i b dx r t l s turns loads steps taken)[j]? = some (p, o)) :
    (∃ k, k < 4 ∧ j = i + k ∧ (bl C b dx r t l s turns loads steps taken)[k]? = some (p, o)) ∨ (L[j]? = some (p, o) ∧ ∀ k, k < 4 → j ≠ i + k) := by
  unfold setB at h
  by_cases e3 : i + 3 = j
  · subst e3
    refine .inl ⟨3, by omega, rfl, ?_⟩
    by_cases hl : i + 3 < (((L.set i (b, .ins C dx (bf r t l s taken))).set (i + 1) (t, ilst turns)).set (i + 2) (l, ilst loads)).length
    · rw [List.getElem?_set_self hl] at h
      exact h
    · rw [List.getElem?_eq_none (by rw [List.length_set]; omega)] at h
      cases h
  rw [List.getElem?_set_ne e3] at h
  by_cases e2 : i + 2 = j
  · subst e2
    refine .inl ⟨2, by omega, rfl, ?_⟩
    by_cases hl : i + 2 < ((L.set i (b, .ins C dx (bf r t l s taken))).set (i + 1) (t, ilst turns)).length
    · rw [List.getElem?_set_self hl] at h
      exact h
    · rw [List.getElem?_eq_none (by rw [List.length_set]; omega)] at h
      cases h
  rw [List.getElem?_set_ne e2] at h
  by_cases e1 : i + 1 = j
  · subst e1
    refine .inl ⟨1, by omega, rfl, ?_⟩
    by_cases hl : i + 1 < (L.set i (b, .ins C dx (bf r t l s taken))).length
    · rw [List.getElem?_set_self hl] at h
      exact h
    · rw [List.getElem?_eq_none (by rw [List.length_set]; omega)] at h
      cases h
  rw [List.getElem?_set_ne e1] at h
  by_cases e0 : i = j
  · subst e0
    refine .inl ⟨0, by omega, rfl, ?_⟩
    by_cases hl : i < L.length
    · rw [List.getElem?_set_self hl] at h
      exact h
    · rw [List.getElem?_eq_none (by rw [List.length_set]; omega)] at h
      cases h
  rw [List.getElem?_set_ne e0] at h
  exact .inr ⟨h, fun k hk => by omega⟩
/-- one board of a ledger by itself: what is done to it is done in the ledger -/
theorem Led.focus {C : Addr} {B H : Hp} {L : List (Addr × HO)} {i : Nat} {b dx r t l s : Addr} {rows : List (List Int)} {turns loads steps : List Int} {taken : Int} (h : Led B L H) (x : LB C B L i b dx r t l s rows turns loads steps taken) :
    ∃ B', Same B B' ∧ RowsAt B' r rows ∧ Led B' (bl C b dx r t l s turns loads steps taken) H ∧ (∀ p o, H p = some o → p ≠ b → p ≠ t → p ≠ l → p ≠ s → B' p = some o) ∧
      ∀ (t' l' s' : Addr) (turns' loads' steps' : List Int) (taken' : Int) (H' : Hp), Led B' (bl C b dx r t' l' s' turns' loads' steps' taken') H' → Led B (setB L C i b dx r t' l' s' turns' loads' steps' taken') H' := by
  have kx : ∀ (k : Nat) (p : Addr) (o : HO), (bl C b dx r t l s turns loads steps taken)[k]? = some (p, o) → L[i + k]? = some (p, o) := fun k p o e => by
    match k, e with
    | 0, e => cases e; exact x.ins
    | 1, e => cases e; exact x.tns
    | 2, e => cases e; exact x.lds
    | 3, e => cases e; exact x.sts
    | (n + 4), e => simp at e
  have kl : ∀ {j : Nat} {p : Addr} {o : HO}, L[j]? = some (p, o) → (L.map Prod.fst)[j]? = some p := fun e => by rw [List.getElem?_map, e]; rfl
  have l0 : Led B (bl C b dx r t l s turns loads steps taken) H := by
    refine ⟨h.same, fun k p o e => h.get _ (kx k p o e), nodup_of_ix fun j k p e1 e2 => ?_, fun p hp => ?_⟩
    · rw [List.getElem?_map] at e1 e2
      cases q1 : (bl C b dx r t l s turns loads steps taken)[j]? with
      | none => rw [q1] at e1; cases e1
      | some y1 =>
        cases q2 : (bl C b dx r t l s turns loads steps taken)[k]? with
        | none => rw [q2] at e2; cases e2
        | some y2 =>
          obtain ⟨p1, o1⟩ := y1
          obtain ⟨p2, o2⟩ := y2
          rw [q1] at e1
          rw [q2] at e2
          cases e1
          cases e2
          have := nd_ix h.nd (kl (kx _ _ _ q1)) (kl (kx _ _ _ q2))
          omega
    · obtain ⟨⟨q, o⟩, hm, rfl⟩ := List.mem_map.mp hp
      obtain ⟨k, hk, e⟩ := List.getElem_of_mem hm
      exact h.new q (key_at (kx k q o (by rw [List.getElem?_eq_getElem hk, e])))
  obtain ⟨B', sB, lB, keep⟩ := l0.rebase
  refine ⟨B', sB, x.rws.mono sB, lB, fun p o e n1 n2 n3 n4 => keep p o e (by simp [n1, n2, n3, n4]), fun t' l' s' turns' loads' steps' taken' H' led => ?_⟩
  -- what stands off the board stands in B'
  have off : ∀ (j : Nat) (p : Addr) (o : HO), L[j]? = some (p, o) → (∀ k, k < 4 → j ≠ i + k) → B' p = some o := fun j p o e n => by
    refine keep p o (h.get _ e) fun hm => ?_
    obtain ⟨⟨q, u⟩, hm', rfl⟩ := List.mem_map.mp hm
    obtain ⟨k, hk, e2⟩ := List.getElem_of_mem hm'
    exact n k hk (nd_ix h.nd (kl e) (kl (kx k q u (by rw [List.getElem?_eq_getElem hk, e2]))))
  refine ⟨sB.trans led.same, fun j p o e => ?_, nodup_of_ix fun j k p e1 e2 => ?_, fun p hp => ?_⟩
  · rcases setB_get e with ⟨k, hk, rfl, e'⟩ | ⟨e', n⟩
    · exact led.get k e'
    · exact led.same _ _ (off j p o e' n)
  · rw [List.getElem?_map] at e1 e2
    cases q1 : (setB L C i b dx r t' l' s' turns' loads' steps' taken')[j]? with
    | none => rw [q1] at e1; cases e1
    | some y1 =>
      cases q2 : (setB L C i b dx r t' l' s' turns' loads' steps' taken')[k]? with
      | none => rw [q2] at e2; cases e2
      | some y2 =>
        obtain ⟨p1, o1⟩ := y1
        obtain ⟨p2, o2⟩ := y2
        rw [q1] at e1
        rw [q2] at e2
        cases e1
        cases e2
        rcases setB_get q1 with ⟨a, ha, rfl, z1⟩ | ⟨z1, n1⟩
        · rcases setB_get q2 with ⟨c, hc, rfl, z2⟩ | ⟨z2, n2⟩
          · have := nd_ix led.nd (i := a) (j := c) (x := p1) (by rw [List.getElem?_map, z1]; rfl) (by rw [List.getElem?_map, z2]; rfl)
            omega
          · have y := off _ _ _ z2 n2
            rw [led.new p1 (key_at z1)] at y
            cases y
        · rcases setB_get q2 with ⟨c, hc, rfl, z2⟩ | ⟨z2, n2⟩
          · have y := off _ _ _ z1 n1
            rw [led.new p1 (key_at z2)] at y
            cases y
          · exact nd_ix h.nd (kl z1) (kl z2)
  · obtain ⟨⟨q, o⟩, hm, rfl⟩ := List.mem_map.mp hp
    obtain ⟨j, hj, e⟩ := List.getElem_of_mem hm
    rcases setB_get (by rw [List.getElem?_eq_getElem hj, e]) with ⟨k, hk, rfl, e'⟩ | ⟨e', n⟩
    · cases z : B q with
      | none => rfl
      | some u =>
        have y := sB _ _ z
        rw [led.new q (key_at e')] at y
        cases y
    · exact h.new q (key_at e')
/-- an object of the ledger replaced by a new one -/
theorem Led.swap {B H H' : Hp} {L : List (Addr × HO)} (h : Led B L H) {i : Nat} {p q : Addr} {o o' : HO} (e : L[i]? = some (p, o)) (n : H q = none) (s : Same H H') (hq : H' q = some o') : Led B (L.set i (q, o')) H' := by
  have hl : i < L.length := (List.getElem?_eq_some_iff.mp e).1
  have hk : ∀ x, x ∈ (L.set i (q, o')).map Prod.fst → x = q ∨ x ∈ L.map Prod.fst := fun x hx => by
    obtain ⟨⟨y, u⟩, hm, rfl⟩ := List.mem_map.mp hx
    rcases List.mem_or_eq_of_mem_set hm with hm | hm
    · exact .inr (List.mem_map.mpr ⟨_, hm, rfl⟩)
    · cases hm
      exact .inl rfl
  refine ⟨h.same.trans s, fun j p2 o2 z => ?_, ?_, fun x hx => ?_⟩
  · by_cases ij : i = j
    · subst ij
      rw [List.getElem?_set_self hl] at z
      cases z
      exact hq
    · rw [List.getElem?_set_ne ij] at z
      exact s _ _ (h.at_ j p2 o2 z)
  · rw [List.map_set]
    have hqn : ∀ (m : Nat) (hm : m < (L.map Prod.fst).length), (L.map Prod.fst)[m] ≠ q := fun m hm z => h.out n (by rw [← z]; exact List.getElem_mem hm)
    refine List.pairwise_iff_getElem.mpr fun j k hj hk2 hjk => ?_
    have hj' : j < (L.map Prod.fst).length := by simpa using hj
    have hk' : k < (L.map Prod.fst).length := by simpa using hk2
    have base := (List.pairwise_iff_getElem.mp h.nd) j k hj' hk' hjk
    rw [List.getElem_set, List.getElem_set]
    split
    · split
      · omega
      · exact (hqn k hk').symm
    · split
      · exact hqn j hj'
      · exact base
  · rcases hk x hx with rfl | hx
    · exact h.same.free n
    · exact h.new x hx

/-! Loops and comprehensions over the ledger -/
section
variable {K : PySem.W.Frag} {σ : L2.St} {H : Hp} {D : Ends} {tb : TS} {i : Nat}
/-- what a for over a range leaves to be shown -/
def LoopR (lo : Int) (n i : Nat) (tb : TS) (D : Ends) (σ : L2.St) (H : Hp) : Prop := ∃ W : Nat → Nat → L2.St → Hp → Prop, (∃ m, W 0 m σ H) ∧ ∀ k m σ H, W k m σ H →
  ((Itr lo n).stop k H ∧ D.nx σ H) ∨ ((Itr lo n).go k H ∧ ∃ N : L2.St → Hp → Prop, (∀ σ' H', N σ' H' → ∃ m', m' < m ∧ W (k + 1) m' σ' H') ∧ ∀ x H', (Itr lo n).yld k H x H' → gName i x σ H' fun σ2 H2 => tb { D with nx := N, ct := N, bk := D.nx } σ2 H2)
def LoopL (K : PySem.W.Frag) (a : Addr) (i : Nat) (tb : TS) (D : Ends) (σ : L2.St) (H : Hp) : Prop := ∃ W : Nat → Nat → L2.St → Hp → Prop, (∃ m, W 0 m σ H) ∧ ∀ k m σ H, W k m σ H →
  ((Itl K a).stop k H ∧ D.nx σ H) ∨ ((Itl K a).go k H ∧ ∃ N : L2.St → Hp → Prop, (∀ σ' H', N σ' H' → ∃ m', m' < m ∧ W (k + 1) m' σ' H') ∧ ∀ x H', (Itl K a).yld k H x H' → gName i x σ H' fun σ2 H2 => tb { D with nx := N, ct := N, bk := D.nx } σ2 H2)
theorem g_for1 {ta : TA} (h : ta σ H fun vs H1 => ∃ j : Int, vs = [.int j] ∧ -(2 ^ 62) ≤ j ∧ j < 2 ^ 62 ∧ LoopR 0 j.toNat i tb D σ H1) : tFor (iRng1 ta) (gName i) tb D σ H := h
theorem g_for2 {ta : TA} (h : ta σ H fun vs H1 => ∃ j k : Int, vs = [.int j, .int k] ∧ (-(2 ^ 62) ≤ j ∧ j < 2 ^ 62 ∧ -(2 ^ 62) ≤ k ∧ k < 2 ^ 62) ∧ LoopR j (k - j).toNat i tb D σ H1) : tFor (iRng2 ta) (gName i) tb D σ H := h
theorem g_forL {te : TE} (h : te σ H fun x H1 => ∃ a, x = .ref a ∧ (∃ xs, SqL K H1 a xs) ∧ LoopL K a i tb D σ H1) : tFor (iList K te) (gName i) tb D σ H := h
theorem g_rng1 {j : Int} {R : Int → Prop} (h1 : -(2 ^ 62) ≤ j) (h2 : j < 2 ^ 62) (h : R j) : ∃ k : Int, [V.int j] = [V.int k] ∧ -(2 ^ 62) ≤ k ∧ k < 2 ^ 62 ∧ R k := ⟨j, rfl, h1, h2, h⟩
theorem g_rng2 {a b : Int} {R : Int → Int → Prop} (h1 : -(2 ^ 62) ≤ a) (h2 : a < 2 ^ 62) (h3 : -(2 ^ 62) ≤ b) (h4 : b < 2 ^ 62) (h : R a b) : ∃ j k : Int, [V.int a, V.int b] = [V.int j, V.int k] ∧ (-(2 ^ 62) ≤ j ∧ j < 2 ^ 62 ∧ -(2 ^ 62) ≤ k ∧ k < 2 ^ 62) ∧ R j k := ⟨a, b, rfl, ⟨h1, h2, h3, h4⟩, h⟩
theorem g_lstw {a : Addr} {xs : List V} {R : Addr → Prop} (s : SqL K H a xs) (h : R a) : ∃ b, V.ref a = .ref b ∧ (∃ xs, SqL K H b xs) ∧ R b := ⟨a, rfl, ⟨xs, s⟩, h⟩
theorem loopR {lo : Int} {n : Nat} (Pv : Nat → L2.St → Hp → Prop) (h0 : Pv 0 σ H)
    (hs : ∀ k σ H, k < n → Pv k σ H → tb { D with nx := Pv (k + 1), ct := Pv (k + 1), bk := D.nx } (σ.set i (some (.int (lo + k)))) H) (hd : ∀ σ H, Pv n σ H → D.nx σ H) : LoopR lo n i tb D σ H :=
  for_range (g := gName i) Pv h0 hs hd
theorem loopL {a : Addr} {xs : List V} (Pv : Nat → L2.St → Hp → Prop) (h0 : Pv 0 σ H) (hl : ∀ k σ H, k ≤ xs.length → Pv k σ H → SqL K H a xs)
    (hs : ∀ k x σ H, xs[k]? = some x → Pv k σ H → tb { D with nx := Pv (k + 1), ct := Pv (k + 1), bk := D.nx } (σ.set i (some x)) H) (hd : ∀ σ H, Pv xs.length σ H → D.nx σ H) : LoopL K a i tb D σ H :=
  for_list (g := gName i) Pv h0 hl hs hd
/-- over a list of ints -/
theorem loopI {a : Addr} {ns : List Int} (Pv : Nat → L2.St → Hp → Prop) (h0 : Pv 0 σ H) (hl : ∀ k σ H, k ≤ ns.length → Pv k σ H → SqL K H a (ns.map V.int))
    (hs : ∀ k σ H, k < ns.length → Pv k σ H → tb { D with nx := Pv (k + 1), ct := Pv (k + 1), bk := D.nx } (σ.set i (some (.int (ns.getD k 0)))) H) (hd : ∀ σ H, Pv ns.length σ H → D.nx σ H) : LoopL K a i tb D σ H :=
  loopL (xs := ns.map V.int) Pv h0 (fun k σ H hk => hl k σ H (by simpa using hk)) (fun k x σ H hx p => by
    have hk : k < ns.length := by
      have := (List.getElem?_eq_some_iff.mp hx).1
      simpa using this
    have e : x = .int (ns.getD k 0) := by
      rw [List.getElem?_map, List.getElem?_eq_getElem hk] at hx
      rw [List.getD_eq_getElem?_getD, List.getElem?_eq_getElem hk]
      exact (Option.some.inj hx).symm
    rw [e]
    exact hs k σ H hk p) (fun σ H p => hd σ H (by rw [List.length_map] at p; exact p))
/-- over rows -/
theorem loopRows {a : Addr} {rows : List (List Int)} (Pv : Nat → L2.St → Hp → Prop) (h0 : Pv 0 σ H) (R : RowsAt H a rows) (hl : ∀ k σ H', Pv k σ H' → Same H H')
    (hs : ∀ k r σ H', k < rows.length → Pv k σ H' → SqL K H' r ((rows.getD k []).map V.int) → tb { D with nx := Pv (k + 1), ct := Pv (k + 1), bk := D.nx } (σ.set i (some (.ref r))) H') (hd : ∀ σ H, Pv rows.length σ H → D.nx σ H) : LoopL K a i tb D σ H := by
  obtain ⟨as, e1, e2, e3⟩ := R
  refine loopL (xs := as.map V.ref) Pv h0 (fun k σ H' _ p => SqL.of (hl k σ H' p _ _ e1)) (fun k x σ H' hx p => ?_) (fun σ H p => hd σ H (by rw [List.length_map, e2] at p; exact p))
  have hk : k < as.length := by
    have := (List.getElem?_eq_some_iff.mp hx).1
    simpa using this
  have hk2 : k < rows.length := by omega
  rw [List.getElem?_map, List.getElem?_eq_getElem hk] at hx
  cases hx
  refine hs k _ σ H' hk2 p (SqL.of (hl k σ H' p _ _ ?_))
  rw [List.getD_eq_getElem?_getD, List.getElem?_eq_getElem hk2]
  exact e3 k _ _ (List.getElem?_eq_getElem hk) (List.getElem?_eq_getElem hk2)
theorem while_led {c : TT} (Pv : L2.St → Hp → Prop) (m : L2.St → Hp → Nat) (h0 : Pv σ H)
    (hs : ∀ σ H, Pv σ H → c σ H fun b H1 => if b = true then tb { D with nx := fun σ' H' => Pv σ' H' ∧ m σ' H' < m σ H, ct := fun σ' H' => Pv σ' H' ∧ m σ' H' < m σ H, bk := D.nx } σ H1 else D.nx σ H1)
    (mono : ∀ σ H Q Q', (∀ b H1, Q b H1 → Q' b H1) → c σ H Q → c σ H Q') : tWhile c tb D σ H := while_by Pv m h0 hs mono
end
/-! ### comprehensions -/
section
variable {K : PySem.W.Frag} {σ : L2.St} {H : Hp} {Q : VK} {te : TE} {tt : TT} {i : Nat} {vs : List Nat}
def LcR (lo : Int) (n i : Nat) (tt : TT) (te : TE) (vs : List Nat) (σ : L2.St) (H1 : Hp) (Q : VK) : Prop := ∀ D, H1 D = none → ∃ W : Nat → Nat → Hp → Prop, (∃ m, W 0 m (upd H1 D (.lst []))) ∧ ∀ k m H, W k m H →
  ((Itr lo n).stop k H ∧ Q (.ref D) H) ∨ ((Itr lo n).go k H ∧ ∃ Nx : Hp → Prop, (∀ H', Nx H' → ∃ m', m' < m ∧ W (k + 1) m' H') ∧ ∀ x H', (Itr lo n).yld k H x H' → gName i x (wipe σ vs) H' fun σ2 H2 => wipe σ2 vs = wipe σ vs ∧ tt σ2 H2 fun b H3 =>
    if b = true then te σ2 H3 fun y H4 => ∃ acc, H4 D = some (.lst acc) ∧ acc.length < sizeLine ∧ Nx (upd H4 D (.lst (acc ++ [y]))) else Nx H3)
def LcL (K : PySem.W.Frag) (a : Addr) (i : Nat) (tt : TT) (te : TE) (vs : List Nat) (σ : L2.St) (H1 : Hp) (Q : VK) : Prop := ∀ D, H1 D = none → ∃ W : Nat → Nat → Hp → Prop, (∃ m, W 0 m (upd H1 D (.lst []))) ∧ ∀ k m H, W k m H →
  ((Itl K a).stop k H ∧ Q (.ref D) H) ∨ ((Itl K a).go k H ∧ ∃ Nx : Hp → Prop, (∀ H', Nx H' → ∃ m', m' < m ∧ W (k + 1) m' H') ∧ ∀ x H', (Itl K a).yld k H x H' → gName i x (wipe σ vs) H' fun σ2 H2 => wipe σ2 vs = wipe σ vs ∧ tt σ2 H2 fun b H3 =>
    if b = true then te σ2 H3 fun y H4 => ∃ acc, H4 D = some (.lst acc) ∧ acc.length < sizeLine ∧ Nx (upd H4 D (.lst (acc ++ [y]))) else Nx H3)
theorem g_lc1 {ta : TA} (h : ta σ H fun vs' H1 => ∃ j : Int, vs' = [.int j] ∧ -(2 ^ 62) ≤ j ∧ j < 2 ^ 62 ∧ LcR 0 j.toNat i tt te vs σ H1 Q) : tLc (iRng1 ta) (gName i) tt te vs σ H Q := h
theorem g_lcL {tl : TE} (h : tl σ H fun x H1 => ∃ a, x = .ref a ∧ (∃ xs, SqL K H1 a xs) ∧ LcL K a i tt te vs σ H1 Q) : tLc (iList K tl) (gName i) tt te vs σ H Q := h
theorem g_yes {R : Bool → Hp → Prop} (h : R true H) : tYes σ H R := h
/-- a comprehension over a range, no test; Pv of the turn and the heap, the list at D within -/
theorem lcR {lo : Int} {n : Nat} (Pv : Addr → Nat → Hp → Prop) (h0 : ∀ D, H D = none → Pv D 0 (upd H D (.lst [])))
    (hw : ∀ x : Int, wipe ((wipe σ vs).set i (some (.int x))) vs = wipe σ vs)
    (hs : ∀ D k H1, H D = none → k < n → Pv D k H1 → te ((wipe σ vs).set i (some (.int (lo + k)))) H1 fun y H4 => ∃ acc, H4 D = some (.lst acc) ∧ acc.length < sizeLine ∧ Pv D (k + 1) (upd H4 D (.lst (acc ++ [y]))))
    (hd : ∀ D H1, H D = none → Pv D n H1 → Q (.ref D) H1) : LcR lo n i tYes te vs σ H Q := fun D nD =>
  lc_range (g := gName i) (Pv D) (h0 D nD) (fun k H1 hk p => ⟨hw _, iteT (B := Pv D (k + 1) H1) (hs D k H1 nD hk p)⟩) (fun H1 p => hd D H1 nD p)
theorem lcL {a : Addr} {xs : List V} (Pv : Addr → Nat → Hp → Prop) (h0 : ∀ D, H D = none → Pv D 0 (upd H D (.lst []))) (hl : ∀ D k H1, k ≤ xs.length → Pv D k H1 → SqL K H1 a xs)
    (hw : ∀ x : V, wipe ((wipe σ vs).set i (some x)) vs = wipe σ vs)
    (hs : ∀ D k x H1, H D = none → xs[k]? = some x → Pv D k H1 → te ((wipe σ vs).set i (some x)) H1 fun y H4 => ∃ acc, H4 D = some (.lst acc) ∧ acc.length < sizeLine ∧ Pv D (k + 1) (upd H4 D (.lst (acc ++ [y]))))
    (hd : ∀ D H1, H D = none → Pv D xs.length H1 → Q (.ref D) H1) : LcL K a i tYes te vs σ H Q := fun D nD =>
  lc_list (g := gName i) (Pv D) (h0 D nD) (fun k H1 hk p => hl D k H1 hk p) (fun k x H1 hx p => ⟨hw _, iteT (B := Pv D (k + 1) H1) (hs D k x H1 nD hx p)⟩) (fun H1 p => hd D H1 nD p)
/-- .. with a test that is kept to the range's numbers -/
theorem lcRT {lo : Int} {n : Nat} (Pv : Addr → Nat → Hp → Prop) (h0 : ∀ D, H D = none → Pv D 0 (upd H D (.lst [])))
    (hw : ∀ x : Int, wipe ((wipe σ vs).set i (some (.int x))) vs = wipe σ vs)
    (hs : ∀ D k H1, H D = none → k < n → Pv D k H1 → tt ((wipe σ vs).set i (some (.int (lo + k)))) H1 fun b H3 => if b = true then te ((wipe σ vs).set i (some (.int (lo + k)))) H3 fun y H4 => ∃ acc, H4 D = some (.lst acc) ∧ acc.length < sizeLine ∧ Pv D (k + 1) (upd H4 D (.lst (acc ++ [y]))) else Pv D (k + 1) H3)
    (hd : ∀ D H1, H D = none → Pv D n H1 → Q (.ref D) H1) : LcR lo n i tt te vs σ H Q := fun D nD =>
  lc_range (g := gName i) (Pv D) (h0 D nD) (fun k H1 hk p => ⟨hw _, hs D k H1 nD hk p⟩) (fun H1 p => hd D H1 nD p)
/-- over a list from its end -/
def LcV (K : PySem.W.Frag) (a : Addr) (n i : Nat) (tt : TT) (te : TE) (vs : List Nat) (σ : L2.St) (H1 : Hp) (Q : VK) : Prop := ∀ D, H1 D = none → ∃ W : Nat → Nat → Hp → Prop, (∃ m, W 0 m (upd H1 D (.lst []))) ∧ ∀ k m H, W k m H →
  ((Itv K a n).stop k H ∧ Q (.ref D) H) ∨ ((Itv K a n).go k H ∧ ∃ Nx : Hp → Prop, (∀ H', Nx H' → ∃ m', m' < m ∧ W (k + 1) m' H') ∧ ∀ x H', (Itv K a n).yld k H x H' → gName i x (wipe σ vs) H' fun σ2 H2 => wipe σ2 vs = wipe σ vs ∧ tt σ2 H2 fun b H3 =>
    if b = true then te σ2 H3 fun y H4 => ∃ acc, H4 D = some (.lst acc) ∧ acc.length < sizeLine ∧ Nx (upd H4 D (.lst (acc ++ [y]))) else Nx H3)
theorem g_lcV {ta : TA} (h : ta σ H fun vs' H1 => ∃ (a : Addr) (xs : List V), vs' = [.ref a] ∧ SqL K H1 a xs ∧ LcV K a xs.length i tt te vs σ H1 Q) : tLc (iRev K ta) (gName i) tt te vs σ H Q := h
theorem g_lstv {a : Addr} {xs : List V} {R : Addr → List V → Prop} (s : SqL K H a xs) (h : R a xs) : ∃ (b : Addr) (ys : List V), [V.ref a] = [.ref b] ∧ SqL K H b ys ∧ R b ys := ⟨a, xs, rfl, s, h⟩
theorem lcV {a : Addr} {xs : List V} (Pv : Addr → Nat → Hp → Prop) (h0 : ∀ D, H D = none → Pv D 0 (upd H D (.lst []))) (hl : ∀ D k H1, Pv D k H1 → SqL K H1 a xs)
    (hw : ∀ x : V, wipe ((wipe σ vs).set i (some x)) vs = wipe σ vs)
    (hs : ∀ D k x H1, H D = none → k < xs.length → xs[xs.length - 1 - k]? = some x → Pv D k H1 → te ((wipe σ vs).set i (some x)) H1 fun y H4 => ∃ acc, H4 D = some (.lst acc) ∧ acc.length < sizeLine ∧ Pv D (k + 1) (upd H4 D (.lst (acc ++ [y]))))
    (hd : ∀ D H1, H D = none → Pv D xs.length H1 → Q (.ref D) H1) : LcV K a xs.length i tYes te vs σ H Q := fun D nD => by
  refine ⟨fun k m H1 => m = xs.length - k ∧ k ≤ xs.length ∧ Pv D k H1, ⟨xs.length, rfl, Nat.zero_le _, h0 D nD⟩, ?_⟩
  rintro k m H1 ⟨rfl, hk, p⟩
  by_cases hlt : k < xs.length
  · have hx : xs[xs.length - 1 - k]? = some xs[xs.length - 1 - k] := List.getElem?_eq_getElem (by omega)
    refine .inr ⟨⟨hlt, xs, _, hl D k H1 p, hx⟩, Pv D (k + 1), fun H' p' => ⟨xs.length - (k + 1), by omega, rfl, hlt, p'⟩, fun v H' y => ?_⟩
    obtain ⟨e, hy⟩ := y
    subst e
    exact ⟨hw v, iteT (B := Pv D (k + 1) H') (hs D k v H' nD hlt (hy xs (hl D k _ p)) p)⟩
  · have e : k = xs.length := by omega
    subst e
    exact .inl ⟨Nat.le_refl _, hd D H1 nD p⟩

/-! ### lists of ints -/
/-- the list at D as it grows, over what stood (H) -/
def IntsUp (H : Hp) (P : List Int → Prop) (D : Addr) (k : Nat) (H1 : Hp) : Prop := ∃ ns : List Int, ns.length = k ∧ P ns ∧ Led H [(D, ilst ns)] H1
theorem IntsUp.start {P : List Int → Prop} (h0 : P []) (D : Addr) (nD : H D = none) : IntsUp H P D 0 (upd H D (.lst [])) := ⟨[], rfl, h0, (Led.nil H).alloc nD _⟩
theorem ints_push {H H2 : Hp} {D : Addr} {ns : List Int} {x : Int} (h : Led H [(D, ilst ns)] H2) : Led H [(D, ilst (ns ++ [x]))] (upd H2 D (.lst (ns.map V.int ++ [V.int x]))) := by
  have z := h.set (i := 0) rfl (.lst (ns.map V.int ++ [V.int x]))
  have e2 : ilst (ns ++ [x]) = .lst (ns.map V.int ++ [V.int x]) := by rw [ilst, List.map_append]; rfl
  rw [e2]
  exact z
theorem IntsUp.step {P : List Int → Prop} {D : Addr} {k : Nat} {ns : List Int} {x : Int} {H2 : Hp} (e : ns.length = k) (hk : k < 100000) (p : P (ns ++ [x])) (l : Led H [(D, ilst ns)] H2) :
    ∃ acc, H2 D = some (.lst acc) ∧ acc.length < sizeLine ∧ IntsUp H P D (k + 1) (upd H2 D (.lst (acc ++ [V.int x]))) :=
  ⟨ns.map V.int, l.get 0 rfl, by rw [List.length_map]; exact Nat.lt_of_lt_of_le (show ns.length < 100000 by omega) (by decide), ns ++ [x], by rw [List.length_append, e]; rfl, p, ints_push l⟩
theorem lcRI {lo : Int} {n : Nat} (P : List Int → Prop) (h0 : P []) (hn : n ≤ 100000) (hw : ∀ x : Int, wipe ((wipe σ vs).set i (some (.int x))) vs = wipe σ vs)
    (hs : ∀ D k ns H1 (R : VK), k < n → ns.length = k → P ns → Led H [(D, ilst ns)] H1 → (∀ x H2, P (ns ++ [x]) → Led H [(D, ilst ns)] H2 → R (.int x) H2) → te ((wipe σ vs).set i (some (.int (lo + k)))) H1 R)
    (hd : ∀ D ns H1, H D = none → ns.length = n → P ns → Same H H1 → H1 D = some (ilst ns) → Q (.ref D) H1) : LcR lo n i tYes te vs σ H Q :=
  lcR (IntsUp H P) (fun D nD => IntsUp.start h0 D nD) hw (fun D k H1 nD hk ⟨ns, e, p1, l1⟩ => hs D k ns H1 _ hk e p1 l1 fun x H2 p2 l2 => IntsUp.step e (by omega) p2 l2)
    (fun D H1 nD ⟨ns, e, p1, l1⟩ => hd D ns H1 nD e p1 l1.same (l1.get 0 rfl))
theorem lcLI {a : Addr} {xs : List V} (P : List Int → Prop) (h0 : P []) (hn : xs.length ≤ 100000) (s : SqL K H a xs) (hw : ∀ x : V, wipe ((wipe σ vs).set i (some x)) vs = wipe σ vs)
    (hs : ∀ D k v ns H1 (R : VK), xs[k]? = some v → ns.length = k → P ns → Led H [(D, ilst ns)] H1 → (∀ x H2, P (ns ++ [x]) → Led H [(D, ilst ns)] H2 → R (.int x) H2) → te ((wipe σ vs).set i (some v)) H1 R)
    (hd : ∀ D ns H1, H D = none → ns.length = xs.length → P ns → Same H H1 → H1 D = some (ilst ns) → Q (.ref D) H1) : LcL K a i tYes te vs σ H Q :=
  lcL (xs := xs) (IntsUp H P) (fun D nD => IntsUp.start h0 D nD) (fun D k H1 _ ⟨ns, e, p1, l1⟩ => l1.base s) hw
    (fun D k v H1 nD hx ⟨ns, e, p1, l1⟩ => hs D k v ns H1 _ hx e p1 l1 fun x H2 p2 l2 => IntsUp.step e (by have := (List.getElem?_eq_some_iff.mp hx).1; omega) p2 l2)
    (fun D H1 nD ⟨ns, e, p1, l1⟩ => hd D ns H1 nD e p1 l1.same (l1.get 0 rfl))
/-- noughts, one for each item -/
theorem lcL0 {a : Addr} {xs : List V} (z : Int) (hn : xs.length ≤ 100000) (s : SqL K H a xs) (hw : ∀ x : V, wipe ((wipe σ vs).set i (some x)) vs = wipe σ vs)
    (hd : ∀ D H1, H D = none → Same H H1 → H1 D = some (ilst (List.replicate xs.length z)) → Q (.ref D) H1) : LcL K a i tYes (tC (.int z)) vs σ H Q :=
  lcLI (fun ns => ns = List.replicate ns.length z) rfl hn s hw (fun D k v ns H1 R hx e p l q => q z H1 (by rw [List.length_append, p, ← List.replicate_append_replicate, List.length_replicate]; rfl) l)
    (fun D ns H1 nD e p sm hh => hd D H1 nD sm (by rw [← e, ← p]; exact hh))

/-! ### lists of rows -/
def rowLed (D : Addr) (as : List Addr) (rows : List (List Int)) : List (Addr × HO) := (D, .lst (as.map V.ref)) :: List.zipWith (fun a row => (a, ilst row)) as rows
theorem zip_at {as : List Addr} {rows : List (List Int)} {j : Nat} {a : Addr} {row : List Int} (e1 : as[j]? = some a) (e2 : rows[j]? = some row) : (List.zipWith (fun a row => (a, ilst row)) as rows)[j]? = some (a, ilst row) := by
  rw [List.getElem?_zipWith, e1, e2]
theorem Led.rowAt {B H1 : Hp} {D : Addr} {as : List Addr} {rows : List (List Int)} (l : Led B (rowLed D as rows) H1) (e : as.length = rows.length) : RowsAt H1 D rows :=
  ⟨as, l.get 0 rfl, e, fun j a row e1 e2 => l.get (j + 1) (show (rowLed D as rows)[j + 1]? = some (a, ilst row) from zip_at e1 e2)⟩
theorem Led.rowNew {H1 : Hp} {D : Addr} {as : List Addr} {rows : List (List Int)} (l : Led H (rowLed D as rows) H1) (e : as.length = rows.length) : NewRows H H1 D rows :=
  ⟨as, l.get 0 rfl, l.new D (key_at (i := 0) (o := .lst (as.map V.ref)) rfl), e, fun j a row e1 e2 => ⟨l.get (j + 1) (show (rowLed D as rows)[j + 1]? = some (a, ilst row) from zip_at e1 e2), l.new a (key_at (i := j + 1) (o := ilst row) (show (rowLed D as rows)[j + 1]? = some (a, ilst row) from zip_at e1 e2))⟩⟩
theorem rowLed_push {D r : Addr} {as : List Addr} {rows : List (List Int)} {row : List Int} (h : as.length = rows.length) :
    (rowLed D as rows ++ [(r, ilst row)]).set 0 (D, .lst (as.map V.ref ++ [V.ref r])) = rowLed D (as ++ [r]) (rows ++ [row]) := by
  show (D, HO.lst (as.map V.ref ++ [V.ref r])) :: (List.zipWith (fun a row => (a, ilst row)) as rows ++ [(r, ilst row)]) = _
  rw [rowLed, List.zipWith_append h, List.map_append]
  rfl
def RowsUp (H : Hp) (P : List (List Int) → Prop) (D : Addr) (k : Nat) (H1 : Hp) : Prop := ∃ (as : List Addr) (rows : List (List Int)), as.length = rows.length ∧ rows.length = k ∧ P rows ∧ Led H (rowLed D as rows) H1
theorem RowsUp.start {P : List (List Int) → Prop} (h0 : P []) (D : Addr) (nD : H D = none) : RowsUp H P D 0 (upd H D (.lst [])) := ⟨[], [], rfl, rfl, h0, (Led.nil H).alloc nD _⟩
theorem RowsUp.step {P : List (List Int) → Prop} {D r : Addr} {k : Nat} {as : List Addr} {rows : List (List Int)} {row : List Int} {H2 : Hp} (e0 : as.length = rows.length) (e : rows.length = k) (hk : k < 100000) (p : P (rows ++ [row])) (l : Led H (rowLed D as rows ++ [(r, ilst row)]) H2) :
    ∃ acc, H2 D = some (.lst acc) ∧ acc.length < sizeLine ∧ RowsUp H P D (k + 1) (upd H2 D (.lst (acc ++ [V.ref r]))) := by
  refine ⟨as.map V.ref, l.get 0 rfl, by rw [List.length_map]; exact Nat.lt_of_lt_of_le (show as.length < 100000 by omega) (by decide), as ++ [r], rows ++ [row], by simp [e0], by simp [e], p, ?_⟩
  rw [← rowLed_push e0]
  exact l.set (i := 0) rfl _
theorem lcRRows {lo : Int} {n : Nat} (P : List (List Int) → Prop) (h0 : P []) (hn : n ≤ 100000) (hw : ∀ x : Int, wipe ((wipe σ vs).set i (some (.int x))) vs = wipe σ vs)
    (hs : ∀ D k as rows H1 (R : VK), k < n → rows.length = k → P rows → Led H (rowLed D as rows) H1 → (∀ r row H2, P (rows ++ [row]) → Led H (rowLed D as rows ++ [(r, ilst row)]) H2 → R (.ref r) H2) → te ((wipe σ vs).set i (some (.int (lo + k)))) H1 R)
    (hd : ∀ D rows H1, rows.length = n → P rows → Same H H1 → NewRows H H1 D rows → Q (.ref D) H1) : LcR lo n i tYes te vs σ H Q :=
  lcR (RowsUp H P) (fun D nD => RowsUp.start h0 D nD) hw (fun D k H1 nD hk ⟨as, rows, e0, e, p1, l1⟩ => hs D k as rows H1 _ hk e p1 l1 fun r row H2 p2 l2 => RowsUp.step e0 e (by omega) p2 l2)
    (fun D H1 nD ⟨as, rows, e0, e, p1, l1⟩ => hd D rows H1 e p1 l1.same (l1.rowNew e0))
theorem lcLRows {a : Addr} {xs : List V} (P : List (List Int) → Prop) (h0 : P []) (hn : xs.length ≤ 100000) (s : SqL K H a xs) (hw : ∀ x : V, wipe ((wipe σ vs).set i (some x)) vs = wipe σ vs)
    (hs : ∀ D k v as rows H1 (R : VK), xs[k]? = some v → rows.length = k → P rows → Led H (rowLed D as rows) H1 → (∀ r row H2, P (rows ++ [row]) → Led H (rowLed D as rows ++ [(r, ilst row)]) H2 → R (.ref r) H2) → te ((wipe σ vs).set i (some v)) H1 R)
    (hd : ∀ D rows H1, rows.length = xs.length → P rows → Same H H1 → NewRows H H1 D rows → Q (.ref D) H1) : LcL K a i tYes te vs σ H Q :=
  lcL (xs := xs) (RowsUp H P) (fun D nD => RowsUp.start h0 D nD) (fun D k H1 _ ⟨as, rows, e0, e, p1, l1⟩ => l1.base s) hw
    (fun D k v H1 nD hx ⟨as, rows, e0, e, p1, l1⟩ => hs D k v as rows H1 _ hx e p1 l1 fun r row H2 p2 l2 => RowsUp.step e0 e (by have := (List.getElem?_eq_some_iff.mp hx).1; omega) p2 l2)
    (fun D H1 nD ⟨as, rows, e0, e, p1, l1⟩ => hd D rows H1 e p1 l1.same (l1.rowNew e0))
theorem lcVRows {a : Addr} {xs : List V} (P : List (List Int) → Prop) (h0 : P []) (hn : xs.length ≤ 100000) (s : SqL K H a xs) (hw : ∀ x : V, wipe ((wipe σ vs).set i (some x)) vs = wipe σ vs)
    (hs : ∀ D k v as rows H1 (R : VK), k < xs.length → xs[xs.length - 1 - k]? = some v → rows.length = k → P rows → Led H (rowLed D as rows) H1 → (∀ r row H2, P (rows ++ [row]) → Led H (rowLed D as rows ++ [(r, ilst row)]) H2 → R (.ref r) H2) → te ((wipe σ vs).set i (some v)) H1 R)
    (hd : ∀ D rows H1, rows.length = xs.length → P rows → Same H H1 → NewRows H H1 D rows → Q (.ref D) H1) : LcV K a xs.length i tYes te vs σ H Q :=
  lcV (xs := xs) (RowsUp H P) (fun D nD => RowsUp.start h0 D nD) (fun D k H1 ⟨as, rows, e0, e, p1, l1⟩ => l1.base s) hw
    (fun D k v H1 nD hk hx ⟨as, rows, e0, e, p1, l1⟩ => hs D k v as rows H1 _ hk hx e p1 l1 fun r row H2 p2 l2 => RowsUp.step e0 e (by omega) p2 l2)
    (fun D H1 nD ⟨as, rows, e0, e, p1, l1⟩ => hd D rows H1 e p1 l1.same (l1.rowNew e0))
/-- an item of rows, by its address -/
theorem RowsAt.sq {p : Addr} {rows : List (List Int)} (R : RowsAt H p rows) : ∃ as : List Addr, SqL K H p (as.map V.ref) ∧ as.length = rows.length ∧ ∀ (k : Nat) (v : V), (as.map V.ref)[k]? = some v → ∃ r, v = .ref r ∧ k < rows.length ∧ SqL K H r ((rows.getD k []).map V.int) := by
  obtain ⟨as, e1, e2, e3⟩ := R
  refine ⟨as, SqL.of e1, e2, fun k v hv => ?_⟩
  have hk : k < as.length := by
    have := (List.getElem?_eq_some_iff.mp hv).1
    simpa using this
  have hk2 : k < rows.length := by omega
  rw [List.getElem?_map, List.getElem?_eq_getElem hk] at hv
  cases hv
  refine ⟨_, rfl, hk2, SqL.of ?_⟩
  rw [List.getD_eq_getElem?_getD, List.getElem?_eq_getElem hk2]
  exact e3 k _ _ (List.getElem?_eq_getElem hk) (List.getElem?_eq_getElem hk2)
theorem RowsAt.sql {p : Addr} {rows : List (List Int)} (R : RowsAt H p rows) : ∃ xs, SqL K H p xs := by
  obtain ⟨as, e1, _⟩ := R
  exact ⟨_, SqL.of e1⟩
theorem g_lstwR {a : Addr} {rows : List (List Int)} {R : Addr → Prop} (s : RowsAt H a rows) (h : R a) : ∃ b, V.ref a = .ref b ∧ (∃ xs, SqL K H b xs) ∧ R b := ⟨a, rfl, s.sql, h⟩
theorem g_list {p : Addr} {xs : List V} (s : SqL K H p xs) (h : ∀ l, H l = none → Q (.ref l) (upd H l (.lst xs))) : mList K [.ref p] H Q := ⟨p, xs, rfl, .inl s, h⟩
theorem lcRows0 {a : Addr} {rows : List (List Int)} {z : Int} (R : RowsAt H a rows) (hn : rows.length ≤ 100000) (hw : ∀ x : V, wipe ((wipe σ vs).set i (some x)) vs = wipe σ vs)
    (hd : ∀ D H1, H D = none → Same H H1 → H1 D = some (ilst (List.replicate rows.length z)) → Q (.ref D) H1) : LcL K a i tYes (tC (.int z)) vs σ H Q := by
  obtain ⟨as, e1, e2, _⟩ := R.sq (K := K)
  refine lcL0 z (by rw [List.length_map, e2]; exact hn) e1 hw fun D H1 nD s e => hd D H1 nD s ?_
  rw [List.length_map, e2] at e
  exact e
/-- each row copied -/
theorem lcCopy {a : Addr} {rows : List (List Int)} (R : RowsAt H a rows) (hn : rows.length ≤ 100000) (hw : ∀ x : V, wipe ((wipe σ vs).set i (some x)) vs = wipe σ vs) (hi : ∀ x : V, ((wipe σ vs).set i (some x))[i]? = some (some x))
    (hd : ∀ D H1, Same H H1 → NewRows H H1 D rows → Q (.ref D) H1) : LcL K a i tYes (tCB (mList K) (tCons (tVar i) tNil)) vs σ H Q := by
  obtain ⟨as, e1, e2, e3⟩ := R.sq (K := K)
  refine lcLRows (fun rs => rs = rows.take rs.length) rfl (by rw [List.length_map, e2]; exact hn) e1 hw (fun D k v bs rs H1 S hx e p l q => ?_) (fun D rs H1 e p s n => hd D H1 s ?_)
  · obtain ⟨r, rfl, hk, hr⟩ := e3 k v hx
    refine g_cb (g_cons (g_var (hi _) (g_nil (g_list (l.base hr) fun m nm => q m (rows.getD k []) _ ?_ (l.alloc nm _)))))
    rw [List.length_append, e]
    show rs ++ [rows.getD k []] = rows.take (k + 1)
    rw [p, e, List.take_add_one, List.getD_eq_getElem?_getD, List.getElem?_eq_getElem hk]
    rfl
  · rw [List.length_map, e2] at e
    rw [e, List.take_length] at p
    rw [← p]
    exact n
end

/-! ### stores, methods of lists -/
section
variable {K : PySem.W.Frag} {σ : L2.St} {H : Hp} {Q : VK} {B : Hp} {L : List (Addr × HO)}
theorem g_sub {to ti : TE} {t : TSet} {v : V} {R : L2.St → Hp → Prop} (h : to σ H fun o H1 => ti σ H1 fun i H2 => t o i v H2 fun H3 => R σ H3) : gSub to ti t v σ H R := h
theorem g_bm {T : String} {r : V → List V → Hp → VK → Prop} {to : TE} {t : TA} (h : to σ H fun x H1 => tyV K T x H1 ∧ t σ H1 fun xs H2 => r x xs H2 Q) : tBM K T r to t σ H Q := h
theorem g_ty {p : Addr} {xs : List V} {R : Prop} (s : SqL K H p xs) (h : R) : tyV K "list" (.ref p) H ∧ R := ⟨.inl ⟨rfl, xs, s⟩, h⟩
theorem ixN_of {n : Nat} {i : Int} (h0 : 0 ≤ i) (h1 : i < n) : ixN n i = some i.toNat := by
  unfold ixN
  rw [if_pos h0, if_pos h1]
theorem set_map {ns : List Int} {j : Nat} {x : Int} : (ns.map V.int).set j (V.int x) = (ns.set j x).map V.int := List.map_set.symm
/-- xs[i] = x, a list of ints of the ledger -/
theorem g_setL (led : Led B L H) (j : Nat) {p : Addr} {ns : List Int} {i x : Int} {R : Hp → Prop} (e : L[j]? = some (p, ilst ns)) (h0 : 0 ≤ i) (h1 : i < ns.length) (q : ∀ H', Led B (L.set j (p, ilst (ns.set i.toNat x))) H' → R H') :
    rSetL (.ref p) (.int i) (.int x) H R := by
  refine ⟨p, ns.map V.int, i, i.toNat, rfl, rfl, led.get j e, ?_, ?_⟩
  · rw [List.length_map]
    exact ixN_of h0 h1
  · rw [set_map]
    exact q _ (led.set e _)
theorem g_setM (led : Led B L H) (j : Nat) {p : Addr} {ns : List Int} {i x : Int} {R : Hp → Prop} (e : L[j]? = some (p, ilst ns)) (h0 : i < 0) (h1 : 0 ≤ ns.length + i) (q : ∀ H', Led B (L.set j (p, ilst (ns.set ((ns.length : Int) + i).toNat x))) H' → R H') :
    rSetL (.ref p) (.int i) (.int x) H R := by
  refine ⟨p, ns.map V.int, i, ((ns.length : Int) + i).toNat, rfl, rfl, led.get j e, ?_, ?_⟩
  · unfold ixN
    rw [List.length_map, if_neg (by omega), if_pos (by omega), Int.add_comm]
  · rw [set_map]
    exact q _ (led.set e _)
/-- the same of any items -/
theorem g_setV (led : Led B L H) (j : Nat) {p : Addr} {xs : List V} {i : Int} {x : V} {R : Hp → Prop} (e : L[j]? = some (p, .lst xs)) (h0 : 0 ≤ i) (h1 : i < xs.length) (q : ∀ H', Led B (L.set j (p, .lst (xs.set i.toNat x))) H' → R H') :
    rSetL (.ref p) (.int i) x H R := ⟨p, xs, i, i.toNat, rfl, rfl, led.get j e, ixN_of h0 h1, q _ (led.set e _)⟩
theorem g_app (led : Led B L H) (j : Nat) {p : Addr} {xs : List V} {x : V} (e : L[j]? = some (p, .lst xs)) (hl : xs.length < 100000) (q : ∀ H', Led B (L.set j (p, .lst (xs ++ [x]))) H' → Q .non H') :
    rAppend (.ref p) [x] H Q := ⟨p, xs, x, rfl, rfl, led.get j e, Nat.lt_of_lt_of_le hl (by decide), q _ (led.set e _)⟩
theorem g_appI (led : Led B L H) (j : Nat) {p : Addr} {ns : List Int} {x : Int} (e : L[j]? = some (p, ilst ns)) (hl : ns.length < 100000) (q : ∀ H', Led B (L.set j (p, ilst (ns ++ [x]))) H' → Q .non H') :
    rAppend (.ref p) [.int x] H Q := by
  refine g_app led j e (by rw [List.length_map]; exact hl) ?_
  have e2 : ilst (ns ++ [x]) = .lst (ns.map V.int ++ [V.int x]) := by rw [ilst, List.map_append]; rfl
  rw [← e2]
  exact q
theorem g_ins (led : Led B L H) (j : Nat) {p : Addr} {ns : List Int} {i x : Int} (e : L[j]? = some (p, ilst ns)) (hl : ns.length < 100000) (h0 : 0 ≤ i) (h1 : i < 2 ^ 63) (q : ∀ H', Led B (L.set j (p, ilst (ns.take i.toNat ++ [x] ++ ns.drop i.toNat))) H' → Q .non H') :
    rInsert (.ref p) [.int i, .int x] H Q := by
  refine ⟨p, ns.map V.int, i, .int x, rfl, rfl, led.get j e, by rw [List.length_map]; exact Nat.lt_of_lt_of_le hl (by decide), h0, h1, ?_⟩
  have e2 : (.lst ((ns.map V.int).take i.toNat ++ [V.int x] ++ (ns.map V.int).drop i.toNat) : HO) = ilst (ns.take i.toNat ++ [x] ++ ns.drop i.toNat) := by
    rw [ilst, List.map_append, List.map_append, List.map_take, List.map_drop]
    rfl
  rw [e2]
  exact q _ (led.set e _)
end

/-! ### instances: calls of methods, makings, fields -/
section
variable {K : PySem.W.Frag} {G : Ads} {σ : L2.St} {H : Hp} {Q : VK} {B : Hp} {L : List (Addr × HO)} {D : Ends}
theorem app_nil_fun {R : List V → Hp → Prop} : (fun (vs : List V) H1 => R (vs ++ []) H1) = R := by
  funext vs H1
  rw [List.append_nil]
theorem g_make {C : Addr} {sp : Sp} {E : XK} {ta : TA} (h : ta σ H fun vs H1 => ∀ x dx, H1 x = none → H1 dx = none → dx ≠ x → sp (.ref x :: vs) (upd (upd H1 dx (.own x)) x (.ins C dx [])) (fun v H2 => v = .non ∧ Q (.ref x) H2) E) : tMake C sp [] E ta σ H Q := by
  have e := app_nil_fun (R := fun vs H1 => ∀ x dx, H1 x = none → H1 dx = none → dx ≠ x → sp (.ref x :: vs) (upd (upd H1 dx (.own x)) x (.ins C dx [])) (fun v H2 => v = .non ∧ Q (.ref x) H2) E)
  show ta σ H _
  rw [← e] at h
  exact h
theorem g_meth {C : Addr} {m : Str} {sp : Sp} {E : XK} {to : TE} {ta : TA} (h : to σ H fun x H1 => ∃ a dx fs, x = .ref a ∧ H1 a = some (.ins C dx fs) ∧ fs.lookup m = none ∧ ta σ H1 fun vs H2 => sp (x :: vs) H2 Q E) : tMeth C m sp [] E to ta σ H Q := by
  have e : ∀ x : V, (fun (vs : List V) H2 => sp (x :: (vs ++ [])) H2 Q E) = fun vs H2 => sp (x :: vs) H2 Q E := fun x => by
    funext vs H2
    rw [List.append_nil]
  show to σ H fun x H1 => ∃ a dx fs, x = .ref a ∧ H1 a = some (.ins C dx fs) ∧ fs.lookup m = none ∧ ta σ H1 fun vs H2 => sp (x :: (vs ++ [])) H2 Q E
  simp only [e]
  exact h
theorem g_self {C a dx : Addr} {fs : List (Str × V)} {m : Str} {R : Prop} (e : H a = some (.ins C dx fs)) (l : fs.lookup m = none) (h : R) : ∃ a' dx' fs', V.ref a = .ref a' ∧ H a' = some (.ins C dx' fs') ∧ fs'.lookup m = none ∧ R := ⟨a, dx, fs, rfl, e, l, h⟩
theorem g_methT {C : Addr} {m : Str} {sp : Sp} {E : L2.St → XK} {to : TE} {ta : TA} (h : to σ H fun x H1 => ∃ a dx fs, x = .ref a ∧ H1 a = some (.ins C dx fs) ∧ fs.lookup m = none ∧ ta σ H1 fun vs H2 => sp (x :: vs) H2 Q (E σ)) : tMethT C m sp E to ta σ H Q := h
theorem g_makeT {C : Addr} {sp : Sp} {E : L2.St → XK} {ta : TA} (h : ta σ H fun vs H1 => ∀ x dx, H1 x = none → H1 dx = none → dx ≠ x → sp (.ref x :: vs) (upd (upd H1 dx (.own x)) x (.ins C dx [])) (fun v H2 => v = .non ∧ Q (.ref x) H2) (E σ)) : tMakeT C sp E ta σ H Q := h
theorem g_callS {sp : Sp} {E : L2.St → XK} {ta : TA} (h : ta σ H fun vs H1 => sp vs H1 Q (E σ)) : tCallS sp E ta σ H Q := h
theorem g_sfld {ta tv : TE} {f : Str} (h : tv σ H fun y H1 => ta σ H1 fun x H2 => ∃ a C dx fs, x = .ref a ∧ H2 a = some (.ins C dx fs) ∧ Cls K C ∧ NoAttr K C f ∧ fs.length < 1000 ∧ D.nx σ (upd H2 a (.ins C dx (putF f y fs)))) : sFld K ta tv f D σ H := h
/-- self.f = v, the instance in the ledger -/
theorem g_put (led : Led B L H) (j : Nat) {C a dx : Addr} {fs fs' : List (Str × V)} {f : Str} {v : V} {R : Hp → Prop} (e : L[j]? = some (a, .ins C dx fs)) (c : Cls K C) (n : NoAttr K C f) (hl : fs.length < 1000) (ep : putF f v fs = fs') (q : ∀ H', Led B (L.set j (a, .ins C dx fs')) H' → R H') :
    ∃ a' C' dx' gs, V.ref a = .ref a' ∧ H a' = some (.ins C' dx' gs) ∧ Cls K C' ∧ NoAttr K C' f ∧ gs.length < 1000 ∧ R (upd H a' (.ins C' dx' (putF f v gs))) := by
  subst ep
  exact ⟨a, C, dx, fs, rfl, led.get j e, c, n, hl, q _ (led.set e _)⟩
/-- one object taken out of what stands -/
theorem Led.one {b : Addr} {o : HO} (h : H b = some o) : ∃ B, Led B [(b, o)] H ∧ ∀ q u, H q = some u → q ≠ b → B q = some u := by
  classical
  refine ⟨fun a => if a = b then none else H a, ⟨fun a u e => ?_, fun i p u e => ?_, by simp, fun p hp => ?_⟩, fun q u e n => ?_⟩
  · by_cases z : a = b
    · rw [show (if a = b then none else H a) = none from if_pos z] at e
      cases e
    · rw [show (if a = b then none else H a) = H a from if_neg z] at e
      exact e
  · cases i with
    | zero =>
      cases e
      exact h
    | succ i => simp at e
  · simp at hp
    subst hp
    exact if_pos rfl
  · show (if q = b then none else H q) = some u
    rw [if_neg n]
    exact e
/-- reading a board's fields -/
theorem g_bfld {b dx : Addr} {fs : List (Str × V)} {f : Str} {v : V} {R : V → Prop} (e : H b = some (.ins G.Board dx fs)) (c : Cls K G.Board) (n : NoAttr K G.Board f) (l : fs.lookup f = some v) (h : R v) :
    ∃ a' C' dx' fs' v', V.ref b = .ref a' ∧ H a' = some (.ins C' dx' fs') ∧ Cls K C' ∧ NoAttr K C' f ∧ fs'.lookup f = some v' ∧ R v' := ⟨b, G.Board, dx, fs, v, rfl, e, c, n, l, h⟩
end
/-! ### isinstance, indices from the end -/
section
variable {K : PySem.W.Frag} {H : Hp} {Q : VK}
theorem isi_int {i : Int} {c : String} {b : Bool} (e : kitB "int" c = some b) (h : Q (.bl b) H) : rIsi K [.int i, .ty c] H Q := ⟨.int i, .ty c, .type "int", .type c, b, rfl, .ty c, .base (.int i), kit_ty e, h⟩
theorem isi_bl {i : Bool} {c : String} {b : Bool} (e : kitB "bool" c = some b) (h : Q (.bl b) H) : rIsi K [.bl i, .ty c] H Q := ⟨.bl i, .ty c, .type "bool", .type c, b, rfl, .ty c, .base (.bl i), kit_ty e, h⟩
theorem isi_lst {p : Addr} {xs : List V} {c : String} {b : Bool} (s : H p = some (.lst xs)) (e : kitB "list" c = some b) (h : Q (.bl b) H) : rIsi K [.ref p, .ty c] H Q := ⟨.ref p, .ty c, .type "list", .type c, b, rfl, .ty c, .base (.lst s), kit_ty e, h⟩
theorem atI_neg {ns : List Int} {i : Int} (h0 : i < 0) (h1 : 0 ≤ ns.length + i) : atI (ns.map V.int) i = some (.int (ns.getD (ns.length + i).toNat 0)) := by
  have hl : ((ns.length : Int) + i).toNat < ns.length := by omega
  have e : ixN (ns.map V.int).length i = some ((ns.length : Int) + i).toNat := by
    unfold ixN
    rw [List.length_map, if_neg (by omega), if_pos (by omega), Int.add_comm]
  unfold atI
  rw [e]
  show (ns.map V.int)[((ns.length : Int) + i).toNat]? = _
  rw [List.getElem?_map, List.getElem?_eq_getElem hl, List.getD_eq_getElem?_getD, List.getElem?_eq_getElem hl]
  rfl
theorem g_ixM {p : Addr} {ns : List Int} {i : Int} (s : SqL K H p (ns.map V.int)) (h0 : i < 0) (h1 : 0 ≤ ns.length + i) (h : Q (.int (ns.getD (ns.length + i).toNat 0)) H) : rIxL K (.ref p) (.int i) H Q :=
  ⟨p, _, i, _, rfl, rfl, s, atI_neg h0 h1, h⟩
end
section
variable {K : PySem.W.Frag} {σ : L2.St} {H : Hp} {Q : VK}
theorem g_sl {r : V → Option Int → Option Int → Hp → VK → Prop} {te : TE} {tl th : TO} (h : te σ H fun x H1 => tl σ H1 fun l H2 => th σ H2 fun u H3 => r x l u H3 Q) : tSl r te tl th σ H Q := h
theorem g_noPart {R : Option Int → Hp → Prop} (h : R none H) : tNoPart σ H R := h
theorem g_part {t : TE} {R : Option Int → Hp → Prop} (h : t σ H fun x H1 => ∃ i, x = .int i ∧ R (some i) H1) : tPart t σ H R := h
theorem g_partI {i : Int} {R : Int → Prop} (h : R i) : ∃ j, V.int i = .int j ∧ R j := ⟨i, rfl, h⟩
/-- xs[:-1] of ints -/
theorem cut_init {ns : List Int} {x : Int} : cutV ((ns ++ [x]).map V.int) none (some (-1)) = ns.map V.int := by
  have e0 : ((ns ++ [x]).map V.int).length = ns.length + 1 := by simp
  have e1 : HT.sIx (ns.length + 1) (ns.length + 1) (some (-1)) = ns.length := by
    show (if (-1 : Int) < 0 then ((-1 : Int) + ((ns.length + 1 : Nat) : Int)).toNat else min (-1 : Int).toNat (ns.length + 1)) = _
    rw [if_pos (by decide)]
    omega
  unfold cutV
  rw [e0, e1]
  show List.take (ns.length - 0) ((ns ++ [x]).map V.int) = ns.map V.int
  rw [Nat.sub_zero, List.map_append, List.take_append_of_le_length (by simp), List.take_of_length_le (by simp)]
theorem g_slInit {p : Addr} {ns : List Int} {x : Int} (s : SqL K H p ((ns ++ [x]).map V.int)) (h : ∀ q, H q = none → Q (.ref q) (upd H q (ilst ns))) : rSlL K (.ref p) none (some (-1)) H Q :=
  ⟨p, _, rfl, s, fun q nq => by rw [cut_init]; exact h q nq⟩
/-- xs + ys of ints -/
theorem g_catI {p q : Addr} {ns ms : List Int} (e1 : H p = some (ilst ns)) (e2 : H q = some (ilst ms)) (hl : ns.length + ms.length ≤ 100000) (h : ∀ c, H c = none → Q (.ref c) (upd H c (ilst (ns ++ ms)))) : rCat (.ref p) (.ref q) H Q :=
  ⟨p, q, _, _, rfl, rfl, e1, e2, by rw [List.length_map, List.length_map]; exact Nat.le_trans hl (by decide), fun c nc => by
    have z := h c nc
    rw [ilst, List.map_append] at z
    exact z⟩
end
section
variable {K : PySem.W.Frag} {H : Hp} {Q : VK}
theorem isi_ii {i : Int} (h : Q (.bl true) H) : rIsi K [.int i, .ty "int"] H Q := isi_int (b := true) (by decide +kernel) h
theorem isi_ib {i : Int} (h : Q (.bl false) H) : rIsi K [.int i, .ty "bool"] H Q := isi_int (b := false) (by decide +kernel) h
theorem isi_ll {p : Addr} {xs : List V} (s : H p = some (.lst xs)) (h : Q (.bl true) H) : rIsi K [.ref p, .ty "list"] H Q := isi_lst (b := true) s (by decide +kernel) h
end
theorem ifNT {A B : Prop} (h : B) : if (!true) = true then A else B := h
theorem ifNF {A B : Prop} (h : A) : if (!false) = true then A else B := h
/-- the item ahead of place t, around -/
theorem g_ixLast {K : PySem.W.Frag} {H : Hp} {Q : VK} {p : Addr} {ns : List Int} {t : Int} (s : SqL K H p (ns.map V.int)) (h0 : 0 ≤ t) (h1 : t < ns.length) (h : Q (.int (ns.getD ((t - 1) % (ns.length : Int)).toNat 0)) H) : rIxL K (.ref p) (.int (t - 1)) H Q := by
  by_cases z : t = 0
  · subst z
    refine g_ixM s (by omega) (by omega) ?_
    have e : ((0 : Int) - 1) % (ns.length : Int) = ns.length + (0 - 1) := by
      rw [← Int.add_emod_right, Int.emod_eq_of_lt (by omega) (by omega)]
      omega
    rw [e] at h
    exact h
  · refine g_ixI s (by omega) (by omega) ?_
    rw [Int.emod_eq_of_lt (by omega) (by omega)] at h
    exact h

theorem g_try1 {K : PySem.W.Frag} {c : Value} {tb : WX → TS} {ts : Addr → Value → Option Addr → TS} {Wout : WX} {D : Ends} {σ : L2.St} {H : Hp} (h : tb (wOnly K c ts Wout D) D σ H) : tTry1 K c tb ts Wout D σ H := h
theorem g_tryAs {K : PySem.W.Frag} {c : Value} {i : Nat} {tb : WX → TS} {ts : Addr → Value → Option Addr → TS} {Wout : WX} {D : Ends} {σ : L2.St} {H : Hp} (h : tb (wAs K c i ts Wout D) D σ H) : tTryAs K c i tb ts Wout D σ H := h
theorem g_tryN {K : PySem.W.Frag} {tb : WX → TS} {l : List (Value × (Addr → Value → Option Addr → TS))} {Wout : WX} {D : Ends} {σ : L2.St} {H : Hp} (h : tb (wMany K Wout D l) D σ H) : tTryN K tb l Wout D σ H := h
/-- an item of rows that stood before -/
theorem g_rowB {K : PySem.W.Frag} {B H : Hp} {Q : VK} {p : Addr} {rows : List (List Int)} {i : Int} (s : Same B H) (R : RowsAt B p rows) (h0 : 0 ≤ i) (h1 : i < rows.length) (h : ∀ r, SqL K B r ((rows.getD i.toNat []).map V.int) → Q (.ref r) H) : rIxL K (.ref p) (.int i) H Q := by
  obtain ⟨as, e1, e2, e3⟩ := R
  have hl : i.toNat < rows.length := by omega
  have ha : i.toNat < as.length := by omega
  refine ⟨p, _, i, .ref as[i.toNat], rfl, rfl, SqL.of (s _ _ e1), at_of (j := i.toNat) (by omega) ?_, h _ (SqL.of ?_)⟩
  · rw [List.getElem?_map, List.getElem?_eq_getElem ha]
    rfl
  · have q := e3 i.toNat as[i.toNat] rows[i.toNat] (List.getElem?_eq_getElem ha) (List.getElem?_eq_getElem hl)
    rw [List.getD_eq_getElem?_getD, List.getElem?_eq_getElem hl]
    exact q
theorem take_getD {α : Type} {l : List α} {j : Nat} {d : α} (h : j < l.length) : l.take (j + 1) = l.take j ++ [l.getD j d] := by
  rw [List.getD_eq_getElem?_getD, List.take_add_one, List.getElem?_eq_getElem h]
  rfl
/-- an item of a new list of rows, with its place in the ledger -/
theorem g_rowLed {K : PySem.W.Frag} {B H : Hp} {Q : VK} {D : Addr} {as : List Addr} {rows : List (List Int)} {i : Int} (led : Led B (rowLed D as rows) H) (e : as.length = rows.length) (h0 : 0 ≤ i) (h1 : i < rows.length)
    (q : ∀ r, (rowLed D as rows)[i.toNat + 1]? = some (r, ilst (rows.getD i.toNat [])) → Q (.ref r) H) : rIxL K (.ref D) (.int i) H Q := by
  have hl : i.toNat < rows.length := by omega
  have ha : i.toNat < as.length := by omega
  refine ⟨D, _, i, .ref as[i.toNat], rfl, rfl, SqL.of (led.get 0 rfl), at_of (j := i.toNat) (by omega) ?_, q _ ?_⟩
  · rw [List.getElem?_map, List.getElem?_eq_getElem ha]
    rfl
  · rw [List.getD_eq_getElem?_getD, List.getElem?_eq_getElem hl]
    exact zip_at (List.getElem?_eq_getElem ha) (List.getElem?_eq_getElem hl)
theorem Led.rebaseN {B H H' : Hp} {L : List (Addr × HO)} (h : Led B L H) (s : Same H H') : ∃ B', Same B B' ∧ Led B' L H' ∧ ∀ p o, H' p = some o → H p = none → B' p = some o := by
  obtain ⟨B', s1, l1, k⟩ := (h.ext s).rebase
  exact ⟨B', s1, l1, fun p o e n => k p o e (h.out n)⟩
theorem NewRows.into {H H' B : Hp} {q : Addr} {rows : List (List Int)} (n : NewRows H H' q rows) (k : ∀ p o, H' p = some o → H p = none → B p = some o) : RowsAt B q rows := by
  obtain ⟨as, e1, e0, e2, e3⟩ := n
  exact ⟨as, k _ _ e1 e0, e2, fun i r row h1 h2 => k _ _ (e3 i r row h1 h2).1 (e3 i r row h1 h2).2⟩
theorem NewB.into {C : Addr} {H H' B : Hp} {b dx r t l s : Addr} {rows : List (List Int)} {turns loads steps : List Int} {taken : Int} (n : NewB C H H' b dx r t l s rows turns loads steps taken) (k : ∀ p o, H' p = some o → H p = none → B p = some o) : BdAt C B b dx r t l s rows turns loads steps taken := by
  obtain ⟨B1, s1, nr, l1⟩ := n
  have f : ∀ x, x ∈ (bl C b dx r t l s turns loads steps taken).map Prod.fst → H x = none := fun x hx => s1.free (l1.new x hx)
  exact ⟨k _ _ (l1.get 0 rfl) (f _ (by simp)), (nr.mono l1.same).into k, k _ _ (l1.get 1 rfl) (f _ (by simp)), k _ _ (l1.get 2 rfl) (f _ (by simp)), k _ _ (l1.get 3 rfl) (f _ (by simp))⟩
theorem isi_bb {K : PySem.W.Frag} {H : Hp} {Q : VK} {i : Bool} (h : Q (.bl true) H) : rIsi K [.bl i, .ty "bool"] H Q := isi_bl (b := true) (by decide +kernel) h
theorem g_eqB1 {H : Hp} {Q : VK} {i j : Bool} (e : i = j) (h : Q (.bl true) H) : rEq (.bl i) (.bl j) H Q := g_eqB (by rw [decide_eq_true e]; exact h)
/-- [[x]], just laid -/
theorem rowsOne {H : Hp} {p q : Addr} {x : Int} (np : H p = none) (nq : upd H p (.lst [V.int x]) q = none) : NewRows H (upd (upd H p (.lst [V.int x])) q (.lst [V.ref p])) q [[x]] := by
  have ne : q ≠ p := fun z => by
    subst z
    rw [upd_same] at nq
    cases nq
  refine ⟨[p], upd_same, (same_upd (o := .lst [V.int x]) np).free nq, rfl, fun i r row h1 h2 => ?_⟩
  cases i with
  | zero =>
    cases h1
    cases h2
    exact ⟨by rw [upd_ne ne.symm]; exact upd_same, np⟩
  | succ i => simp at h1
theorem Led.back {B B' H : Hp} {L : List (Addr × HO)} (h : Led B' L H) (s : Same B B') : Led B L H := ⟨s.trans h.same, h.at_, h.nd, fun p hp => s.free (h.new p hp)⟩
theorem g_notNn {H : Hp} {Q : VK} (h : Q (.bl false) H) : rNotN .non .non H Q := ⟨rfl, h⟩
theorem g_notNi {H : Hp} {Q : VK} {i : Int} (h : Q (.bl true) H) : rNotN (.int i) .non H Q := ⟨rfl, h⟩
theorem g_isNn {H : Hp} {Q : VK} (h : Q (.bl true) H) : rIsN .non .non H Q := ⟨rfl, h⟩
theorem g_isNi {H : Hp} {Q : VK} {i : Int} (h : Q (.bl false) H) : rIsN (.int i) .non H Q := ⟨rfl, h⟩
/-- isinstance(board, Board) -/
structure BdIs (K : PySem.W.Frag) (G : Ads) : Prop where
  ha : PySem.W.findIn K (.ref G.Board) "__class__" = some (some (.builtin "object.__class__"))
  hn : PySem.W.specialIn K (.builtin "object.__class__") "__get__" = some (some (.builtin "getset_descriptor.__get__"))
  ht : PySem.W.takesIn K (.builtin "object.__class__") = some true
  hm : PySem.W.mroIn K G.Board (.type "object") = some true
  ki : PySem.W.kitOne K (.ref G.Board) (.ref G.Board) = some true
theorem isi_board {K : PySem.W.Frag} {G : Ads} {H : Hp} {Q : VK} {b dx : Addr} {fs : List (Str × V)} (bi : BdIs K G) (bd : BdOk K G) (e : H b = some (.ins G.Board dx fs)) (h : Q (.bl true) H) : rIsi K [.ref b, .ref G.Board] H Q :=
  ⟨.ref b, .ref G.Board, .ref G.Board, .ref G.Board, true, rfl, .own _, .base (.ins e bd.cl bi.ha bi.hn bi.ht bi.hm), bi.ki, h⟩
/-- an item of any list -/
theorem g_ixV {K : PySem.W.Frag} {H : Hp} {Q : VK} {p : Addr} {xs : List V} {i : Int} {v : V} (s : SqL K H p xs) (h0 : 0 ≤ i) (e : xs[i.toNat]? = some v) (h : Q v H) : rIxL K (.ref p) (.int i) H Q :=
  ⟨p, _, i, _, rfl, rfl, s, at_of (j := i.toNat) (by omega) e, h⟩

/-! methods and makings inside a try body; isinstance of a caught error -/
section
variable {X : Cx} {CX : CXT} {k : Nat} {f C : Addr} {fd : FuncData} {ps : List Str} {sp : Sp} {E : L2.St → XK} {x m : Str} {p pos apos : Pos} {e o : Expr} {es : List Expr} {ta : TE} {t : TA}
theorem pe_methT {pl : Sem Bool} (he : PE X o ta) (c : Cls X.K C) (hm : Meth X.K C m f) (F : FnOk X.prog X.w X.K X.mg X.base CX k f fd ps sp) (hr : Room k X.A) (hb : Binds X.K fd ps []) (hx : ∀ σ, PassesAt CX X σ (E σ)) (ha : PA X (e :: es) t)
    (hst : starEach (e :: es) X.env = (false, eval e X.env) :: starEach es X.env := by rfl) (hpl : (backTo pos (starEach es X.env)).any (·.1) = false := by rfl)
    (ht : eval (.Call (.Attribute o m apos) (e :: es) [] pos) X.env = (do
      let ov ← eval o X.env
      standAt apos.atName
      let (f, first) ← holding [ov] (getMethod ov m pl)
      callWith pos f first (backTo pos (starEach (e :: es) X.env)) (backToKw pos (keywordEach [] X.env))) := by rfl) :
    PE X (.Call (.Attribute o m apos) (e :: es) [] pos) (tMethT C m sp E ta t) := by
  refine ⟨fun pins s σ H Q I h => ?_⟩
  refine PySem.W.methodCall_KW (pl := pl) (thn (he.run pins s σ H _ I h) fun u s1 ⟨x, H1, I1, rx, a, dx, fs, ex, ea, l, q⟩ => ?_) ht
  subst ex
  obtain rfl : u = Value.ref a := rx
  refine getmeth_ok I1 ea c hm l ?_
  refine PySem.W.callWith_K (first := [.ref a]) (h₀ := X.base) I.ok.mod.kin hm.kp (thn (ha.run pos pins s1 σ H1 _ I1 q) fun us s2 ⟨vs, H2, I2, r, q2⟩ => ⟨I2.kIn, ?_⟩) hst hpl
  exact run_fnS (us := .ref a :: us) (vs := .ref a :: vs) F hr hb (hx σ) I2 (.cons rfl r) q2
theorem run_makeS {pins : List (Addr × Obj)} {σ : L2.St} {H : Hp} {s : Shared} {Q : VK} {us : List Value} {vs : List V} (M : Mk X.K C f) (F : FnOk X.prog X.w X.K X.mg X.base CX k f fd ps sp) (hr : Room (k + 1) X.A) (hb : Binds X.K fd ps [])
    (hx : PassesAt CX X σ (E σ)) (I : Inv X pins σ H s) (r : Vals vs us)
    (h : ∀ x dx, H x = none → H dx = none → dx ≠ x → sp (.ref x :: vs) (upd (upd H dx (.own x)) x (.ins C dx [])) (fun v H2 => v = .non ∧ Q (.ref x) H2) (E σ)) :
    wpAny (model X.prog X.w) X.A (call (.ref C) us) (EP X pins σ Q) X.xe s := by
  have hq := h (s.heap.objs.size + 1) s.heap.objs.size (I.hok.fresh (Nat.le_succ _)) (I.hok.fresh (Nat.le_refl _)) (Nat.ne_of_lt (Nat.lt_succ_self _))
  have I2 := Inv.made (C := C) I
  have r2 : Vals (V.ref (s.heap.objs.size + 1) :: vs) (Value.ref (s.heap.objs.size + 1) :: us) := .cons rfl r
  have hl : (Value.ref (s.heap.objs.size + 1) :: us).length = ps.length := by
    have e := r2.length
    rw [F.len _ _ _ _ hq] at e
    exact e.symm
  have b := hb { s with heap := _ } (Value.ref (s.heap.objs.size + 1) :: us) I2.kIn (by rw [List.append_nil]; exact hl)
  rw [List.append_nil] at b
  refine wpAny_call (make_map (f := f) I.kIn M.makes M.init (beq_iff_eq.mp M.fn) (codeAny_mono (F.run _ X.stack _ _ ⟨Value.ref (s.heap.objs.size + 1) :: us, []⟩ (Value.ref (s.heap.objs.size + 1) :: us) _ _ (E σ) (hr.make C us [])
    (I2.env0.make C us []) b r2 hq) fun r s' hq' => ?_))
  cases r with
  | error e => exact hx pins _ _ e s' I2 hq'
  | ok fl =>
    cases fl with
    | ret u =>
      obtain ⟨v, H', I3, rv, ev, q3⟩ := I2.after hq'
      subst ev
      exact ⟨rv, ⟨V.ref (s.heap.objs.size + 1), H', I3, rfl, q3⟩⟩
    | next => exact False.elim hq'
    | brk => exact False.elim hq'
    | cont => exact False.elim hq'
theorem pe_makeT (M : Mk X.K C f) (F : FnOk X.prog X.w X.K X.mg X.base CX k f fd ps sp) (hr : Room (k + 1) X.A) (hg : Gl X x) (hm : X.mg x = some (.ref C)) (hb : Binds X.K fd ps []) (hx : ∀ σ, PassesAt CX X σ (E σ))
    (ha : PA X (e :: es) t) (hdb : (x == ("__debug__" : Str)) = false := by decide) (he : starEach (e :: es) X.env = (false, eval e X.env) :: starEach es X.env := by rfl) (hpl : (backTo pos (starEach es X.env)).any (·.1) = false := by rfl) :
    PE X (.Call (.Name x p) (e :: es) [] pos) (tMakeT C sp E t) := by
  refine ⟨fun pins s σ H Q I h => ?_⟩
  refine wpAny_Call_Name_kw (ld_glob I hg hm ?_ hdb)
  refine PySem.W.callWith_K (h₀ := X.base) I.ok.mod.kin M.kp (thn (ha.run pos pins s σ H _ I h) fun us s1 ⟨vs, H1, I1, r, q⟩ => ⟨I1.kIn, ?_⟩) he hpl
  exact run_makeS M F hr hb (hx σ) I1 r q
end
def rIsX (K : PySem.W.Frag) (a : Addr) (cls : Value) (d : Option Addr) : List V → Hp → VK → Prop := fun xs H Q => ∃ D, cls = .ref D ∧ d = none ∧ ExcC K D ∧ rIsE K D a xs H Q
theorem call_isX {X : Cx} {a : Addr} {cls : Value} {d : Option Addr} {oe : Obj} {pn : List (Addr × Obj)} (hz : Zc cls d oe) (hf : ∃ vs, oe.data = .fields vs) : CallR (X.suite a ((a, oe) :: pn)) (.builtin "isinstance") (rIsX X.K a cls d) := by
  intro pins s σ H xs us Q I r h
  obtain ⟨D, rfl, rfl, C, h⟩ := h
  exact call_isE C hz hf pins s σ H xs us Q I r h
/-- isinstance of the caught error of class D -/
theorem g_isX {K : PySem.W.Frag} {a D c : Addr} {b : Bool} {H : Hp} {Q : VK} (C : ExcC K D) (e : PySem.W.kitOne K (.ref D) (.ref c) = some b) (q : Q (.bl b) H) : rIsX K a (.ref D) none [.ref a, .ref c] H Q :=
  ⟨D, rfl, rfl, C, .ref c, .ref c, b, rfl, fun _ h => h, e, q⟩
theorem g_isXt {K : PySem.W.Frag} {a D : Addr} {c : String} {b : Bool} {H : Hp} {Q : VK} (C : ExcC K D) (e : PySem.W.kitOne K (.ref D) (.type c) = some b) (q : Q (.bl b) H) : rIsX K a (.ref D) none [.ref a, .ty c] H Q :=
  ⟨D, rfl, rfl, C, .ty c, .type c, b, rfl, fun _ h => h, e, q⟩

local macro_rules | `(tactic| walk_at "sq") => `(tactic| first | assumption | exact SqL.of (by assumption) | exact Led.base (by assumption) (by assumption) | exact Led.sq (by assumption) 0 rfl | exact Led.sq (by assumption) 1 rfl | exact Led.sq (by assumption) 2 rfl | exact Led.sq (by assumption) 3 rfl | exact Led.sq (by assumption) 4 rfl | exact Led.sq (by assumption) 5 rfl | exact Led.sq (by assumption) 6 rfl | exact Led.sq (by assumption) 7 rfl | exact Led.sq (by assumption) 8 rfl | exact Led.sq (by assumption) 9 rfl)
local macro_rules | `(tactic| walk_at "ar") => `(tactic| first | omega | assumption | ((with_reducible show (0 : Int) ≤ (_ : Int) % (_ : Int)); exact Int.emod_nonneg _ (by omega)) | ((with_reducible show (_ : Int) % (_ : Int) < (_ : Int)); exact Int.emod_lt_of_pos _ (by omega)) | decide)
local macro_rules | `(tactic| walk_at "g1") => `(tactic| with_reducible first | refine g_seq ?_ | refine g_asg ?_ | refine g_name ?_ | refine g_c ?_ | refine g_op ?_ | refine g_un ?_ | refine g_call ?_ | refine g_cons ?_ | refine g_nil ?_ | refine g_I0 ?_ | refine g_tTest ?_ | refine g_tB ?_ | refine g_bl ?_ | refine g_blV ?_ | refine g_and ?_ | refine g_or ?_ | refine g_not ?_ | refine g_andV ?_ | refine g_orV ?_ | refine g_notV ?_ | refine g_ifE ?_ | refine g_ifS ?_ | refine g_next ?_ | refine g_ret ?_ | refine g_retN ?_ | refine g_drop ?_ | refine g_raise ?_ | refine g_cb ?_ | refine g_lst ?_ | refine g_tFld ?_ | refine g_for1 ?_ | refine g_for2 ?_ | refine g_forL ?_ | refine g_lc1 ?_ | refine g_lcL ?_ | refine g_lcV ?_ | refine g_yes ?_ | refine g_make ?_ | refine g_meth ?_ | refine g_methT ?_ | refine g_makeT ?_ | refine g_callS ?_ | refine g_sfld ?_ | refine g_sub ?_ | refine g_bm ?_ | refine g_try1 ?_ | refine g_tryAs ?_ | refine g_tryN ?_ | refine g_sl ?_ | refine g_noPart ?_ | refine g_part ?_ | refine g_partI ?_ | refine g_eqI ?_ | refine g_neI ?_ | refine g_eqB ?_ | refine g_neB ?_ | refine g_eqS ?_ | refine g_neS ?_ | refine g_U ?_ | refine g_notNn ?_ | refine g_notNi ?_ | refine g_isNn ?_ | refine g_isNi ?_)
local macro_rules | `(tactic| walk_at "ra") => `(tactic| first | assumption | exact Led.ra (by assumption) (by assumption) | exact NewRows.at_ (by assumption))
local macro_rules | `(tactic| walk_at "gif") => `(tactic| ((with_reducible show @ite _ _ _ _ _); first | refine iteT ?_ | refine iteF ?_ | refine ifNT ?_ | refine ifNF ?_ | ((with_reducible show @ite _ (@decide _ _ = true) _ _ _); first | refine ifPt (by walk_at "ar") ?_ | refine ifPf (by walk_at "ar") ?_) | refine ifNt (by walk_at "ar") ?_ | refine ifNf (by walk_at "ar") ?_))
local macro_rules | `(tactic| walk_at "g2") => `(tactic| with_reducible first | ((show Exists _); first | refine g_rng1 (by walk_at "ar") (by walk_at "ar") ?_ | refine g_rng2 (by walk_at "ar") (by walk_at "ar") (by walk_at "ar") (by walk_at "ar") ?_ | refine g_lstwR (by walk_at "ra") ?_ | refine g_lstw (by walk_at "sq") ?_) | ((show mLen _ _ _ _); first | refine g_lenR (by walk_at "ra") ?_ | refine g_lenI (by walk_at "sq") ?_ | refine g_len (by walk_at "sq") ?_) | ((show rIxL _ _ _ _ _); refine g_ixI (by walk_at "sq") (by walk_at "ar") (by walk_at "ar") ?_) | ((show mMod _ _ _ _); refine g_mod (by walk_at "ar") ?_) | ((show mFdiv _ _ _ _); refine g_fdiv (by walk_at "ar") (by walk_at "ar") ?_) | ((show mMul _ _ _ _); first | refine g_mulL (by walk_at "ar") ?_ | refine g_mulR (by walk_at "ar") ?_) | ((show And _ _); refine g_ty (by walk_at "sq") ?_) | ((show rSum _ _ _ _); refine g_sum (by walk_at "sq") ?_) | refine isi_ii ?_ | refine isi_ib ?_ | refine isi_bb ?_ | walk_at "gif")
local macro_rules | `(tactic| walk_at "g") => `(tactic| repeat (first | walk_at "g1" | ((with_reducible show tVar _ _ _ _); refine g_var rfl ?_) | walk_at "g2"))
local macro_rules | `(tactic| walk_at "row") => `(tactic| with_reducible refine g_row (by walk_at "ra") (by walk_at "ar") (by walk_at "ar") ?_)
/-! The rows that a law draws: what is known of them -/
def other (g many : Int) : Int := if g < 0 then g else many - 1 - g
def flipRows (rows : List (List Int)) : List (List Int) := (rows.map (fun row => row.map (fun g => other g rows.length))).reverse
/-- how many exits of a row, the k-th, do not lead downwards -/
def ups (k : Nat) (row : List Int) : Nat := row.countP (fun g => decide ((k : Int) ≤ g))
def upsFrom : Nat → List (List Int) → Nat
  | _, [] => 0
  | k, row :: r => ups k row + upsFrom (k + 1) r
def Down (rows : List (List Int)) : Prop := ∀ k : Nat, k < rows.length → ∃ g, g ∈ rows.getD k [] ∧ g < k
def K0 (rows : List (List Int)) : Prop := OkRows rows ∧ Down rows ∧ ((rows.length ≤ 4 ∧ ∀ row, row ∈ rows → row.length ≤ 3) ∨ upsFrom 0 rows ≤ 3)
def Shape (rows : List (List Int)) : Prop := ∃ r0, K0 r0 ∧ (rows = r0 ∨ rows = flipRows r0)
theorem flip_length (rows : List (List Int)) : (flipRows rows).length = rows.length := by simp [flipRows]
theorem other_range {g many : Int} (h1 : -1 ≤ g) (h2 : g < many) : -1 ≤ other g many ∧ other g many < many := by
  unfold other
  split <;> omega
theorem other_other {g many : Int} (h2 : g < many) : other (other g many) many = g := by
  by_cases h : g < 0
  · simp only [other, h, if_true]
  · have q : ¬ (many - 1 - g < 0) := by omega
    simp only [other, h, q, if_false]
    omega
theorem flip_at {rows : List (List Int)} {k : Nat} (hk : k < rows.length) : (flipRows rows).getD k [] = (rows.getD (rows.length - 1 - k) []).map (fun g => other g rows.length) := by
  unfold flipRows
  have h1 : k < (rows.map (fun row => row.map (fun g => other g rows.length))).length := by simpa using hk
  have h2 : rows.length - 1 - k < rows.length := by omega
  rw [List.getD_eq_getElem?_getD, List.getElem?_reverse h1, List.length_map, List.getElem?_map, List.getElem?_eq_getElem h2, List.getD_eq_getElem?_getD, List.getElem?_eq_getElem h2]
  rfl
theorem rows_ext {r1 r2 : List (List Int)} (hl : r1.length = r2.length) (h : ∀ k, k < r1.length → r1.getD k [] = r2.getD k []) : r1 = r2 := by
  apply List.ext_getElem hl
  intro k h1 h2
  have q := h k h1
  rw [List.getD_eq_getElem?_getD, List.getD_eq_getElem?_getD, List.getElem?_eq_getElem h1, List.getElem?_eq_getElem h2] at q
  exact q
theorem flip_flip {rows : List (List Int)} (h : ∀ row, row ∈ rows → ∀ g, g ∈ row → g < rows.length) : flipRows (flipRows rows) = rows := by
  refine rows_ext (by rw [flip_length, flip_length]) fun k hk => ?_
  rw [flip_length, flip_length] at hk
  rw [flip_at (by rw [flip_length]; exact hk), flip_length, flip_at (by omega), List.map_map]
  have e : rows.length - 1 - (rows.length - 1 - k) = k := by omega
  rw [e]
  refine (List.map_congr_left fun g hg => ?_).trans (List.map_id _)
  exact other_other (h _ (getD_mem hk) g hg)
theorem flip_ok {rows : List (List Int)} (h : OkRows rows) : OkRows (flipRows rows) := by
  refine ⟨by rw [flip_length]; exact h.1, by rw [flip_length]; exact h.2.1, fun row hr => ?_⟩
  rw [flip_length]
  unfold flipRows at hr
  rw [List.mem_reverse] at hr
  obtain ⟨row', hm, rfl⟩ := List.mem_map.mp hr
  obtain ⟨h1, h2, h3⟩ := h.2.2 row' hm
  refine ⟨by rw [List.length_map]; exact h1, by rw [List.length_map]; exact h2, fun g hg => ?_⟩
  obtain ⟨g', hg', rfl⟩ := List.mem_map.mp hg
  exact other_range (h3 g' hg').1 (h3 g' hg').2
theorem Shape.ok {rows : List (List Int)} (h : Shape rows) : OkRows rows := by
  obtain ⟨r0, h, rfl | rfl⟩ := h
  · exact h.1
  · exact flip_ok h.1
theorem upsFrom_append : ∀ (k : Nat) (a b : List (List Int)), upsFrom k (a ++ b) = upsFrom k a + upsFrom (k + a.length) b
  | k, [], b => by simp [upsFrom]
  | k, x :: a, b => by
    show ups k x + upsFrom (k + 1) (a ++ b) = ups k x + upsFrom (k + 1) a + upsFrom (k + (a.length + 1)) b
    rw [upsFrom_append (k + 1) a b, Nat.add_assoc, Nat.add_assoc, Nat.add_comm 1 a.length]
theorem upsFrom_set : ∀ (k : Nat) (a : List (List Int)) (i : Nat) (row : List Int), i < a.length → upsFrom k (a.set i row) + ups (k + i) (a.getD i []) = upsFrom k a + ups (k + i) row
  | k, [], i, row, h => by simp at h
  | k, x :: a, 0, row, h => by
    show ups k row + upsFrom (k + 1) a + ups (k + 0) x = ups k x + upsFrom (k + 1) a + ups (k + 0) row
    simp only [Nat.add_zero]
    omega
  | k, x :: a, i + 1, row, h => by
    have ih := upsFrom_set (k + 1) a i row (by simpa using h)
    show ups k x + upsFrom (k + 1) (a.set i row) + ups (k + (i + 1)) (a.getD i []) = ups k x + upsFrom (k + 1) a + ups (k + (i + 1)) row
    have e : k + 1 + i = k + (i + 1) := by omega
    have ih2 : upsFrom (k + 1) (a.set i row) + ups (k + (i + 1)) (a.getD i []) = upsFrom (k + 1) a + ups (k + (i + 1)) row := by rw [← e]; exact ih
    rw [Nat.add_assoc, ih2, Nat.add_assoc]
theorem ups_insert {k : Nat} (row : List Int) (i : Nat) (x : Int) : ups k (row.take i ++ [x] ++ row.drop i) ≤ ups k row + 1 := by
  have e : ups k row = ups k (row.take i) + ups k (row.drop i) := by
    unfold ups
    rw [← List.countP_append, List.take_append_drop]
  unfold ups at e ⊢
  rw [List.countP_append, List.countP_append]
  have : List.countP (fun g => decide ((k : Int) ≤ g)) [x] ≤ 1 := by simpa using List.countP_le_length (p := fun g => decide ((k : Int) ≤ g)) (l := [x])
  omega
theorem ups_zero {k : Nat} {row : List Int} (h : ∀ g, g ∈ row → g < k) : ups k row = 0 := by
  unfold ups
  rw [List.countP_eq_zero]
  intro g hg
  have := h g hg
  simp
  omega

/-! More comprehensions: with a test, of truths -/
section
variable {K : PySem.W.Frag} {σ : L2.St} {H : Hp} {Q : VK} {te : TE} {tt : TT} {i : Nat} {vs : List Nat}
theorem filter_push {α : Type} {l : List α} {x : α} {b : α → Bool} {β : Type} {f : α → β} (h : b x = true) : ((l ++ [x]).filter b).map f = (l.filter b).map f ++ [f x] := by
  rw [List.filter_append, List.map_append]
  simp [h]
theorem filter_skip {α : Type} {l : List α} {x : α} {b : α → Bool} {β : Type} {f : α → β} (h : b x = false) : ((l ++ [x]).filter b).map f = (l.filter b).map f := by
  rw [List.filter_append, List.map_append]
  simp [h]
/-- [f k for k in range(n) if b k] -/
theorem lcRF {n : Nat} (b : Nat → Bool) (f : Nat → Int) (hn : n ≤ 100000) (hw : ∀ x : Int, wipe ((wipe σ vs).set i (some (.int x))) vs = wipe σ vs)
    (ht : ∀ D k ns H1 (R : Bool → Hp → Prop), k < n → Led H [(D, ilst ns)] H1 → (∀ H2, Led H [(D, ilst ns)] H2 → R (b k) H2) → tt ((wipe σ vs).set i (some (.int (0 + k)))) H1 R)
    (he : ∀ D k ns H1 (R : VK), k < n → Led H [(D, ilst ns)] H1 → (∀ H2, Led H [(D, ilst ns)] H2 → R (.int (f k)) H2) → te ((wipe σ vs).set i (some (.int (0 + k)))) H1 R)
    (hd : ∀ D H1, H D = none → Same H H1 → H1 D = some (ilst (((List.range n).filter b).map f)) → Q (.ref D) H1) : LcR 0 n i tt te vs σ H Q := by
  refine lcRT (fun D k H1 => Led H [(D, ilst (((List.range k).filter b).map f))] H1) (fun D nD => (Led.nil H).alloc nD _) hw (fun D k H1 nD hk l1 => ?_) (fun D H1 nD l1 => hd D H1 nD l1.same (l1.get 0 rfl))
  refine ht D k _ H1 _ hk l1 fun H2 l2 => ?_
  cases hb : b k with
  | false =>
    refine iteF ?_
    show Led H [(D, ilst (((List.range (k + 1)).filter b).map f))] H2
    rw [List.range_succ, filter_skip hb]
    exact l2
  | true =>
    refine iteT ?_
    refine he D k _ H2 _ hk l2 fun H3 l3 => ?_
    refine ⟨_, l3.get 0 rfl, ?_, ?_⟩
    · have h1 := List.length_filter_le b (List.range k)
      rw [List.length_range] at h1
      rw [List.length_map, List.length_map]
      exact Nat.lt_of_lt_of_le (show _ < 100000 by omega) (by decide)
    · show Led H [(D, ilst (((List.range (k + 1)).filter b).map f))] _
      rw [List.range_succ, filter_push hb]
      exact ints_push l3
/-- [f x for x in xs if b x], xs ints -/
theorem lcLF {a : Addr} {xs : List Int} (b : Int → Bool) (f : Int → Int) (hn : xs.length ≤ 100000) (s : SqL K H a (xs.map V.int)) (hw : ∀ x : V, wipe ((wipe σ vs).set i (some x)) vs = wipe σ vs)
    (ht : ∀ D x ns H1 (R : Bool → Hp → Prop), x ∈ xs → Led H [(D, ilst ns)] H1 → (∀ H2, Led H [(D, ilst ns)] H2 → R (b x) H2) → tt ((wipe σ vs).set i (some (.int x))) H1 R)
    (he : ∀ D x ns H1 (R : VK), x ∈ xs → Led H [(D, ilst ns)] H1 → (∀ H2, Led H [(D, ilst ns)] H2 → R (.int (f x)) H2) → te ((wipe σ vs).set i (some (.int x))) H1 R)
    (hd : ∀ D H1, H D = none → Same H H1 → H1 D = some (ilst ((xs.filter b).map f)) → Q (.ref D) H1) : LcL K a i tt te vs σ H Q := by
  intro D nD
  refine lc_list (xs := xs.map V.int) (g := gName i) (fun k H1 => Led H [(D, ilst (((xs.take k).filter b).map f))] H1) ((Led.nil H).alloc nD _) (fun k H1 hk l1 => l1.base s) (fun k x H1 hx l1 => ⟨hw _, ?_⟩) (fun H1 l1 => hd D H1 nD l1.same (by
    have z := l1.get 0 rfl
    rw [List.length_map, List.take_length] at z
    exact z))
  have hk : k < xs.length := by
    have := (List.getElem?_eq_some_iff.mp hx).1
    simpa using this
  rw [List.getElem?_map, List.getElem?_eq_getElem hk] at hx
  cases hx
  have e : xs.take (k + 1) = xs.take k ++ [xs[k]] := by rw [List.take_add_one, List.getElem?_eq_getElem hk]; rfl
  refine ht D _ _ H1 _ (List.getElem_mem hk) l1 fun H2 l2 => ?_
  cases hb : b xs[k] with
  | false =>
    refine iteF ?_
    show Led H [(D, ilst (((xs.take (k + 1)).filter b).map f))] H2
    rw [e, filter_skip hb]
    exact l2
  | true =>
    refine iteT ?_
    refine he D _ _ H2 _ (List.getElem_mem hk) l2 fun H3 l3 => ?_
    refine ⟨_, l3.get 0 rfl, ?_, ?_⟩
    · have h1 := List.length_filter_le b (xs.take k)
      rw [List.length_take] at h1
      rw [List.length_map, List.length_map]
      exact Nat.lt_of_lt_of_le (show _ < 100000 by omega) (by decide)
    · show Led H [(D, ilst (((xs.take (k + 1)).filter b).map f))] _
      rw [e, filter_push hb]
      exact ints_push l3
theorem bls_push {H2 : Hp} {D : Addr} {ns : List Bool} {x : Bool} (h : Led H [(D, blst ns)] H2) : Led H [(D, blst (ns ++ [x]))] (upd H2 D (.lst (ns.map V.bl ++ [V.bl x]))) := by
  have z := h.set (i := 0) rfl (.lst (ns.map V.bl ++ [V.bl x]))
  have e2 : blst (ns ++ [x]) = .lst (ns.map V.bl ++ [V.bl x]) := by rw [blst, List.map_append]; rfl
  rw [e2]
  exact z
/-- [f k for k in range(n)], truths -/
theorem lcRB {n : Nat} (f : Nat → Bool) (hn : n ≤ 100000) (hw : ∀ x : Int, wipe ((wipe σ vs).set i (some (.int x))) vs = wipe σ vs)
    (he : ∀ D k ns H1 (R : VK), k < n → Led H [(D, blst ns)] H1 → (∀ H2, Led H [(D, blst ns)] H2 → R (.bl (f k)) H2) → te ((wipe σ vs).set i (some (.int (0 + k)))) H1 R)
    (hd : ∀ D H1, H D = none → Same H H1 → H1 D = some (blst ((List.range n).map f)) → Q (.ref D) H1) : LcR 0 n i tYes te vs σ H Q := by
  refine lcR (fun D k H1 => Led H [(D, blst ((List.range k).map f))] H1) (fun D nD => (Led.nil H).alloc nD _) hw (fun D k H1 nD hk l1 => ?_) (fun D H1 nD l1 => hd D H1 nD l1.same (l1.get 0 rfl))
  refine he D k _ H1 _ hk l1 fun H2 l2 => ⟨_, l2.get 0 rfl, ?_, ?_⟩
  · rw [List.length_map, List.length_map, List.length_range]
    exact Nat.lt_of_lt_of_le (show _ < 100000 by omega) (by decide)
  · show Led H [(D, blst ((List.range (k + 1)).map f))] _
    rw [List.range_succ, List.map_append]
    exact bls_push l2
/-- one and the same value for each item -/
theorem lcRowsV {a : Addr} {rows : List (List Int)} {v : V} (R : RowsAt H a rows) (hn : rows.length ≤ 100000) (hw : ∀ x : V, wipe ((wipe σ vs).set i (some x)) vs = wipe σ vs)
    (hd : ∀ D H1, H D = none → Same H H1 → H1 D = some (.lst (List.replicate rows.length v)) → Q (.ref D) H1) : LcL K a i tYes (tC v) vs σ H Q := by
  obtain ⟨as, e1, e2, _⟩ := R.sq (K := K)
  refine lcL (xs := as.map V.ref) (fun D k H1 => Led H [(D, .lst (List.replicate k v))] H1) (fun D nD => (Led.nil H).alloc nD _) (fun D k H1 _ l1 => l1.base e1) hw (fun D k x H1 nD hx l1 => ?_) (fun D H1 nD l1 => hd D H1 nD l1.same (by
    have z := l1.get 0 rfl
    rw [List.length_map, e2] at z
    exact z))
  have hk : k < rows.length := by
    have := (List.getElem?_eq_some_iff.mp hx).1
    rw [List.length_map, e2] at this
    exact this
  refine ⟨_, l1.get 0 rfl, ?_, ?_⟩
  · rw [List.length_replicate]
    exact Nat.lt_of_lt_of_le (show _ < 100000 by omega) (by decide)
  · have z := l1.set (i := 0) rfl (.lst (List.replicate k v ++ [v]))
    rw [← List.replicate_succ'] at z ⊢
    exact z
end
section
variable {K : PySem.W.Frag} {H : Hp} {Q : VK} {B : Hp} {L : List (Addr × HO)}
theorem g_setBl (led : Led B L H) (j : Nat) {p : Addr} {ns : List Bool} {i : Int} {x : Bool} {R : Hp → Prop} (e : L[j]? = some (p, blst ns)) (h0 : 0 ≤ i) (h1 : i < ns.length) (q : ∀ H', Led B (L.set j (p, blst (ns.set i.toNat x))) H' → R H') :
    rSetL (.ref p) (.int i) (.bl x) H R := by
  refine ⟨p, ns.map V.bl, i, i.toNat, rfl, rfl, led.get j e, ?_, ?_⟩
  · rw [List.length_map]
    exact ixN_of h0 h1
  · rw [show (ns.map V.bl).set i.toNat (V.bl x) = (ns.set i.toNat x).map V.bl from List.map_set.symm]
    exact q _ (led.set e _)
theorem g_all {p : Addr} {bs : List Bool} (s : SqL K H p (bs.map V.bl)) (h : Q (.bl (bs.all id)) H) : rAll K [.ref p] H Q := ⟨p, bs, rfl, s, h⟩
theorem g_any {p : Addr} {bs : List Bool} (s : SqL K H p (bs.map V.bl)) (h : Q (.bl (bs.any id)) H) : rAny K [.ref p] H Q := ⟨p, bs, rfl, s, h⟩
theorem inV_ints {x : Int} {ns : List Int} : inV (.int x) (ns.map V.int) = decide (x ∈ ns) := by
  unfold inV
  rw [List.any_map]
  induction ns with
  | nil => rfl
  | cons n ns ih =>
    rw [List.any_cons, ih]
    show ((n == x) || _) = _
    by_cases e : n = x
    · subst e
      simp
    · have e2 : ¬ x = n := fun z => e z.symm
      simp [e, e2]
theorem flat_ints : ∀ ns : List Int, (ns.map V.int).all flatV = true
  | [] => rfl
  | n :: ns => by
    rw [List.map_cons, List.all_cons, flat_ints ns]
    rfl
theorem g_inI {p : Addr} {ns : List Int} {x : Int} (s : SqL K H p (ns.map V.int)) (h : Q (.bl (decide (x ∈ ns))) H) : rIn K false (.int x) (.ref p) H Q :=
  ⟨p, _, rfl, .inl s, rfl, flat_ints ns, by rw [if_neg (by decide), inV_ints]; exact h⟩
theorem inV_bls {x : Bool} {ns : List Bool} : inV (.bl x) (ns.map V.bl) = decide (x ∈ ns) := by
  unfold inV
  rw [List.any_map]
  induction ns with
  | nil => rfl
  | cons n ns ih =>
    rw [List.any_cons, ih]
    show ((n == x) || _) = _
    cases n <;> cases x <;> simp
theorem flat_bls : ∀ ns : List Bool, (ns.map V.bl).all flatV = true
  | [] => rfl
  | n :: ns => by
    rw [List.map_cons, List.all_cons, flat_bls ns]
    rfl
theorem g_ninB {p : Addr} {ns : List Bool} {x : Bool} (s : SqL K H p (ns.map V.bl)) (h : Q (.bl (!decide (x ∈ ns))) H) : rIn K true (.bl x) (.ref p) H Q :=
  ⟨p, _, rfl, .inl s, rfl, flat_bls ns, by rw [if_pos rfl, inV_bls]; exact h⟩
end
theorem whileN {tt : TT} {tb : TS} {D : Ends} {σ : L2.St} {H : Hp} (W : Nat → L2.St → Hp → Prop) (m0 : Nat) (h0 : W m0 σ H)
    (hs : ∀ m σ H, W m σ H → tt σ H fun b H1 => if b = true then ∃ N : L2.St → Hp → Prop, (∀ σ' H', N σ' H' → ∃ m', m' < m ∧ W m' σ' H') ∧ tb { D with nx := N, ct := N, bk := D.nx } σ H1 else D.nx σ H1) : tWhile tt tb D σ H := ⟨W, ⟨m0, h0⟩, hs⟩
section
variable {K : PySem.W.Frag} {σ : L2.St} {H : Hp} {Q : VK} {te : TE} {tt : TT} {i : Nat} {vs : List Nat}
theorem lcLRowsL {a : Addr} {xs : List V} (P : List (List Int) → Prop) (h0 : P []) (hn : xs.length ≤ 100000) (s : SqL K H a xs) (hw : ∀ x : V, wipe ((wipe σ vs).set i (some x)) vs = wipe σ vs)
    (hs : ∀ D k v as rows H1 (R : VK), xs[k]? = some v → rows.length = k → P rows → Led H (rowLed D as rows) H1 → (∀ r row H2, P (rows ++ [row]) → Led H (rowLed D as rows ++ [(r, ilst row)]) H2 → R (.ref r) H2) → te ((wipe σ vs).set i (some v)) H1 R)
    (hd : ∀ D as rows H1, as.length = rows.length → rows.length = xs.length → P rows → Led H (rowLed D as rows) H1 → Q (.ref D) H1) : LcL K a i tYes te vs σ H Q :=
  lcL (xs := xs) (RowsUp H P) (fun D nD => RowsUp.start h0 D nD) (fun D k H1 _ ⟨as, rows, e0, e, p1, l1⟩ => l1.base s) hw
    (fun D k v H1 nD hx ⟨as, rows, e0, e, p1, l1⟩ => hs D k v as rows H1 _ hx e p1 l1 fun r row H2 p2 l2 => RowsUp.step e0 e (by have := (List.getElem?_eq_some_iff.mp hx).1; omega) p2 l2)
    (fun D H1 nD ⟨as, rows, e0, e, p1, l1⟩ => hd D as rows H1 e0 e p1 l1)
/-- each row copied, the copies in the ledger -/
theorem lcCopyL {a : Addr} {rows : List (List Int)} (R : RowsAt H a rows) (hn : rows.length ≤ 100000) (hw : ∀ x : V, wipe ((wipe σ vs).set i (some x)) vs = wipe σ vs) (hi : ∀ x : V, ((wipe σ vs).set i (some x))[i]? = some (some x))
    (hd : ∀ D as H1, as.length = rows.length → Led H (rowLed D as rows) H1 → Q (.ref D) H1) : LcL K a i tYes (tCB (mList K) (tCons (tVar i) tNil)) vs σ H Q := by
  obtain ⟨as, e1, e2, e3⟩ := R.sq (K := K)
  refine lcLRowsL (fun rs => rs = rows.take rs.length) rfl (by rw [List.length_map, e2]; exact hn) e1 hw (fun D k v bs rs H1 S hx e p l q => ?_) (fun D as' rs H1 e0 e p l => ?_)
  · obtain ⟨r, rfl, hk, hr⟩ := e3 k v hx
    refine g_cb (g_cons (g_var (hi _) (g_nil (g_list (l.base hr) fun m nm => q m (rows.getD k []) _ ?_ (l.alloc nm _)))))
    rw [List.length_append, e]
    show rs ++ [rows.getD k []] = rows.take (k + 1)
    rw [p, e, List.take_add_one, List.getD_eq_getElem?_getD, List.getElem?_eq_getElem hk]
    rfl
  · rw [List.length_map, e2] at e
    rw [e, List.take_length] at p
    subst p
    exact hd D as' H1 e0 l
end

/-! A board's state on paper, and one step of it -/
structure Sta where
  turns : List Int
  loads : List Int
  steps : List Int
  taken : Int
def exitOf (rows : List (List Int)) (turns : List Int) (k : Nat) : Int := (rows.getD k []).getD (turns.getD k 0).toNat 0
def gone (g : Int) (loads : List Int) : List Int := if g = -1 then loads else loads.set g.toNat (loads.getD g.toNat 0 + 1)
def stepS (rows : List (List Int)) (S : Sta) (k : Nat) : Sta where
  turns := S.turns.set k ((S.turns.getD k 0 + 1) % ((rows.getD k []).length : Int))
  loads := gone (exitOf rows S.turns k) (S.loads.set k (S.loads.getD k 0 - 1))
  steps := S.steps.set k (S.steps.getD k 0 + 1)
  taken := if exitOf rows S.turns k = -1 then S.taken + 1 else S.taken
/-- a state that goes with rows -/
structure SOk (rows : List (List Int)) (S : Sta) : Prop where
  tk : TurnsOk rows S.turns
  ll : S.loads.length = rows.length
  ls : S.steps.length = rows.length
theorem gone_len (g : Int) (loads : List Int) : (gone g loads).length = loads.length := by
  unfold gone
  split <;> simp
theorem TurnsOk.on {rows : List (List Int)} {turns : List Int} (h : TurnsOk rows turns) (k : Nat) {x : Int} (hx : k < rows.length → 0 ≤ x ∧ x < (rows.getD k []).length) : TurnsOk rows (turns.set k x) := by
  refine ⟨by rw [List.length_set]; exact h.1, fun j hj => ?_⟩
  by_cases hk : k < turns.length
  · rw [getD_set hk]
    by_cases e : k = j
    · subst e
      rw [if_pos rfl]
      exact hx hj
    · rw [if_neg e]
      exact h.2 j hj
  · rw [List.set_eq_of_length_le (by omega)]
    exact h.2 j hj
theorem SOk.step {rows : List (List Int)} {S : Sta} (h : SOk rows S) (ok : OkRows rows) (k : Nat) : SOk rows (stepS rows S k) where
  tk := h.tk.on k fun hk => by
    have := (ok.row hk).1
    exact ⟨Int.emod_nonneg _ (by omega), Int.emod_lt_of_pos _ (by omega)⟩
  ll := by
    show (gone _ _).length = _
    rw [gone_len, List.length_set]
    exact h.ll
  ls := by
    show (List.set _ _ _).length = _
    rw [List.length_set]
    exact h.ls
theorem exitOf_range {rows : List (List Int)} {turns : List Int} {k : Nat} (ok : OkRows rows) (tk : TurnsOk rows turns) (hk : k < rows.length) : -1 ≤ exitOf rows turns k ∧ exitOf rows turns k < rows.length := by
  have := tk.2 k hk
  exact ok.exit hk (by omega)
theorem exitOf_mem {rows : List (List Int)} {turns : List Int} {k : Nat} (tk : TurnsOk rows turns) (hk : k < rows.length) : exitOf rows turns k ∈ rows.getD k [] := by
  have := tk.2 k hk
  exact getD_mem (by omega)
/-- the same on lists with the pit's number behind -/
theorem gone_lying {g : Int} {loads : List Int} {taken : Int} (h0 : -1 ≤ g) (h1 : g < loads.length) :
    (if g = -1 then (loads ++ [taken]).set loads.length ((loads ++ [taken]).getD loads.length 0 + 1) else (loads ++ [taken]).set g.toNat ((loads ++ [taken]).getD g.toNat 0 + 1)) = gone g loads ++ [if g = -1 then taken + 1 else taken] := by
  unfold gone
  by_cases e : g = -1
  · rw [if_pos e, if_pos e, if_pos e]
    rw [List.getD_eq_getElem?_getD, List.getElem?_append_right (Nat.le_refl _), Nat.sub_self]
    rw [List.set_append_right _ _ (Nat.le_refl _), Nat.sub_self]
    rfl
  · rw [if_neg e, if_neg e, if_neg e]
    have hl : g.toNat < loads.length := by omega
    rw [List.getD_eq_getElem?_getD, List.getElem?_append_left hl, ← List.getD_eq_getElem?_getD, List.set_append_left _ _ hl]
theorem set_nonneg {xs : List Int} {k : Nat} {x : Int} (h : ∀ y, y ∈ xs → 0 ≤ y) (hx : 0 ≤ x) : ∀ y, y ∈ xs.set k x → 0 ≤ y := fun y hy => by
  rcases List.mem_or_eq_of_mem_set hy with h1 | h1
  · exact h y h1
  · rw [h1]
    exact hx
theorem getD_nonneg {xs : List Int} (h : ∀ y, y ∈ xs → 0 ≤ y) (k : Nat) : 0 ≤ xs.getD k 0 := by
  by_cases hk : k < xs.length
  · exact h _ (getD_mem hk)
  · rw [List.getD_eq_getElem?_getD, List.getElem?_eq_none (by omega)]
    exact Int.le_refl 0
theorem sum_setD {xs : List Int} {k : Nat} (hk : k < xs.length) (x : Int) : (xs.set k x).sum = xs.sum - xs.getD k 0 + x := by
  rw [List.getD_eq_getElem?_getD, List.getElem?_eq_getElem hk]
  exact sum_set (List.getElem?_eq_getElem hk)
theorem lying_getD {loads : List Int} {taken : Int} {k : Nat} (hk : k < loads.length) : (loads ++ [taken]).getD k 0 = loads.getD k 0 := by
  rw [List.getD_eq_getElem?_getD, List.getElem?_append_left hk, ← List.getD_eq_getElem?_getD]
theorem OkRows.exits {rows : List (List Int)} (ok : OkRows rows) : ∀ k : Nat, k < rows.length → ∀ g, g ∈ rows.getD k [] → -1 ≤ g ∧ g < rows.length := fun _ hk => (ok.row hk).2.2

/-! What is reached: sites from which the pit is reached in at most m goings -/
inductive Rch (rows : List (List Int)) : Nat → Nat → Prop where
  | pit {k m : Nat} : k < rows.length → (-1 : Int) ∈ rows.getD k [] → Rch rows (m + 1) k
  | via {k j m : Nat} : k < rows.length → (j : Int) ∈ rows.getD k [] → Rch rows m j → Rch rows (m + 1) k
theorem Rch.lt {rows : List (List Int)} {m k : Nat} (h : Rch rows m k) : k < rows.length := by
  cases h <;> assumption
theorem Rch.mono {rows : List (List Int)} {m k : Nat} (h : Rch rows m k) : Rch rows (m + 1) k := by
  induction h with
  | pit h1 h2 => exact .pit h1 h2
  | via h1 h2 _ ih => exact .via h1 h2 ih
theorem Rch.mono' {rows : List (List Int)} {m n k : Nat} (h : Rch rows m k) (hn : m ≤ n) : Rch rows n k := by
  induction hn with
  | refl => exact h
  | step _ ih => exact ih.mono
theorem Rch.zero {rows : List (List Int)} {k : Nat} (h : Rch rows 0 k) : False := by cases h
def Reached (rows : List (List Int)) (k : Nat) : Prop := ∃ m, Rch rows m k
def Open (rows : List (List Int)) : Prop := ∀ k, k < rows.length → Reached rows k
theorem Rch.stable {rows : List (List Int)} {m : Nat} (h : ∀ k, Rch rows (m + 1) k → Rch rows m k) {j k : Nat} (r : Rch rows j k) : Rch rows m k := by
  induction r with
  | pit h1 h2 => exact h _ (.pit h1 h2)
  | via h1 h2 _ ih => exact h _ (.via h1 h2 ih)
section
open Classical
theorem countP_strict {α : Type} {p q : α → Bool} : ∀ {l : List α}, (∀ x, p x = true → q x = true) → (∃ x, x ∈ l ∧ q x = true ∧ p x = false) → l.countP p + 1 ≤ l.countP q
  | [], _, h => by
    obtain ⟨x, hx, _⟩ := h
    simp at hx
  | a :: l, hm, h => by
    have hle : l.countP p ≤ l.countP q := List.countP_mono_left fun x _ => hm x
    rw [List.countP_cons, List.countP_cons]
    by_cases e : q a = true ∧ p a = false
    · rw [e.1, e.2]
      simp
      exact hle
    · obtain ⟨x, hx, h1, h2⟩ := h
      rcases List.mem_cons.mp hx with rfl | hx
      · exact absurd ⟨h1, h2⟩ e
      · have ih := countP_strict hm ⟨x, hx, h1, h2⟩
        have : (if p a = true then 1 else 0) ≤ (if q a = true then 1 else 0) := by
          by_cases pa : p a = true
          · rw [if_pos pa, if_pos (hm a pa)]
            exact Nat.le_refl _
          · rw [if_neg pa]
            exact Nat.zero_le _
        omega
theorem Reached.short {rows : List (List Int)} {k : Nat} (h : Reached rows k) : Rch rows rows.length k := by
  by_cases st : ∃ m, m ≤ rows.length ∧ ∀ k, Rch rows (m + 1) k → Rch rows m k
  · obtain ⟨m, hm, st⟩ := st
    obtain ⟨j, r⟩ := h
    exact (Rch.stable st r).mono' hm
  · have grow : ∀ m, m ≤ rows.length + 1 → m ≤ (List.range rows.length).countP (fun k => decide (Rch rows m k)) := by
      intro m
      induction m with
      | zero => intro _; exact Nat.zero_le _
      | succ m ih =>
        intro hm
        have h1 := ih (by omega)
        have h2 : ∃ k, Rch rows (m + 1) k ∧ ¬ Rch rows m k := by
          refine Classical.byContradiction fun n => st ⟨m, by omega, fun k r => Classical.byContradiction fun z => n ⟨k, r, z⟩⟩
        obtain ⟨k, r1, r2⟩ := h2
        have h3 := countP_strict (p := fun k => decide (Rch rows m k)) (q := fun k => decide (Rch rows (m + 1) k)) (l := List.range rows.length) (fun x hx => by
          rw [decide_eq_true_eq] at hx ⊢
          exact hx.mono) ⟨k, List.mem_range.mpr r1.lt, decide_eq_true r1, decide_eq_false r2⟩
        omega
    have h1 := grow (rows.length + 1) (Nat.le_refl _)
    have h2 := List.countP_le_length (p := fun k => decide (Rch rows (rows.length + 1) k)) (l := List.range rows.length)
    rw [List.length_range] at h2
    omega
noncomputable def reachL (rows : List (List Int)) : List Bool := (List.range rows.length).map fun k => decide (Reached rows k)
noncomputable def openB (rows : List (List Int)) : Bool := decide (Open rows)
theorem reachL_len (rows : List (List Int)) : (reachL rows).length = rows.length := by simp [reachL]
theorem reachL_get {rows : List (List Int)} {k : Nat} (h : k < rows.length) : (reachL rows).getD k false = decide (Reached rows k) := by
  unfold reachL
  rw [List.getD_eq_getElem?_getD, List.getElem?_map, List.getElem?_range h]
  rfl
theorem bools_ext {a b : List Bool} (hl : a.length = b.length) (h : ∀ i, i < a.length → a.getD i false = b.getD i false) : a = b := by
  apply List.ext_getElem hl
  intro k h1 h2
  have q := h k h1
  rw [List.getD_eq_getElem?_getD, List.getD_eq_getElem?_getD, List.getElem?_eq_getElem h1, List.getElem?_eq_getElem h2] at q
  exact q
theorem reachL_of {rows : List (List Int)} {bs : List Bool} (hl : bs.length = rows.length) (h : ∀ k, k < rows.length → (bs.getD k false = true ↔ Reached rows k)) : bs = reachL rows := by
  refine bools_ext (by rw [reachL_len]; exact hl) fun k hk => ?_
  rw [reachL_get (by omega)]
  rw [Bool.eq_iff_iff, decide_eq_true_eq]
  exact h k (by omega)
theorem reachL_all (rows : List (List Int)) : (reachL rows).all id = openB rows := by
  rw [Bool.eq_iff_iff, List.all_eq_true]
  unfold openB
  rw [decide_eq_true_eq]
  constructor
  · intro h k hk
    have z := h ((reachL rows).getD k false) (getD_mem (by rw [reachL_len]; exact hk))
    rw [reachL_get hk] at z
    exact of_decide_eq_true z
  · intro h x hx
    obtain ⟨k, hk, rfl⟩ := List.getElem_of_mem hx
    rw [reachL_len] at hk
    have z := reachL_get hk
    rw [List.getD_eq_getElem?_getD, List.getElem?_eq_getElem (by rw [reachL_len]; exact hk)] at z
    show id (reachL rows)[k] = true
    exact z.trans (decide_eq_true (h k hk))
theorem openB_true {rows : List (List Int)} (h : Open rows) : openB rows = true := decide_eq_true h
theorem openB_false {rows : List (List Int)} (h : ¬ Open rows) : openB rows = false := decide_eq_false h
theorem openB_in (rows : List (List Int)) : (!decide (false ∈ reachL rows)) = openB rows := by
  rw [← reachL_all, Bool.eq_iff_iff, List.all_eq_true]
  simp only [Bool.not_eq_true', decide_eq_false_iff_not, id]
  constructor
  · intro h x hx
    cases x with
    | true => rfl
    | false => exact absurd hx h
  · intro h hx
    have := h false hx
    cases this
end
/-- what is known within lap l (of goings), the first j sites seen to again -/
structure Lap (rows : List (List Int)) (l j : Nat) (bs : List Bool) : Prop where
  len : bs.length = rows.length
  sound : ∀ k, k < rows.length → bs.getD k false = true → Reached rows k
  done : ∀ k, Rch rows l k → bs.getD k false = true
  more : ∀ k, k < j → Rch rows (l + 1) k → bs.getD k false = true
theorem Lap.put {rows : List (List Int)} {l j k : Nat} {bs : List Bool} (h : Lap rows l j bs) (hk : k < rows.length) (hr : Reached rows k) : Lap rows l j (bs.set k true) := by
  have hb : ∀ i, bs.getD i false = true → (bs.set k true).getD i false = true := fun i hi => by
    rw [getD_set (by rw [h.len]; exact hk)]
    split
    · rfl
    · exact hi
  refine ⟨by rw [List.length_set]; exact h.len, fun i hi e => ?_, fun i r => hb i (h.done i r), fun i hi r => hb i (h.more i hi r)⟩
  rw [getD_set (by rw [h.len]; exact hk)] at e
  by_cases z : k = i
  · subst z
    exact hr
  · rw [if_neg z] at e
    exact h.sound i hi e

/-! Last exits, trees -/
def lastAt (rows : List (List Int)) (k : Nat) (t : Int) : Int := (rows.getD k []).getD ((t - 1) % ((rows.getD k []).length : Int)).toNat 0
def lastOf (rows : List (List Int)) (turns : List Int) (k : Nat) : Int := lastAt rows k (turns.getD k 0)
def lastRows (rows : List (List Int)) (turns : List Int) : List (List Int) := (List.range rows.length).map fun k => [lastOf rows turns k]
def Tree (rows : List (List Int)) (turns : List Int) : Prop := Open (lastRows rows turns)
noncomputable def treeB (rows : List (List Int)) (turns : List Int) : Bool := openB (lastRows rows turns)
theorem lastRows_len (rows : List (List Int)) (turns : List Int) : (lastRows rows turns).length = rows.length := by simp [lastRows]
theorem lastRows_get {rows : List (List Int)} {turns : List Int} {k : Nat} (h : k < rows.length) : (lastRows rows turns).getD k [] = [lastOf rows turns k] := by
  unfold lastRows
  rw [List.getD_eq_getElem?_getD, List.getElem?_map, List.getElem?_range h]
  rfl
theorem lastAt_range {rows : List (List Int)} (ok : OkRows rows) {k : Nat} (hk : k < rows.length) (t : Int) : -1 ≤ lastAt rows k t ∧ lastAt rows k t < rows.length := by
  have h1 := (ok.row hk).1
  have a := Int.emod_nonneg (t - 1) (b := ((rows.getD k []).length : Int)) (by omega)
  have b := Int.emod_lt_of_pos (t - 1) (b := ((rows.getD k []).length : Int)) (by omega)
  exact ok.exit hk (by omega)
theorem lastAt_mem {rows : List (List Int)} (ok : OkRows rows) {k : Nat} (hk : k < rows.length) (t : Int) : lastAt rows k t ∈ rows.getD k [] := by
  have h1 := (ok.row hk).1
  have a := Int.emod_nonneg (t - 1) (b := ((rows.getD k []).length : Int)) (by omega)
  have b := Int.emod_lt_of_pos (t - 1) (b := ((rows.getD k []).length : Int)) (by omega)
  exact getD_mem (by omega)
theorem lastRows_exits {rows : List (List Int)} {turns : List Int} (ok : OkRows rows) : ∀ k : Nat, k < (lastRows rows turns).length → ∀ g, g ∈ (lastRows rows turns).getD k [] → -1 ≤ g ∧ g < (lastRows rows turns).length := by
  intro k hk g hg
  rw [lastRows_len] at hk ⊢
  rw [lastRows_get hk, List.mem_singleton] at hg
  subst hg
  exact lastAt_range ok hk _
/-! ### going on by last exits -/
def nxt (rows : List (List Int)) (turns : List Int) (h : Int) : Int := if 0 ≤ h then lastOf rows turns h.toNat else h
def goOn (rows : List (List Int)) (turns : List Int) : Nat → Int → Int
  | 0, h => h
  | m + 1, h => nxt rows turns (goOn rows turns m h)
theorem goOn_front (rows : List (List Int)) (turns : List Int) : ∀ (m : Nat) (h : Int), goOn rows turns (m + 1) h = goOn rows turns m (nxt rows turns h)
  | 0, _ => rfl
  | m + 1, h => by
    show nxt rows turns (goOn rows turns (m + 1) h) = nxt rows turns (goOn rows turns m (nxt rows turns h))
    rw [goOn_front rows turns m h]
theorem goOn_neg (rows : List (List Int)) (turns : List Int) : ∀ (m : Nat) (h : Int), h < 0 → goOn rows turns m h = h
  | 0, _, _ => rfl
  | m + 1, h, hn => by
    show nxt rows turns (goOn rows turns m h) = h
    rw [goOn_neg rows turns m h hn]
    unfold nxt
    rw [if_neg (by omega)]
theorem goOn_range {rows : List (List Int)} {turns : List Int} (ok : OkRows rows) : ∀ (m : Nat) (h : Int), -1 ≤ h → h < rows.length → -1 ≤ goOn rows turns m h ∧ goOn rows turns m h < rows.length
  | 0, _, h0, h1 => ⟨h0, h1⟩
  | m + 1, h, h0, h1 => by
    obtain ⟨a, b⟩ := goOn_range (turns := turns) ok m h h0 h1
    show -1 ≤ nxt rows turns _ ∧ nxt rows turns _ < _
    unfold nxt
    split
    · exact lastAt_range ok (by omega) _
    · exact ⟨a, b⟩
theorem goOn_rch {rows : List (List Int)} {turns : List Int} (ok : OkRows rows) : ∀ (m k : Nat), k < rows.length → (goOn rows turns m k < 0 ↔ Rch (lastRows rows turns) m k)
  | 0, k, _ => ⟨fun h => by
      have h : (k : Int) < 0 := h
      omega, fun r => r.zero.elim⟩
  | m + 1, k, hk => by
    rw [goOn_front]
    have e : nxt rows turns (k : Int) = lastOf rows turns k := by
      unfold nxt
      rw [if_pos (by omega), show ((k : Int)).toNat = k by omega]
    rw [e]
    have gr := lastAt_range ok hk (turns.getD k 0)
    have gr : -1 ≤ lastOf rows turns k ∧ lastOf rows turns k < rows.length := gr
    have mem : ∀ g : Int, g ∈ (lastRows rows turns).getD k [] ↔ g = lastOf rows turns k := fun g => by rw [lastRows_get hk, List.mem_singleton]
    have kl : k < (lastRows rows turns).length := by rw [lastRows_len]; exact hk
    by_cases z : lastOf rows turns k < 0
    · rw [goOn_neg _ _ _ _ z]
      exact ⟨fun _ => .pit kl ((mem _).mpr (by omega)), fun _ => z⟩
    · have ih := goOn_rch (turns := turns) ok m (lastOf rows turns k).toNat (by omega)
      rw [show (((lastOf rows turns k).toNat : Nat) : Int) = lastOf rows turns k by omega] at ih
      rw [ih]
      constructor
      · intro r
        exact .via kl ((mem _).mpr (by omega)) r
      · intro r
        cases r with
        | pit _ h2 =>
          have := (mem _).mp h2
          omega
        | via _ h2 r =>
          have := (mem _).mp h2
          rw [← this]
          exact r
theorem tree_iff {rows : List (List Int)} {turns : List Int} (ok : OkRows rows) : Tree rows turns ↔ ∀ k : Nat, k < rows.length → goOn rows turns rows.length k < 0 := by
  constructor
  · intro h k hk
    have := (h k (by rw [lastRows_len]; exact hk)).short
    rw [lastRows_len] at this
    exact (goOn_rch ok _ k hk).mpr this
  · intro h k hk
    rw [lastRows_len] at hk
    exact ⟨_, (goOn_rch ok _ k hk).mp (h k hk)⟩
/-! ### turns given one by one -/
inductive Ro (rows : List (List Int)) (os : List (Option Int)) : Nat → Nat → Prop where
  | pit {k m : Nat} {t : Int} : k < rows.length → os.getD k none = some t → lastAt rows k t = -1 → Ro rows os (m + 1) k
  | via {k j m : Nat} {t : Int} : k < rows.length → os.getD k none = some t → lastAt rows k t = (j : Int) → Ro rows os m j → Ro rows os (m + 1) k
theorem Ro.set {rows : List (List Int)} {os : List (Option Int)} {m k i : Nat} {x : Option Int} (h : Ro rows os m k) (n : os.getD i none = none) (hi : i < os.length) : Ro rows (os.set i x) m k := by
  have keep : ∀ k t, os.getD k none = some t → (os.set i x).getD k none = some t := fun k t e => by
    rw [getD_set hi, if_neg (fun z => by rw [z] at n; rw [e] at n; cases n)]
    exact e
  induction h with
  | pit h1 h2 h3 => exact .pit h1 (keep _ _ h2) h3
  | via h1 h2 h3 _ ih => exact .via h1 (keep _ _ h2) h3 ih
theorem Ro.rch {rows : List (List Int)} {turns : List Int} {m k : Nat} (h : Ro rows (turns.map some) m k) : Rch (lastRows rows turns) m k := by
  have val : ∀ k t, (turns.map some).getD k none = some t → turns.getD k 0 = t := fun k t e => by
    rw [List.getD_eq_getElem?_getD, List.getElem?_map] at e
    rw [List.getD_eq_getElem?_getD]
    cases z : turns[k]? with
    | none => rw [z] at e; cases e
    | some y =>
      rw [z] at e
      cases e
      rfl
  induction h with
  | pit h1 h2 h3 =>
    refine .pit (by rw [lastRows_len]; exact h1) ?_
    rw [lastRows_get h1, List.mem_singleton]
    unfold lastOf
    rw [val _ _ h2, h3]
  | via h1 h2 h3 _ ih =>
    refine .via (by rw [lastRows_len]; exact h1) ?_ ih
    rw [lastRows_get h1, List.mem_singleton]
    unfold lastOf
    rw [val _ _ h2, h3]
structure TB (rows : List (List Int)) (l j : Nat) (os : List (Option Int)) : Prop where
  len : os.length = rows.length
  good : ∀ k t, k < rows.length → os.getD k none = some t → (0 ≤ t ∧ t < (rows.getD k []).length) ∧ ∃ m, Ro rows os m k
  done : ∀ k, Rch rows l k → (os.getD k none).isSome = true
  more : ∀ k, k < j → Rch rows (l + 1) k → (os.getD k none).isSome = true

/-! determinants -/
def sumN : Nat → (Nat → Int) → Int
  | 0, _ => 0
  | n + 1, f => sumN n f + f n
theorem sumN_congr {f g : Nat → Int} : ∀ n, (∀ i, i < n → f i = g i) → sumN n f = sumN n g
  | 0, _ => rfl
  | n + 1, h => by
    show sumN n f + f n = sumN n g + g n
    rw [sumN_congr n fun i hi => h i (by omega), h n (by omega)]
theorem sumN_zero {f : Nat → Int} : ∀ n, (∀ i, i < n → f i = 0) → sumN n f = 0
  | 0, _ => rfl
  | n + 1, h => by
    show sumN n f + f n = 0
    rw [sumN_zero n fun i hi => h i (by omega), h n (by omega)]
    rfl
theorem sumN_lin {f g : Nat → Int} (x : Int) : ∀ n, sumN n (fun i => x * f i + g i) = x * sumN n f + sumN n g
  | 0 => by simp [sumN]
  | n + 1 => by
    show sumN n (fun i => x * f i + g i) + (x * f n + g n) = x * (sumN n f + f n) + (sumN n g + g n)
    rw [sumN_lin x n]
    grind
theorem sumN_mul {f : Nat → Int} (x : Int) : ∀ n, sumN n (fun i => x * f i) = x * sumN n f
  | 0 => by simp [sumN]
  | n + 1 => by
    show sumN n (fun i => x * f i) + x * f n = x * (sumN n f + f n)
    rw [sumN_mul x n]
    grind
theorem sumN_one {f : Nat → Int} {r : Nat} : ∀ n, r < n → (∀ i, i < n → i ≠ r → f i = 0) → sumN n f = f r
  | 0, h, _ => by omega
  | n + 1, h, z => by
    show sumN n f + f n = f r
    by_cases e : r = n
    · subst e
      rw [sumN_zero r fun i hi => z i (by omega) (by omega)]
      omega
    · rw [sumN_one n (by omega) fun i hi => z i (by omega), z n (by omega) (by omega)]
      omega
theorem sumN_two {f : Nat → Int} {r : Nat} (hz : f r + f (r + 1) = 0) : ∀ n, r + 1 < n → (∀ i, i < n → i ≠ r → i ≠ r + 1 → f i = 0) → sumN n f = 0
  | 0, h, _ => by omega
  | n + 1, h, z => by
    show sumN n f + f n = 0
    by_cases e : r + 1 = n
    · subst e
      rw [sumN_one (r + 1) (by omega) fun i hi hne => z i (by omega) hne (by omega)]
      exact hz
    · rw [sumN_two hz n (by omega) fun i hi => z i (by omega), z n (by omega) (by omega) (by omega)]
      rfl
abbrev Mat := Nat → Nat → Int
def skip (i a : Nat) : Nat := if a < i then a else a + 1
def sgn (i : Nat) : Int := if i % 2 = 0 then 1 else -1
theorem sgn_succ (i : Nat) : sgn (i + 1) = - sgn i := by
  unfold sgn
  rcases Nat.mod_two_eq_zero_or_one i with h | h
  · rw [if_neg (by omega), if_pos h]
  · rw [if_pos (by omega), if_neg (by omega)]
    rfl
theorem sgn_sq (i : Nat) : sgn i * sgn i = 1 := by
  unfold sgn
  split <;> rfl
def minor (M : Mat) (i : Nat) : Mat := fun a b => M (skip i a) (b + 1)
def det : Nat → Mat → Int
  | 0, _ => 1
  | n + 1, M => sumN (n + 1) fun i => sgn i * M i 0 * det n (minor M i)
theorem det_succ (n : Nat) (M : Mat) : det (n + 1) M = sumN (n + 1) fun i => sgn i * M i 0 * det n (minor M i) := rfl
theorem skip_lt {i a n : Nat} (hi : i < n + 1) (ha : a < n) : skip i a < n + 1 := by
  unfold skip
  split <;> omega
theorem det_congr : ∀ (n : Nat) {M N : Mat}, (∀ a b, a < n → b < n → M a b = N a b) → det n M = det n N
  | 0, _, _, _ => rfl
  | n + 1, M, N, h => by
    rw [det_succ, det_succ]
    refine sumN_congr _ fun i hi => ?_
    rw [h i 0 hi (by omega), det_congr (M := minor M i) (N := minor N i) n fun a b ha hb => h _ _ (skip_lt hi ha) (by omega)]
def setR (M : Mat) (r : Nat) (v : Nat → Int) : Mat := fun a b => if a = r then v b else M a b
theorem setR_same (M : Mat) (r : Nat) (v : Nat → Int) (b : Nat) : setR M r v r b = v b := if_pos rfl
theorem setR_ne (M : Mat) {r a : Nat} (v : Nat → Int) (b : Nat) (h : a ≠ r) : setR M r v a b = M a b := if_neg h
theorem minor_set_eq (M : Mat) (r : Nat) (v : Nat → Int) : minor (setR M r v) r = minor M r := by
  funext a b
  refine setR_ne M v _ ?_
  unfold skip
  split <;> omega
def unskip (i r : Nat) : Nat := if r < i then r else r - 1
theorem minor_set_ne (M : Mat) {r i : Nat} (v : Nat → Int) (h : i ≠ r) : minor (setR M r v) i = setR (minor M i) (unskip i r) (fun b => v (b + 1)) := by
  funext a b
  show (if skip i a = r then v (b + 1) else M (skip i a) (b + 1)) = if a = unskip i r then v (b + 1) else M (skip i a) (b + 1)
  have e : skip i a = r ↔ a = unskip i r := by
    unfold skip unskip
    split <;> split <;> omega
  by_cases q : skip i a = r
  · rw [if_pos q, if_pos (e.mp q)]
  · rw [if_neg q, if_neg (fun z => q (e.mpr z))]
theorem unskip_lt {i r n : Nat} (hi : i < n + 1) (hr : r < n + 1) (h : i ≠ r) : unskip i r < n := by
  unfold unskip
  split <;> omega
/-- a row is a sum -/
theorem det_lin : ∀ (n : Nat) (M : Mat) (r : Nat) (x : Int) (u v : Nat → Int), r < n → det n (setR M r fun b => x * u b + v b) = x * det n (setR M r u) + det n (setR M r v)
  | 0, _, _, _, _, _, h => by omega
  | n + 1, M, r, x, u, v, h => by
    rw [det_succ, det_succ, det_succ, ← sumN_lin]
    refine sumN_congr _ fun i hi => ?_
    by_cases e : i = r
    · subst e
      rw [minor_set_eq, minor_set_eq, minor_set_eq, setR_same, setR_same, setR_same]
      grind
    · rw [minor_set_ne M _ e, minor_set_ne M _ e, minor_set_ne M _ e, setR_ne M _ _ e, setR_ne M _ _ e, setR_ne M _ _ e,
        det_lin n (minor M i) (unskip i r) x (fun b => u (b + 1)) (fun b => v (b + 1)) (unskip_lt hi h e)]
      grind
theorem setR_get (M : Mat) (r : Nat) : setR M r (M r) = M := by
  funext a b
  unfold setR
  split
  · rename_i h; rw [h]
  · rfl
theorem det_zero_row (n : Nat) (M : Mat) (r : Nat) (h : r < n) (z : ∀ b, b < n → M r b = 0) : det n M = 0 := by
  have e := det_lin n M r 1 (fun _ => 0) (fun _ => 0) h
  have e2 : det n M = det n (setR M r fun _ => 0) := det_congr n fun a b ha hb => by
    by_cases q : a = r
    · subst q
      rw [setR_same]
      exact z b hb
    · rw [setR_ne M _ _ q]
  have e3 : (fun b : Nat => (1 : Int) * (fun _ : Nat => (0 : Int)) b + (fun _ : Nat => (0 : Int)) b) = fun _ => 0 := by
    funext b
    rfl
  rw [e3] at e
  rw [e2]
  omega
/-- neighbours alike -/
theorem det_adj : ∀ (n : Nat) (M : Mat) (r : Nat), r + 1 < n → (∀ b, b < n → M r b = M (r + 1) b) → det n M = 0
  | 0, _, _, h, _ => by omega
  | n + 1, M, r, h, e => by
    rw [det_succ]
    refine sumN_two (r := r) ?_ _ h fun i hi h1 h2 => ?_
    · have em : det n (minor M r) = det n (minor M (r + 1)) := det_congr n fun a b ha hb => by
        show M (skip r a) (b + 1) = M (skip (r + 1) a) (b + 1)
        by_cases q : a = r
        · subst q
          have e1 : skip a a = a + 1 := if_neg (by omega)
          have e2 : skip (a + 1) a = a := if_pos (by omega)
          rw [e1, e2]
          exact (e _ (by omega)).symm
        · have : skip r a = skip (r + 1) a := by
            unfold skip
            split <;> split <;> omega
          rw [this]
      show sgn r * M r 0 * det n (minor M r) + sgn (r + 1) * M (r + 1) 0 * det n (minor M (r + 1)) = 0
      rw [em, e 0 (by omega), sgn_succ]
      grind
    · have : det n (minor M i) = 0 := by
        by_cases q : i < r
        · refine det_adj n (minor M i) (r - 1) (by omega) fun b hb => ?_
          have e1 : skip i (r - 1) = r := by unfold skip; split <;> omega
          have e2 : skip i (r - 1 + 1) = r + 1 := by unfold skip; split <;> omega
          show M (skip i (r - 1)) (b + 1) = M (skip i (r - 1 + 1)) (b + 1)
          rw [e1, e2]
          exact e _ (by omega)
        · refine det_adj n (minor M i) r (by omega) fun b hb => ?_
          have e1 : skip i r = r := by unfold skip; split <;> omega
          have e2 : skip i (r + 1) = r + 1 := by unfold skip; split <;> omega
          show M (skip i r) (b + 1) = M (skip i (r + 1)) (b + 1)
          rw [e1, e2]
          exact e _ (by omega)
      rw [this]
      omega
def swapR (M : Mat) (r s : Nat) : Mat := fun a b => if a = r then M s b else if a = s then M r b else M a b
/-- what holds of equal rows brings the sign of an exchange -/
theorem swap_of_eq {n r s : Nat} (M : Mat) (hr : r < n) (hs : s < n) (ne : r ≠ s) (eq0 : ∀ N : Mat, (∀ b, b < n → N r b = N s b) → det n N = 0) : det n (swapR M r s) = - det n M := by
  let S : (Nat → Int) → (Nat → Int) → Mat := fun u v => setR (setR M r u) s v
  have comm : ∀ u v, S u v = setR (setR M s v) r u := fun u v => by
    funext a b
    show (if a = s then v b else if a = r then u b else M a b) = if a = r then u b else if a = s then v b else M a b
    by_cases h1 : a = r
    · subst h1
      rw [if_neg ne, if_pos rfl, if_pos rfl]
    · rw [if_neg h1, if_neg h1]
  have l2 : ∀ u v v', det n (S u fun b => 1 * v b + v' b) = 1 * det n (S u v) + det n (S u v') := fun u v v' => det_lin n (setR M r u) s 1 v v' hs
  have l1 : ∀ u u' v, det n (S (fun b => 1 * u b + u' b) v) = 1 * det n (S u v) + det n (S u' v) := fun u u' v => by
    rw [comm, comm, comm]
    exact det_lin n (setR M s v) r 1 u u' hr
  have z : ∀ u, det n (S u u) = 0 := fun u => eq0 _ fun b _ => by
    show (if r = s then u b else if r = r then u b else M r b) = if s = s then u b else _
    rw [if_neg ne, if_pos rfl, if_pos rfl]
  have a1 := z fun b => 1 * M r b + M s b
  rw [l1, l2, l2, z (M r), z (M s)] at a1
  have e1 : S (M r) (M s) = M := by
    show setR (setR M r (M r)) s (M s) = M
    rw [setR_get]
    exact setR_get M s
  have e2 : S (M s) (M r) = swapR M r s := by
    funext a b
    show (if a = s then M r b else if a = r then M s b else M a b) = if a = r then M s b else if a = s then M r b else M a b
    by_cases h1 : a = r
    · subst h1
      rw [if_neg ne, if_pos rfl, if_pos rfl]
    · rw [if_neg h1, if_neg h1]
  rw [e1, e2] at a1
  omega
theorem det_eq_rows {n : Nat} : ∀ (d : Nat) (M : Mat) (r : Nat), r + 1 + d < n → (∀ b, b < n → M r b = M (r + 1 + d) b) → det n M = 0
  | 0, M, r, h, e => det_adj n M r h e
  | d + 1, M, r, h, e => by
    have w := swap_of_eq (n := n) (r := r + 1 + d) (s := r + 1 + (d + 1)) M (by omega) h (by omega) fun N hN => det_adj n N (r + 1 + d) (by omega) hN
    have z := det_eq_rows (n := n) d (swapR M (r + 1 + d) (r + 1 + (d + 1))) r (by omega) fun b hb => by
      show (if r = r + 1 + d then _ else if r = r + 1 + (d + 1) then _ else M r b) = if r + 1 + d = r + 1 + d then M (r + 1 + (d + 1)) b else _
      rw [if_neg (by omega), if_neg (by omega), if_pos rfl]
      exact e b hb
    omega
theorem det_same {n : Nat} (M : Mat) {r s : Nat} (hr : r < n) (hs : s < n) (ne : r ≠ s) (e : ∀ b, b < n → M r b = M s b) : det n M = 0 := by
  by_cases h : r < s
  · refine det_eq_rows (s - r - 1) M r (by omega) ?_
    rw [show r + 1 + (s - r - 1) = s by omega]
    exact e
  · refine det_eq_rows (r - s - 1) M s (by omega) ?_
    rw [show s + 1 + (r - s - 1) = r by omega]
    exact fun b hb => (e b hb).symm
theorem det_swap {n : Nat} (M : Mat) {r s : Nat} (hr : r < n) (hs : s < n) (ne : r ≠ s) : det n (swapR M r s) = - det n M :=
  swap_of_eq M hr hs ne fun N hN => det_same N hr hs ne hN
/-- a row times a number and another row's share -/
theorem det_rowop {n : Nat} (M : Mat) {r s : Nat} (hr : r < n) (hs : s < n) (ne : r ≠ s) (x y : Int) : det n (setR M r fun b => x * M r b + y * M s b) = x * det n M := by
  rw [det_lin n M r x (M r) (fun b => y * M s b) hr, setR_get]
  have e : (fun b => y * M s b) = fun b => y * M s b + (fun _ => 0) b := by
    funext b
    show _ = _ + (0 : Int)
    omega
  rw [e, det_lin n M r y (M s) (fun _ => 0) hr, det_same (setR M r (M s)) hr hs ne (fun b _ => by rw [setR_same, setR_ne M _ _ ne.symm]), det_zero_row n (setR M r fun _ => 0) r hr fun b _ => setR_same M r _ b]
  omega
/-! ### the first column cleared -/
def chio (M : Mat) : Mat := fun a b => M (a + 1) (b + 1) * M 0 0 - M (a + 1) 0 * M 0 (b + 1)
theorem det_head {n : Nat} (M : Mat) (z : ∀ a, 0 < a → a < n + 1 → M a 0 = 0) : det (n + 1) M = M 0 0 * det n (fun a b => M (a + 1) (b + 1)) := by
  rw [det_succ, sumN_one (r := 0) (n + 1) (by omega) fun i hi hne => by rw [z i (by omega) hi]; omega]
  have e : minor M 0 = fun a b => M (a + 1) (b + 1) := by
    funext a b
    show M (skip 0 a) (b + 1) = _
    have : skip 0 a = a + 1 := if_neg (by omega)
    rw [this]
  rw [e]
  show 1 * M 0 0 * _ = _
  rw [Int.one_mul]
theorem det_chio (n : Nat) (M : Mat) : M 0 0 * det n (chio M) = M 0 0 ^ n * det (n + 1) M := by
  -- rows 1 to r cleared
  let C : Nat → Mat := fun r a b => if 0 < a ∧ a ≤ r then M 0 0 * M a b + (- M a 0) * M 0 b else M a b
  have step : ∀ r, r ≤ n → det (n + 1) (C r) = M 0 0 ^ r * det (n + 1) M := by
    intro r
    induction r with
    | zero =>
      intro _
      have : C 0 = M := by
        funext a b
        exact if_neg (by omega)
      rw [this]
      simp
    | succ r ih =>
      intro hr
      have e : C (r + 1) = setR (C r) (r + 1) fun b => M 0 0 * C r (r + 1) b + (- M (r + 1) 0) * C r 0 b := by
        funext a b
        show (if 0 < a ∧ a ≤ r + 1 then M 0 0 * M a b + (- M a 0) * M 0 b else M a b) = if a = r + 1 then M 0 0 * (if 0 < r + 1 ∧ r + 1 ≤ r then _ else M (r + 1) b) + (- M (r + 1) 0) * (if 0 < 0 ∧ 0 ≤ r then _ else M 0 b) else if 0 < a ∧ a ≤ r then M 0 0 * M a b + (- M a 0) * M 0 b else M a b
        by_cases h : a = r + 1
        · subst h
          rw [if_pos ⟨by omega, by omega⟩, if_pos rfl, if_neg (by omega), if_neg (by omega)]
        · rw [if_neg h]
          by_cases h2 : 0 < a ∧ a ≤ r
          · rw [if_pos h2, if_pos ⟨h2.1, by omega⟩]
          · rw [if_neg h2, if_neg (by omega)]
      rw [e, det_rowop (C r) (by omega) (by omega) (by omega), ih (by omega), Int.pow_succ]
      grind
  have last := step n (Nat.le_refl n)
  rw [← last, det_head (C n) fun a h0 h1 => by
    show (if 0 < a ∧ a ≤ n then M 0 0 * M a 0 + (- M a 0) * M 0 0 else M a 0) = 0
    rw [if_pos ⟨h0, by omega⟩]
    grind]
  have e0 : C n 0 0 = M 0 0 := if_neg (by omega)
  rw [e0]
  congr 1
  refine det_congr n fun a b ha hb => ?_
  show _ = if 0 < a + 1 ∧ a + 1 ≤ n then _ else _
  rw [if_pos ⟨by omega, by omega⟩]
  show M (a + 1) (b + 1) * M 0 0 - M (a + 1) 0 * M 0 (b + 1) = _
  grind
/-! ### minors with one more row and column -/
def bord (A : Mat) (k i j : Nat) : Mat := fun a b => A (if a < k then a else k + i) (if b < k then b else k + j)
theorem bord_chio (A : Mat) (k i j : Nat) : bord (chio A) k i j = chio (bord A (k + 1) i j) := by
  funext a b
  show A ((if a < k then a else k + i) + 1) ((if b < k then b else k + j) + 1) * A 0 0 - A ((if a < k then a else k + i) + 1) 0 * A 0 ((if b < k then b else k + j) + 1) =
    A (if a + 1 < k + 1 then a + 1 else k + 1 + i) (if b + 1 < k + 1 then b + 1 else k + 1 + j) * A (if 0 < k + 1 then 0 else k + 1 + i) (if 0 < k + 1 then 0 else k + 1 + j) -
      A (if a + 1 < k + 1 then a + 1 else k + 1 + i) (if 0 < k + 1 then 0 else k + 1 + j) * A (if 0 < k + 1 then 0 else k + 1 + i) (if b + 1 < k + 1 then b + 1 else k + 1 + j)
  have e1 : ∀ a i : Nat, (if a + 1 < k + 1 then a + 1 else k + 1 + i) = (if a < k then a else k + i) + 1 := fun a i => by
    split <;> split <;> omega
  have e2 : ∀ i : Nat, (if 0 < k + 1 then 0 else k + 1 + i) = 0 := fun i => if_pos (by omega)
  rw [e1, e1, e2, e2]
def sub (A : Mat) (k i j : Nat) : Int := det (k + 1) (bord A k i j)
theorem sub_chio (A : Mat) (k i j : Nat) (h0 : A 0 0 ≠ 0) : sub (chio A) k i j = A 0 0 ^ k * sub A (k + 1) i j := by
  have e : bord A (k + 1) i j 0 0 = A 0 0 := by
    show A (if 0 < k + 1 then 0 else _) (if 0 < k + 1 then 0 else _) = _
    rw [if_pos (by omega), if_pos (by omega)]
  have z := det_chio (k + 1) (bord A (k + 1) i j)
  rw [e, ← bord_chio, Int.pow_succ] at z
  have z2 : A 0 0 * sub (chio A) k i j = A 0 0 * (A 0 0 ^ k * sub A (k + 1) i j) := by
    rw [show A 0 0 * (A 0 0 ^ k * sub A (k + 1) i j) = A 0 0 ^ k * A 0 0 * sub A (k + 1) i j by grind]
    exact z
  exact Int.eq_of_mul_eq_mul_left h0 z2
theorem lead_chio (A : Mat) (k : Nat) (h0 : A 0 0 ≠ 0) : A 0 0 * det k (chio A) = A 0 0 ^ k * det (k + 1) A := det_chio k A
theorem bord_same (A : Mat) (k : Nat) : det (k + 1) (bord A k 0 0) = det (k + 1) A := det_congr _ fun a b ha hb => by
  show A (if a < k then a else k + 0) (if b < k then b else k + 0) = A a b
  have e : ∀ a, a < k + 1 → (if a < k then a else k + 0) = a := fun a ha => by split <;> omega
  rw [e a ha, e b hb]
/-- one step: the minors' law -/
theorem sub_step : ∀ (k : Nat) (A : Mat) (i j : Nat), (∀ m, m < k → det (m + 1) A ≠ 0) →
    det k A * sub A (k + 1) i j = sub A k (i + 1) (j + 1) * sub A k 0 0 - sub A k (i + 1) 0 * sub A k 0 (j + 1)
  | 0, A, i, j, _ => by
    have d1 : ∀ M : Mat, det 1 M = M 0 0 := fun M => by
      rw [det_succ]
      show 0 + 1 * M 0 0 * 1 = _
      omega
    have d2 : ∀ M : Mat, det 2 M = M 0 0 * M 1 1 - M 1 0 * M 0 1 := fun M => by
      rw [det_succ]
      show 0 + 1 * M 0 0 * det 1 (minor M 0) + (-1) * M 1 0 * det 1 (minor M 1) = _
      rw [d1, d1]
      show 0 + 1 * M 0 0 * M 1 1 + (-1) * M 1 0 * M 0 1 = _
      grind
    unfold sub
    rw [d2, d1, d1, d1, d1]
    show 1 * (A 0 0 * A (1 + i) (1 + j) - A (1 + i) 0 * A 0 (1 + j)) = A (0 + (i + 1)) (0 + (j + 1)) * A (0 + 0) (0 + 0) - A (0 + (i + 1)) (0 + 0) * A (0 + 0) (0 + (j + 1))
    rw [show 0 + (i + 1) = 1 + i by omega, show 0 + (j + 1) = 1 + j by omega]
    grind
  | k + 1, A, i, j, h => by
    have d1 : det 1 A = A 0 0 := by
      rw [det_succ]
      show 0 + 1 * A 0 0 * 1 = _
      omega
    have h0 : A 0 0 ≠ 0 := by
      have := h 0 (by omega)
      rw [d1] at this
      exact this
    have ih := sub_step k (chio A) i j fun m hm z => by
      have e := lead_chio A (m + 1) h0
      rw [z, Int.mul_zero] at e
      rcases Int.mul_eq_zero.mp e.symm with e | e
      · exact Int.pow_ne_zero h0 e
      · exact h (m + 1) (by omega) e
    rw [sub_chio A _ _ _ h0, sub_chio A _ _ _ h0, sub_chio A _ _ _ h0, sub_chio A _ _ _ h0, sub_chio A _ _ _ h0] at ih
    have e := lead_chio A k h0
    have hp : A 0 0 ^ k * A 0 0 ^ k * A 0 0 ≠ 0 := Int.mul_ne_zero (Int.mul_ne_zero (Int.pow_ne_zero h0) (Int.pow_ne_zero h0)) h0
    refine Int.eq_of_mul_eq_mul_left hp ?_
    rw [Int.pow_succ] at ih
    generalize A 0 0 ^ k = q at *
    generalize A 0 0 = p at *
    grind
/-- no head for the next step: nought -/
theorem sub_none : ∀ (k n : Nat) (A : Mat), (∀ m, m < k → det (m + 1) A ≠ 0) → (∀ i, i < n + 1 → sub A k i 0 = 0) → det (k + n + 1) A = 0
  | 0, n, A, _, z => by
    rw [Nat.zero_add, det_succ]
    refine sumN_zero _ fun i hi => ?_
    have := z i hi
    unfold sub at this
    rw [det_succ] at this
    have t : (0 : Int) + 1 * A (0 + i) 0 * 1 = 0 := this
    rw [Nat.zero_add] at t
    have t2 : A i 0 = 0 := by omega
    rw [t2, Int.mul_zero, Int.zero_mul]
  | k + 1, n, A, h, z => by
    have d1 : det 1 A = A 0 0 := by
      rw [det_succ]
      show 0 + 1 * A 0 0 * 1 = _
      omega
    have h0 : A 0 0 ≠ 0 := by
      have := h 0 (by omega)
      rw [d1] at this
      exact this
    have ih := sub_none k n (chio A) (fun m hm z => by
      have e := lead_chio A (m + 1) h0
      rw [z, Int.mul_zero] at e
      rcases Int.mul_eq_zero.mp e.symm with e | e
      · exact Int.pow_ne_zero h0 e
      · exact h (m + 1) (by omega) e) fun i hi => by
        rw [sub_chio A _ _ _ h0, z i hi, Int.mul_zero]
    have e := lead_chio A (k + n + 1) h0
    rw [ih, Int.mul_zero] at e
    rcases Int.mul_eq_zero.mp e.symm with e | e
    · exact absurd e (Int.pow_ne_zero h0)
    · rw [show k + 1 + n + 1 = k + n + 1 + 1 by omega]
      exact e
/-! ### bounds -/
theorem sumN_abs {f : Nat → Int} {B : Nat} : ∀ n, (∀ i, i < n → (f i).natAbs ≤ B) → (sumN n f).natAbs ≤ n * B
  | 0, _ => by simp [sumN]
  | n + 1, h => by
    have a := sumN_abs n fun i hi => h i (by omega)
    have b := h n (by omega)
    show (sumN n f + f n).natAbs ≤ (n + 1) * B
    rw [Nat.add_mul, Nat.one_mul]
    omega
def fac : Nat → Nat
  | 0 => 1
  | n + 1 => (n + 1) * fac n
theorem det_abs : ∀ (n : Nat) (M : Mat) (B : Nat), (∀ a b, a < n → b < n → (M a b).natAbs ≤ B) → (det n M).natAbs ≤ fac n * B ^ n
  | 0, _, _, _ => by simp [det, fac]
  | n + 1, M, B, h => by
    rw [det_succ]
    have e : fac (n + 1) * B ^ (n + 1) = (n + 1) * (B * (fac n * B ^ n)) := by
      show (n + 1) * fac n * B ^ (n + 1) = _
      rw [Nat.pow_succ]
      grind
    rw [e]
    refine sumN_abs (n + 1) fun i hi => ?_
    have a := h i 0 hi (by omega)
    have b := det_abs n (minor M i) B fun a b ha hb => h _ _ (skip_lt hi ha) (by omega)
    have s : (sgn i).natAbs = 1 := by
      unfold sgn
      split <;> rfl
    rw [Int.natAbs_mul, Int.natAbs_mul, s, Nat.one_mul]
    exact Nat.mul_le_mul a b
/-! ### long lines -/
theorem det_upper : ∀ (n : Nat) (M : Mat), (∀ a b, b < a → a < n → M a b = 0) → ∀ p : Nat → Int, (∀ k, p (k + 1) = p k * M k k) → p 0 * det n M = p n
  | 0, M, _, p, _ => by
    show p 0 * 1 = p 0
    omega
  | n + 1, M, h, p, hp => by
    rw [det_head M fun a h0 ha => h a 0 h0 ha]
    have ih := det_upper n (fun a b => M (a + 1) (b + 1)) (fun a b hb ha => h _ _ (by omega) (by omega)) (fun k => p (k + 1)) fun k => hp (k + 1)
    rw [← ih]
    show _ = p (0 + 1) * _
    rw [hp 0]
    grind
/-- rows exchanged: in the kernel still; a kernel makes nought -/
theorem det_kernel : ∀ (n : Nat) (M : Mat) (y : Nat → Int) (c : Nat), c < n → y c ≠ 0 → (∀ a, a < n → sumN n (fun b => M a b * y b) = 0) → det n M = 0
  | 0, _, _, _, h, _, _ => by omega
  | n + 1, M, y, c, hc, hy, hk => by
    by_cases h0 : ∃ r, r < n + 1 ∧ M r 0 ≠ 0
    · obtain ⟨r, hr, h0⟩ := h0
      -- with a head at once
      have main : ∀ M : Mat, M 0 0 ≠ 0 → (∀ a, a < n + 1 → sumN (n + 1) (fun b => M a b * y b) = 0) → det (n + 1) M = 0 := by
        intro M h0 hk
        have fr : ∀ (f : Nat → Int) (n : Nat), sumN (n + 1) f = f 0 + sumN n (fun b => f (b + 1)) := by
          intro f n
          induction n with
          | zero =>
            show 0 + f 0 = f 0 + 0
            omega
          | succ n ih =>
            show sumN (n + 1) f + f (n + 1) = f 0 + (sumN n (fun b => f (b + 1)) + f (n + 1))
            rw [ih]
            omega
        have z : det n (chio M) = 0 := by
          have hy' : ∃ c', c' < n ∧ y (c' + 1) ≠ 0 := by
            refine Classical.byContradiction fun no => ?_
            have all : ∀ b, b < n → y (b + 1) = 0 := fun b hb => Classical.byContradiction fun z => no ⟨b, hb, z⟩
            have k0 := hk 0 (by omega)
            rw [fr, sumN_zero n fun b hb => by rw [all b hb, Int.mul_zero], Int.add_zero] at k0
            have y0 : y 0 = 0 := (Int.mul_eq_zero.mp k0).resolve_left h0
            cases c with
            | zero => exact hy y0
            | succ c => exact hy (all c (by omega))
          obtain ⟨c', hc', hy'⟩ := hy'
          refine det_kernel n (chio M) (fun b => y (b + 1)) c' hc' hy' fun a ha => ?_
          have k0 := hk 0 (by omega)
          have k1 := hk (a + 1) (by omega)
          rw [fr] at k0 k1
          have e : sumN n (fun b => chio M a b * y (b + 1)) = M 0 0 * sumN n (fun b => M (a + 1) (b + 1) * y (b + 1)) + (- M (a + 1) 0) * sumN n (fun b => M 0 (b + 1) * y (b + 1)) := by
            rw [← sumN_mul (- M (a + 1) 0), ← sumN_lin]
            refine sumN_congr n fun b _ => ?_
            show (M (a + 1) (b + 1) * M 0 0 - M (a + 1) 0 * M 0 (b + 1)) * y (b + 1) = _
            grind
          rw [e]
          generalize sumN n (fun b => M (a + 1) (b + 1) * y (b + 1)) = p at *
          generalize sumN n (fun b => M 0 (b + 1) * y (b + 1)) = q at *
          grind
        have e := det_chio n M
        rw [z, Int.mul_zero] at e
        exact (Int.mul_eq_zero.mp e.symm).resolve_left (Int.pow_ne_zero h0)
      by_cases r0 : r = 0
      · subst r0
        exact main M h0 hk
      · have s := det_swap M (r := 0) (s := r) (n := n + 1) (by omega) hr (fun z => r0 z.symm)
        have z := main (swapR M 0 r) (by show (if 0 = 0 then M r 0 else _) ≠ 0; rw [if_pos rfl]; exact h0) fun a ha => by
          by_cases e1 : a = 0
          · subst e1
            exact hk r hr
          · by_cases e2 : a = r
            · subst e2
              refine Eq.trans (sumN_congr _ fun b _ => ?_) (hk 0 (by omega))
              show (if a = 0 then M a b else if a = a then M 0 b else _) * y b = _
              rw [if_neg e1, if_pos rfl]
            · refine Eq.trans (sumN_congr _ fun b _ => ?_) (hk a ha)
              show (if a = 0 then _ else if a = r then _ else M a b) * y b = _
              rw [if_neg e1, if_neg e2]
        omega
    · rw [det_succ]
      refine sumN_zero _ fun i hi => ?_
      have : M i 0 = 0 := Classical.byContradiction fun z => h0 ⟨i, hi, z⟩
      rw [this, Int.mul_zero, Int.zero_mul]
/-! ### one exit for each site -/
def uv (g : Int) : Nat → Int := fun b => if (b : Int) = g then 1 else 0
def ev (a : Nat) (g : Int) : Nat → Int := fun b => uv a b - uv g b
theorem uv_self (a : Nat) : uv a a = 1 := if_pos rfl
theorem uv_ne {a b : Nat} (h : b ≠ a) : uv a b = 0 := if_neg (by omega)
theorem uv_neg {g : Int} (h : g < 0) (b : Nat) : uv g b = 0 := if_neg (by omega)
theorem det_unit (n : Nat) (M : Mat) (h : ∀ a b, a < n → b < n → M a b = uv a b) : det n M = 1 := by
  have e : det n M = det n (fun a b => uv a b) := det_congr n h
  have z := det_upper n (fun a b => uv a b) (fun a b hb _ => uv_ne (by omega)) (fun _ => 1) fun k => by rw [uv_self]; rfl
  rw [e]
  omega
/-- sites from which going on by t comes to the pit in m goings -/
def Dn (t : Nat → Int) : Nat → Nat → Prop
  | 0, _ => False
  | m + 1, a => t a < 0 ∨ Dn t m (t a).toNat ∧ 0 ≤ t a
theorem Dn.up {t : Nat → Int} : ∀ {m a : Nat}, Dn t m a → Dn t (m + 1) a
  | 0, _, h => h.elim
  | m + 1, a, h => h.elim .inl fun ⟨x, y⟩ => .inr ⟨Dn.up x, y⟩
theorem Dn.le {t : Nat → Int} {m n a : Nat} (h : Dn t m a) (l : m ≤ n) : Dn t n a := by
  induction l with
  | refl => exact h
  | step _ ih => exact ih.up
open Classical in
noncomputable def pk (p : Prop) (x y : Int) : Int := if p then x else y
theorem pk_pos {p : Prop} {x y : Int} (h : p) : pk p x y = x := if_pos h
theorem pk_neg {p : Prop} {x y : Int} (h : ¬ p) : pk p x y = y := if_neg h
theorem det_tree {n : Nat} {t : Nat → Int} (hn : ∀ a, a < n → t a < n) (m : Nat) (all : ∀ a, a < n → Dn t m a) : det n (fun a b => ev a (t a) b) = 1 := by
  -- rows of depth up to j made units
  have gen : ∀ j, det n (fun a b => pk (Dn t j a) (uv a b) (ev a (t a) b)) = det n (fun a b => ev a (t a) b) := by
    intro j
    induction j with
    | zero =>
      congr 1
      funext a b
      exact pk_neg id
    | succ j ih =>
      rw [← ih]
      have row : ∀ r, r ≤ n → det n (fun a b => pk (Dn t j a ∨ (a < r ∧ Dn t (j + 1) a)) (uv a b) (ev a (t a) b)) = det n (fun a b => pk (Dn t j a) (uv a b) (ev a (t a) b)) := by
        intro r
        induction r with
        | zero =>
          intro _
          congr 1
          funext a b
          have : (Dn t j a ∨ (a < 0 ∧ Dn t (j + 1) a)) = Dn t j a := propext ⟨fun h => h.elim id fun h => absurd h.1 (by omega), .inl⟩
          rw [this]
        | succ r ihr =>
          intro hr
          rw [← ihr (by omega)]
          by_cases h1 : Dn t (j + 1) r ∧ ¬ Dn t j r
          · obtain ⟨h1, h2⟩ := h1
            by_cases h3 : t r < 0
            · congr 1
              funext a b
              by_cases e : a = r
              · subst e
                rw [pk_pos (.inr ⟨by omega, h1⟩), pk_neg (fun z => z.elim h2 fun z => by omega)]
                show _ = uv a b - uv (t a) b
                rw [uv_neg h3]
                omega
              · have : (Dn t j a ∨ (a < r + 1 ∧ Dn t (j + 1) a)) = (Dn t j a ∨ (a < r ∧ Dn t (j + 1) a)) := propext ⟨fun z => z.imp id fun z => ⟨by omega, z.2⟩, fun z => z.imp id fun z => ⟨by omega, z.2⟩⟩
                rw [this]
            · have h4 : Dn t j (t r).toNat := (h1.resolve_left h3).1
              have ne : r ≠ (t r).toNat := fun z => h2 (by rw [z]; exact h4)
              have lt := hn r (by omega)
              have op := det_rowop (n := n) (fun a b => pk (Dn t j a ∨ (a < r ∧ Dn t (j + 1) a)) (uv a b) (ev a (t a) b)) (r := r) (s := (t r).toNat) (by omega) (by omega) ne 1 1
              rw [Int.one_mul] at op
              rw [← op]
              congr 1
              funext a b
              show _ = if a = r then 1 * pk (Dn t j r ∨ (r < r ∧ Dn t (j + 1) r)) (uv r b) (ev r (t r) b) + 1 * pk (Dn t j (t r).toNat ∨ _) (uv (t r).toNat b) _ else _
              by_cases e : a = r
              · subst e
                rw [pk_pos (.inr ⟨by omega, h1⟩), if_pos rfl, pk_neg (fun z => z.elim h2 fun z => by omega), pk_pos (.inl h4)]
                show _ = 1 * (uv a b - uv (t a) b) + 1 * uv ((t a).toNat : Int) b
                rw [show (((t a).toNat : Nat) : Int) = t a by omega]
                omega
              · rw [if_neg e]
                have : (Dn t j a ∨ (a < r + 1 ∧ Dn t (j + 1) a)) = (Dn t j a ∨ (a < r ∧ Dn t (j + 1) a)) := propext ⟨fun z => z.imp id fun z => ⟨by omega, z.2⟩, fun z => z.imp id fun z => ⟨by omega, z.2⟩⟩
                rw [this]
          · congr 1
            funext a b
            have : (Dn t j a ∨ (a < r + 1 ∧ Dn t (j + 1) a)) = (Dn t j a ∨ (a < r ∧ Dn t (j + 1) a)) := propext ⟨fun z => by
              by_cases e : a = r
              · subst e
                by_cases q : Dn t j a
                · exact .inl q
                · exact absurd ⟨z.elim (fun z => absurd z q) (·.2), q⟩ h1
              · exact z.imp id fun z => ⟨by omega, z.2⟩, fun z => z.imp id fun z => ⟨by omega, z.2⟩⟩
            rw [this]
      rw [← row n (Nat.le_refl n)]
      refine det_congr n fun a b ha hb => ?_
      have : (Dn t j a ∨ (a < n ∧ Dn t (j + 1) a)) = Dn t (j + 1) a := propext ⟨fun z => z.elim (·.up) (·.2), fun z => .inr ⟨ha, z⟩⟩
      rw [this]
  rw [← gen m]
  exact det_unit n _ fun a b ha hb => pk_pos (all a ha)
open Classical in
theorem det_noTree {n : Nat} {t : Nat → Int} (hn : ∀ a, a < n → t a < n) (c : Nat) (hc : c < n) (no : ∀ m, ¬ Dn t m c) : det n (fun a b => ev a (t a) b) = 0 := by
  refine det_kernel n _ (fun b => if ∃ m, Dn t m b then 0 else 1) c hc (by rw [if_neg (fun ⟨m, h⟩ => no m h)]; decide) fun a ha => ?_
  have cut : ∀ (g : Int) (y : Nat → Int), g < n → sumN n (fun b => uv g b * y b) = if g < 0 then 0 else y g.toNat := by
    intro g y hg
    by_cases h : g < 0
    · rw [if_pos h]
      exact sumN_zero n fun b _ => by rw [uv_neg h, Int.zero_mul]
    · rw [if_neg h, sumN_one (r := g.toNat) n (by omega) fun b _ hb => by
        rw [show g = ((g.toNat : Nat) : Int) by omega, uv_ne (by omega), Int.zero_mul]]
      show (if ((g.toNat : Nat) : Int) = g then (1 : Int) else 0) * _ = _
      rw [if_pos (by omega), Int.one_mul]
  have e : sumN n (fun b => ev a (t a) b * (if ∃ m, Dn t m b then (0 : Int) else 1)) = (-1) * sumN n (fun b => uv (t a) b * (if ∃ m, Dn t m b then (0 : Int) else 1)) + sumN n (fun b => uv a b * (if ∃ m, Dn t m b then (0 : Int) else 1)) := by
    rw [← sumN_lin]
    refine sumN_congr n fun b _ => ?_
    show (uv a b - uv (t a) b) * _ = _
    generalize (if ∃ m, Dn t m b then (0 : Int) else 1) = z
    grind
  rw [e, cut _ _ (hn a ha), cut _ _ (by omega), if_neg (show ¬ (a : Int) < 0 by omega), show ((a : Int)).toNat = a by omega]
  by_cases h : t a < 0
  · rw [if_pos h, if_pos ⟨1, .inl h⟩]
    rfl
  · rw [if_neg h]
    by_cases q : ∃ m, Dn t m a
    · have q2 : ∃ m, Dn t m (t a).toNat := by
        obtain ⟨m, q⟩ := q
        cases m with
        | zero => exact q.elim
        | succ m => exact ⟨m, (q.resolve_left h).1⟩
      rw [if_pos q, if_pos q2]
      rfl
    · have q2 : ¬ ∃ m, Dn t m (t a).toNat := fun ⟨m, z⟩ => q ⟨m + 1, .inr ⟨z, by omega⟩⟩
      rw [if_neg q, if_neg q2]
      rfl
/-! ### sums over all choices -/
def isum (l : List Int) : Int := l.sum
def choices : List (List Int) → List (List Int)
  | [] => [[]]
  | row :: rest => (choices rest).flatMap fun l => row.map fun g => g :: l
theorem det_listSum (n : Nat) (M : Mat) (r : Nat) (hr : r < n) (f : Int → Nat → Int) : ∀ row : List Int, det n (setR M r fun b => (row.map fun g => f g b).sum) = (row.map fun g => det n (setR M r (f g))).sum
  | [] => det_zero_row n _ r hr fun b _ => by
    rw [setR_same]
    rfl
  | g :: row => by
    have e : (fun b => ((g :: row).map fun g => f g b).sum) = fun b => 1 * f g b + (fun b => (row.map fun g => f g b).sum) b := by
      funext b
      rw [List.map_cons, List.sum_cons, Int.one_mul]
    rw [e, det_lin n M r 1 _ _ hr, det_listSum n M r hr f row, List.map_cons, List.sum_cons, Int.one_mul]
def setRows (M : Mat) (k : Nat) (l : List Int) : Mat := fun a b => if k ≤ a ∧ a < k + l.length then ev a (l.getD (a - k) 0) b else M a b
def sumRows (M : Mat) (k : Nat) (rows : List (List Int)) : Mat := fun a b => if k ≤ a ∧ a < k + rows.length then ((rows.getD (a - k) []).map fun g => ev a g b).sum else M a b
theorem det_choices (n : Nat) : ∀ (rows : List (List Int)) (k : Nat) (M : Mat), k + rows.length ≤ n → ((choices rows).map fun l => det n (setRows M k l)).sum = det n (sumRows M k rows)
  | [], k, M, _ => by
    show (det n (setRows M k []) + 0) = _
    rw [Int.add_zero]
    congr 1
    funext a b
    show (if k ≤ a ∧ a < k + 0 then _ else _) = if k ≤ a ∧ a < k + 0 then _ else _
    rw [if_neg (by omega), if_neg (by omega)]
  | row :: rest, k, M, h => by
    rw [List.length_cons] at h
    have ih := det_choices n rest (k + 1) (setR M k fun b => (row.map fun g => ev k g b).sum) (by omega)
    have e1 : setRows (setR M k fun b => (row.map fun g => ev k g b).sum) (k + 1) = fun l => setR (setRows M (k + 1) l) k fun b => (row.map fun g => ev k g b).sum := by
      funext l a b
      show (if k + 1 ≤ a ∧ a < k + 1 + l.length then ev a (l.getD (a - (k + 1)) 0) b else if a = k then _ else M a b) = if a = k then _ else if k + 1 ≤ a ∧ a < k + 1 + l.length then ev a (l.getD (a - (k + 1)) 0) b else M a b
      by_cases e : a = k
      · subst e
        rw [if_neg (by omega), if_pos rfl, if_pos rfl]
      · rw [if_neg e, if_neg e]
    have e2 : sumRows (setR M k fun b => (row.map fun g => ev k g b).sum) (k + 1) rest = sumRows M k (row :: rest) := by
      funext a b
      show (if k + 1 ≤ a ∧ a < k + 1 + rest.length then ((rest.getD (a - (k + 1)) []).map fun g => ev a g b).sum else if a = k then _ else M a b) = if k ≤ a ∧ a < k + (rest.length + 1) then (((row :: rest).getD (a - k) []).map fun g => ev a g b).sum else M a b
      by_cases e : a = k
      · subst e
        rw [if_neg (by omega), if_pos rfl, if_pos (by omega), Nat.sub_self]
        rfl
      · rw [if_neg e]
        by_cases c : k + 1 ≤ a ∧ a < k + 1 + rest.length
        · rw [if_pos c, if_pos (by omega), show a - k = (a - (k + 1)) + 1 by omega]
          rfl
        · rw [if_neg c, if_neg (by omega)]
    rw [e2, e1] at ih
    rw [← ih]
    have fl : ∀ (cs : List (List Int)), ((cs.flatMap fun l => row.map fun g => g :: l).map fun l => det n (setRows M k l)).sum = (cs.map fun l => (row.map fun g => det n (setRows M k (g :: l))).sum).sum := by
      intro cs
      induction cs with
      | nil => rfl
      | cons c cs ih =>
        rw [List.flatMap_cons, List.map_append, List.sum_append, ih, List.map_cons, List.sum_cons, List.map_map]
        rfl
    show ((((choices rest).flatMap fun l => row.map fun g => g :: l)).map fun l => det n (setRows M k l)).sum = _
    rw [fl]
    congr 1
    refine List.map_congr_left fun l hl => ?_
    show _ = det n (setR (setRows M (k + 1) l) k fun b => (row.map fun g => ev k g b).sum)
    rw [det_listSum n _ k (by omega) (fun g b => ev k g b) row]
    congr 1
    refine List.map_congr_left fun g hg => ?_
    congr 1
    funext a b
    show (if k ≤ a ∧ a < k + (l.length + 1) then ev a ((g :: l).getD (a - k) 0) b else M a b) = if a = k then ev k g b else if k + 1 ≤ a ∧ a < k + 1 + l.length then ev a (l.getD (a - (k + 1)) 0) b else M a b
    by_cases e : a = k
    · subst e
      rw [if_pos (by omega), if_pos rfl, Nat.sub_self]
      rfl
    · rw [if_neg e]
      by_cases c : k + 1 ≤ a ∧ a < k + 1 + l.length
      · rw [if_pos c, if_pos (by omega), show a - k = (a - (k + 1)) + 1 by omega]
        rfl
      · rw [if_neg c, if_neg (by omega)]

/-! Great numbers; fraction-free elimination on paper -/
def CDivX (_ j : Int) : Prop := j ≠ 0 ∧ j.natAbs.log2 < 9000
theorem op_fdivX {X : Cx} : OpR X (binaryOp .FloorDiv) (rI CDivX fun i j => .int (i.fdiv j)) := opI fun _ _ _ _ _ _ _ hc q => PyProof.Rows.floordiv_int hc.1 q (.inl (PyProof.noPylong_of_log2 hc.2))
abbrev mFdivX : R2 := rI CDivX fun i j => .int (i.fdiv j)
abbrev mMulW : R2 := rI CMulW fun i j => .int (i * j)
theorem g_mulW {i j : Int} {H : Hp} {Q : VK} {a b : Nat} (ha : i.natAbs < 2 ^ a) (hb : j.natAbs < 2 ^ b) (h0 : 0 < a) (h1 : 0 < b) (h : a + b ≤ 1000000) (q : Q (.int (i * j)) H) : mMulW (.int i) (.int j) H Q := ⟨i, j, rfl, rfl, wide_mul ha hb h0 h1 h, q⟩
theorem g_fdivX {i j : Int} {H : Hp} {Q : VK} {b : Nat} (h : j ≠ 0) (hb : j.natAbs < 2 ^ b) (h0 : 0 < b) (h9 : b ≤ 9000) (q : Q (.int (i.fdiv j)) H) : mFdivX (.int i) (.int j) H Q :=
  ⟨i, j, rfl, rfl, ⟨h, Nat.lt_of_lt_of_le (PySem.Flt.log2_lt_of h0 hb) h9⟩, q⟩
def matOf (rows : List (List Int)) : Mat := fun a b => (rows.getD a []).getD b 0
theorem fac_le : ∀ n, n ≤ 12 → fac n ≤ 2 ^ 29 := by decide
theorem det_lt {n : Nat} {M : Mat} (hn : n ≤ 12) (h : ∀ a b, a < n → b < n → (M a b).natAbs ≤ 2 ^ 100) : (det n M).natAbs < 2 ^ 1230 := by
  have a := det_abs n M (2 ^ 100) h
  have b := fac_le n hn
  have c : (2 ^ 100) ^ n ≤ 2 ^ 1200 := by
    rw [← Nat.pow_mul]
    exact Nat.pow_le_pow_right (by decide) (by omega)
  have d := Nat.mul_le_mul b c
  rw [← Nat.pow_add] at d
  exact Nat.lt_of_le_of_lt (Nat.le_trans a d) (Nat.pow_lt_pow_right (by decide) (by decide))
theorem sub_lt {n k i j : Nat} {A : Mat} (hn : n ≤ 12) (h : ∀ a b, a < n → b < n → (A a b).natAbs ≤ 2 ^ 100) (hi : k + i < n) (hj : k + j < n) : (sub A k i j).natAbs < 2 ^ 1230 := by
  refine det_lt (by omega) fun a b ha hb => h _ _ ?_ ?_
  · split <;> omega
  · split <;> omega
theorem lead_lt {n k : Nat} {A : Mat} (hn : n ≤ 12) (h : ∀ a b, a < n → b < n → (A a b).natAbs ≤ 2 ^ 100) (hk : k ≤ n) : (det k A).natAbs < 2 ^ 1230 := det_lt (by omega) fun a b ha hb => h a b (by omega) (by omega)
structure Bst (n k : Nat) (rows : List (List Int)) (A M0 : Mat) (sign ahead : Int) : Prop where
  len : rows.length = n
  lens : ∀ a, a < n → (rows.getD a []).length = n
  bnd : ∀ a b, a < n → b < n → (A a b).natAbs ≤ 2 ^ 100
  dt : det n M0 = sign * det n A
  sg : sign = 1 ∨ sign = -1
  ah : ahead = det k A
  nz : ∀ m, m < k → det (m + 1) A ≠ 0
  ent : ∀ i j, k ≤ i → i < n → k ≤ j → j < n → matOf rows i j = sub A k (i - k) (j - k)
theorem sub_zero (A : Mat) (i j : Nat) : sub A 0 i j = A i j := by
  unfold sub
  rw [det_succ]
  show (0 : Int) + 1 * A (0 + i) (0 + j) * 1 = A i j
  rw [Nat.zero_add, Nat.zero_add]
  omega
theorem Bst.start {n : Nat} {rows : List (List Int)} (h1 : rows.length = n) (h2 : ∀ a, a < n → (rows.getD a []).length = n) (h3 : ∀ a b, a < n → b < n → (matOf rows a b).natAbs ≤ 2 ^ 100) : Bst n 0 rows (matOf rows) (matOf rows) 1 1 :=
  ⟨h1, h2, h3, by omega, .inl rfl, rfl, fun m hm => by omega, fun i j _ _ _ _ => by rw [sub_zero, Nat.sub_zero, Nat.sub_zero]⟩
theorem Bst.none {n k : Nat} {rows : List (List Int)} {A M0 : Mat} {sign ahead : Int} (h : Bst n k rows A M0 sign ahead) (hk : k < n) (z : ∀ j, k ≤ j → j < n → matOf rows j k = 0) : det n M0 = 0 := by
  have e := sub_none k (n - k - 1) A h.nz fun i hi => by
    have q := h.ent (k + i) k (by omega) (by omega) (Nat.le_refl k) hk
    rw [z (k + i) (by omega) (by omega), Nat.add_sub_cancel_left, Nat.sub_self] at q
    exact q.symm
  rw [show k + (n - k - 1) + 1 = n by omega] at e
  rw [h.dt, e, Int.mul_zero]
theorem Bst.fin {n : Nat} {rows : List (List Int)} {A M0 : Mat} {sign ahead : Int} (h : Bst n n rows A M0 sign ahead) : det n M0 = sign * ahead := by rw [h.dt, h.ah]
def swapL {α : Type} (xs : List α) (k j : Nat) (d : α) : List α := (xs.set k (xs.getD j d)).set j (xs.getD k d)
theorem swapL_len {α : Type} (xs : List α) (k j : Nat) (d : α) : (swapL xs k j d).length = xs.length := by simp [swapL]
theorem swapL_get {α : Type} {xs : List α} {k j : Nat} {d : α} (hk : k < xs.length) (hj : j < xs.length) (a : Nat) : (swapL xs k j d).getD a d = if a = j then xs.getD k d else if a = k then xs.getD j d else xs.getD a d := by
  unfold swapL
  rw [getD_set (by rw [List.length_set]; exact hj), getD_set hk]
  by_cases h1 : a = j
  · subst h1
    rw [if_pos rfl, if_pos rfl]
  · rw [if_neg (fun z => h1 z.symm), if_neg h1]
    by_cases h2 : a = k
    · subst h2
      rw [if_pos rfl]
    · rw [if_neg (fun z => h2 z.symm), if_neg h2]
theorem Bst.swap {n k j : Nat} {rows : List (List Int)} {A M0 : Mat} {sign ahead : Int} (h : Bst n k rows A M0 sign ahead) (hk : k < n) (kj : k ≤ j) (hj : j < n) (ne : j ≠ k) : Bst n k (swapL rows k j []) (swapR A k j) M0 (-sign) ahead := by
  have hl := h.len
  have get : ∀ a, (swapL rows k j []).getD a [] = rows.getD (if a = k then j else if a = j then k else a) [] := fun a => by
    rw [swapL_get (by omega) (by omega)]
    by_cases h1 : a = j
    · subst h1
      rw [if_pos rfl, if_neg ne, if_pos rfl]
    · rw [if_neg h1]
      by_cases h2 : a = k
      · rw [if_pos h2, if_pos h2]
      · rw [if_neg h2, if_neg h2, if_neg h1]
  have sw : ∀ a b, swapR A k j a b = A (if a = k then j else if a = j then k else a) b := fun a b => by
    show (if a = k then A j b else if a = j then A k b else A a b) = _
    by_cases h1 : a = k
    · rw [if_pos h1, if_pos h1]
    · rw [if_neg h1, if_neg h1]
      by_cases h2 : a = j
      · rw [if_pos h2, if_pos h2]
      · rw [if_neg h2, if_neg h2]
  have lt : ∀ a, a < n → (if a = k then j else if a = j then k else a) < n := fun a ha => by split <;> (try split) <;> omega
  have low : ∀ m, m ≤ k → det m (swapR A k j) = det m A := fun m hm => det_congr m fun a b ha _ => by
    rw [sw, if_neg (by omega), if_neg (by omega)]
  refine ⟨by rw [swapL_len]; exact hl, fun a ha => by rw [get]; exact h.lens _ (lt a ha), fun a b ha hb => by rw [sw]; exact h.bnd _ _ (lt a ha) hb, ?_, ?_, by rw [low k (Nat.le_refl k)]; exact h.ah, fun m hm => by rw [low (m + 1) (by omega)]; exact h.nz m hm, fun a b ha han hb hbn => ?_⟩
  · rw [det_swap A hk hj (fun z => ne z.symm), h.dt]
    grind
  · rcases h.sg with z | z
    · exact .inr (by omega)
    · exact .inl (by omega)
  · have q := h.ent (if a = k then j else if a = j then k else a) b (by split <;> (try split) <;> omega) (lt a han) hb hbn
    show ((swapL rows k j []).getD a []).getD b 0 = _
    rw [get]
    refine q.trans (det_congr _ fun x y _ _ => ?_)
    show A (if x < k then x else k + ((if a = k then j else if a = j then k else a) - k)) _ = swapR A k j (if x < k then x else k + (a - k)) _
    rw [sw]
    refine congrArg (fun z => A z _) ?_
    by_cases hx : x < k
    · simp only [if_pos hx]
      rw [if_neg (by omega), if_neg (by omega)]
    · simp only [if_neg hx]
      rw [show k + (a - k) = a by omega]
      have : k ≤ (if a = k then j else if a = j then k else a) := by split <;> (try split) <;> omega
      omega
theorem Bst.head {n k : Nat} {rows : List (List Int)} {A M0 : Mat} {sign ahead : Int} (h : Bst n k rows A M0 sign ahead) (hk : k < n) : matOf rows k k = det (k + 1) A := by
  rw [h.ent k k (Nat.le_refl k) hk (Nat.le_refl k) hk, Nat.sub_self]
  exact bord_same A k
theorem Bst.ahead0 {n k : Nat} {rows : List (List Int)} {A M0 : Mat} {sign ahead : Int} (h : Bst n k rows A M0 sign ahead) : ahead ≠ 0 := by
  rw [h.ah]
  cases k with
  | zero => exact (by decide : (1 : Int) ≠ 0)
  | succ k => exact h.nz k (by omega)
/-- the division comes out even -/
theorem Bst.step {n k i m : Nat} {rows : List (List Int)} {A M0 : Mat} {sign ahead : Int} (h : Bst n k rows A M0 sign ahead) (hi : k < i) (hin : i < n) (hm : k < m) (hmn : m < n) :
    (matOf rows i m * matOf rows k k - matOf rows i k * matOf rows k m).fdiv ahead = sub A (k + 1) (i - k - 1) (m - k - 1) := by
  have e := sub_step k A (i - k - 1) (m - k - 1) h.nz
  rw [h.ent i m (by omega) hin (by omega) hmn, h.ent k k (Nat.le_refl k) (by omega) (Nat.le_refl k) (by omega), h.ent i k (by omega) hin (Nat.le_refl k) (by omega), h.ent k m (Nat.le_refl k) (by omega) (by omega) hmn, Nat.sub_self]
  rw [show i - k - 1 + 1 = i - k by omega, show m - k - 1 + 1 = m - k by omega, ← h.ah] at e
  rw [← e]
  exact Int.mul_fdiv_cancel_left _ h.ahead0
/-- rows of stage k, done up to place m of row i -/
structure Mid (n k i m : Nat) (R0 R : List (List Int)) (A : Mat) : Prop where
  len : R.length = n
  lens : ∀ a, a < n → (R.getD a []).length = n
  ent : ∀ a b, a < n → b < n → matOf R a b = if k < a ∧ k < b ∧ (a < i ∨ (a = i ∧ b < m)) then sub A (k + 1) (a - k - 1) (b - k - 1) else matOf R0 a b
theorem Mid.start {n k : Nat} {R0 : List (List Int)} {A : Mat} (h1 : R0.length = n) (h2 : ∀ a, a < n → (R0.getD a []).length = n) : Mid n k (k + 1) (k + 1) R0 R0 A := ⟨h1, h2, fun a b _ _ => by rw [if_neg (by omega)]⟩
theorem Mid.row {n k i : Nat} {R0 R : List (List Int)} {A : Mat} (h : Mid n k i n R0 R A) : Mid n k (i + 1) (k + 1) R0 R A := ⟨h.len, h.lens, fun a b ha hb => by
  rw [h.ent a b ha hb]
  by_cases c : k < a ∧ k < b ∧ (a < i ∨ (a = i ∧ b < n))
  · rw [if_pos c, if_pos (by omega)]
  · rw [if_neg c, if_neg (by omega)]⟩
theorem Mid.put {n k i m : Nat} {R0 R : List (List Int)} {A : Mat} {x : Int} (h : Mid n k i m R0 R A) (hi : k < i) (hin : i < n) (hm : k < m) (hmn : m < n) (hx : x = sub A (k + 1) (i - k - 1) (m - k - 1)) : Mid n k i (m + 1) R0 (R.set i ((R.getD i []).set m x)) A := by
  have hl := h.len
  have get : ∀ a, (R.set i ((R.getD i []).set m x)).getD a [] = if i = a then (R.getD i []).set m x else R.getD a [] := fun a => getD_set (by omega)
  refine ⟨by rw [List.length_set]; exact hl, fun a ha => ?_, fun a b ha hb => ?_⟩
  · rw [get]
    split
    · rw [List.length_set]
      exact h.lens i hin
    · exact h.lens a ha
  · show (List.getD (R.set i ((R.getD i []).set m x)) a []).getD b 0 = _
    rw [get]
    by_cases e : i = a
    · subst e
      rw [if_pos rfl, getD_set (by rw [h.lens i hin]; exact hmn)]
      by_cases e2 : m = b
      · subst e2
        rw [if_pos rfl, if_pos ⟨hi, hm, .inr ⟨rfl, by omega⟩⟩, hx]
      · rw [if_neg e2]
        refine (h.ent i b hin hb).trans ?_
        by_cases c : k < i ∧ k < b ∧ (i < i ∨ (i = i ∧ b < m))
        · rw [if_pos c, if_pos (by omega)]
        · rw [if_neg c, if_neg (by omega)]
    · rw [if_neg e]
      refine (h.ent a b ha hb).trans ?_
      by_cases c : k < a ∧ k < b ∧ (a < i ∨ (a = i ∧ b < m))
      · rw [if_pos c, if_pos (by omega)]
      · rw [if_neg c, if_neg (by omega)]
theorem Mid.done {n k : Nat} {R0 R : List (List Int)} {A M0 : Mat} {sign ahead : Int} (h : Mid n k n (k + 1) R0 R A) (b : Bst n k R0 A M0 sign ahead) (hk : k < n) (h0 : matOf R0 k k ≠ 0) : Bst n (k + 1) R A M0 sign (matOf R0 k k) := by
  have hd := b.head hk
  refine ⟨h.len, h.lens, b.bnd, b.dt, b.sg, hd, fun m hm => ?_, fun i j hi hin hj hjn => ?_⟩
  · by_cases e : m = k
    · subst e
      rw [← hd]
      exact h0
    · exact b.nz m (by omega)
  · rw [h.ent i j hin hjn, if_pos ⟨by omega, by omega, .inl hin⟩, show i - (k + 1) = i - k - 1 by omega, show j - (k + 1) = j - k - 1 by omega]
/-! ### a list of rows in the ledger: a row put otherwise, rows exchanged -/
theorem rowLed_set {D r : Addr} {as : List Addr} {rows : List (List Int)} {i : Nat} {row : List Int} (e : as[i]? = some r) (hl : as.length = rows.length) : (rowLed D as rows).set (i + 1) (r, ilst row) = rowLed D as (rows.set i row) := by
  show (D, HO.lst (as.map V.ref)) :: (List.zipWith (fun a row => (a, ilst row)) as rows).set i (r, ilst row) = (D, HO.lst (as.map V.ref)) :: List.zipWith (fun a row => (a, ilst row)) as (rows.set i row)
  congr 1
  have hi : i < as.length := (List.getElem?_eq_some_iff.mp e).1
  apply List.ext_getElem?
  intro j
  rw [List.getElem?_zipWith]
  by_cases ij : i = j
  · subst ij
    rw [List.getElem?_set_self (by rw [List.length_zipWith]; omega), List.getElem?_set_self (by omega), e]
  · rw [List.getElem?_set_ne ij, List.getElem?_zipWith, List.getElem?_set_ne ij]
theorem Led.part {B H : Hp} {L L' : List (Addr × HO)} (h : Led B L H) (s : ∀ x, x ∈ L' → x ∈ L) (nd : (L'.map Prod.fst).Nodup) : Led B L' H :=
  ⟨h.same, fun i p o e => h.mem (s _ (List.mem_of_getElem? e)), nd, fun p hp => by
    obtain ⟨x, hx, rfl⟩ := List.mem_map.mp hp
    exact h.new _ (List.mem_map.mpr ⟨x, s x hx, rfl⟩)⟩
theorem rowLed_keys {D : Addr} {as : List Addr} {rows : List (List Int)} (hl : as.length = rows.length) : (rowLed D as rows).map Prod.fst = D :: as := by
  show D :: (List.zipWith (fun a row => (a, ilst row)) as rows).map Prod.fst = _
  congr 1
  apply List.ext_getElem?
  intro j
  rw [List.getElem?_map, List.getElem?_zipWith]
  by_cases h : j < as.length
  · rw [List.getElem?_eq_getElem h, List.getElem?_eq_getElem (show j < rows.length by omega)]
    rfl
  · rw [List.getElem?_eq_none (show as.length ≤ j by omega)]
    rfl
theorem nodup_ix {α : Type} {l : List α} (h : l.Nodup) {i j : Nat} {x : α} (e1 : l[i]? = some x) (e2 : l[j]? = some x) : i = j := nd_ix h e1 e2
/-- rows exchanged in the list -/
theorem led_swap {B H : Hp} {D : Addr} {as : List Addr} {rows : List (List Int)} {k j : Nat} (led : Led B ((D, HO.lst ((swapL as k j 0).map V.ref)) :: (rowLed D as rows).tail) H) (hl : as.length = rows.length) (hk : k < as.length) (hj : j < as.length) (ne : j ≠ k) : Led B (rowLed D (swapL as k j 0) (swapL rows k j [])) H := by
  have kd : (D :: as).Nodup := by
    have e : ((D, HO.lst ((swapL as k j 0).map V.ref)) :: (rowLed D as rows).tail).map Prod.fst = D :: as := rowLed_keys hl
    rw [← e]
    exact led.nd
  have get : ∀ a, (swapL as k j 0).getD a 0 = as.getD (if a = k then j else if a = j then k else a) 0 := fun a => by
    rw [swapL_get hk hj]
    by_cases h1 : a = j
    · subst h1
      rw [if_pos rfl, if_neg ne, if_pos rfl]
    · rw [if_neg h1]
      by_cases h2 : a = k
      · rw [if_pos h2, if_pos h2]
      · rw [if_neg h2, if_neg h2, if_neg h1]
  have getr : ∀ a, (swapL rows k j []).getD a [] = rows.getD (if a = k then j else if a = j then k else a) [] := fun a => by
    rw [swapL_get (by omega) (by omega)]
    by_cases h1 : a = j
    · subst h1
      rw [if_pos rfl, if_neg ne, if_pos rfl]
    · rw [if_neg h1]
      by_cases h2 : a = k
      · rw [if_pos h2, if_pos h2]
      · rw [if_neg h2, if_neg h2, if_neg h1]
  have lt : ∀ a, a < as.length → (if a = k then j else if a = j then k else a) < as.length := fun a ha => by split <;> (try split) <;> omega
  have some_ : ∀ {α : Type} (l : List α) (a : Nat) (d : α), a < l.length → l[a]? = some (l.getD a d) := fun l a d h => by rw [List.getD_eq_getElem?_getD, List.getElem?_eq_getElem h]; rfl
  refine led.part (fun x hx => ?_) ?_
  · rcases List.mem_cons.mp hx with rfl | hx
    · exact List.mem_cons_self
    · refine List.mem_cons_of_mem _ ?_
      obtain ⟨a, ha, e⟩ := List.getElem_of_mem hx
      have ha2 : a < as.length := by
        rw [List.length_zipWith, swapL_len] at ha
        omega
      have e2 : (List.zipWith (fun a row => (a, ilst row)) (swapL as k j 0) (swapL rows k j []))[a]? = some x := by rw [List.getElem?_eq_getElem ha, e]
      rw [List.getElem?_zipWith, some_ (swapL as k j 0) a 0 (by rw [swapL_len]; exact ha2), some_ (swapL rows k j []) a [] (by rw [swapL_len]; omega), get, getr] at e2
      cases e2
      have l2 := lt a ha2
      exact List.mem_of_getElem? (zip_at (some_ as _ 0 l2) (some_ rows _ [] (by omega)))
  · rw [rowLed_keys (by rw [swapL_len, swapL_len]; exact hl)]
    refine List.nodup_cons.mpr ⟨fun hD => ?_, nodup_of_ix fun a b x ea eb => ?_⟩
    · obtain ⟨a, ha, e⟩ := List.getElem_of_mem hD
      rw [swapL_len] at ha
      have e2 : (swapL as k j 0).getD a 0 = D := by rw [List.getD_eq_getElem?_getD, List.getElem?_eq_getElem (by rw [swapL_len]; exact ha), ← e]; rfl
      rw [get] at e2
      exact (List.nodup_cons.mp kd).1 (by rw [← e2]; exact getD_mem (lt a ha))
    · have la : a < as.length := by
        have := (List.getElem?_eq_some_iff.mp ea).1
        rw [swapL_len] at this
        exact this
      have lb : b < as.length := by
        have := (List.getElem?_eq_some_iff.mp eb).1
        rw [swapL_len] at this
        exact this
      rw [some_ (swapL as k j 0) a 0 (by rw [swapL_len]; exact la), get] at ea
      rw [some_ (swapL as k j 0) b 0 (by rw [swapL_len]; exact lb), get] at eb
      have z := nd_ix (List.nodup_cons.mp kd).2 (some_ as _ 0 (lt a la)) (by rw [some_ as _ 0 (lt b lb), Option.some.inj eb, Option.some.inj ea])
      revert z
      split <;> split <;> (try split) <;> (try split) <;> omega

/-! A square made of two -/
theorem sumN_split {f : Nat → Int} {r : Nat} : ∀ n, r < n → (∀ i, r < i → i < n → f i = 0) → sumN n f = sumN r f + f r
  | 0, h, _ => by omega
  | n + 1, h, z => by
    show sumN n f + f n = _
    by_cases e : r = n
    · subst e
      rfl
    · rw [sumN_split n (by omega) fun i h1 h2 => z i h1 (by omega), z n (by omega) (by omega)]
      omega
theorem det_addRows {n : Nat} (M : Mat) {r : Nat} (hr : r < n) (c : Nat → Int) : ∀ s, s ≤ r → det n (setR M r fun b => M r b + sumN s fun m => c m * M m b) = det n M
  | 0, _ => by
    have : (fun b => M r b + sumN 0 fun m => c m * M m b) = M r := by
      funext b
      show M r b + 0 = M r b
      omega
    rw [this, setR_get]
  | s + 1, hs => by
    have e : (fun b => M r b + sumN (s + 1) fun m => c m * M m b) = fun b => c s * M s b + (fun b => M r b + sumN s fun m => c m * M m b) b := by
      funext b
      show M r b + (sumN s (fun m => c m * M m b) + c s * M s b) = c s * M s b + (M r b + sumN s fun m => c m * M m b)
      omega
    rw [e, det_lin n M r (c s) (M s) _ hr, det_addRows M hr c s (by omega), det_same (setR M r (M s)) hr (show s < n by omega) (by omega) fun b _ => by rw [setR_same, setR_ne M _ _ (show s ≠ r by omega)]]
    omega
theorem det_lu (n : Nat) (L U : Mat) (h1 : ∀ a, a < n → L a a = 1) (h2 : ∀ a b, a < b → b < n → L a b = 0) : det n (fun a b => sumN n fun m => L a m * U m b) = det n U := by
  have step : ∀ r, r ≤ n → det n (fun a b => if r ≤ a then sumN n (fun m => L a m * U m b) else U a b) = det n (fun a b => sumN n fun m => L a m * U m b) := by
    intro r
    induction r with
    | zero =>
      intro _
      exact det_congr n fun a b _ _ => if_pos (Nat.zero_le _)
    | succ r ih =>
      intro hr
      rw [← ih (by omega)]
      have e := det_addRows (n := n) (fun a b => if r + 1 ≤ a then sumN n (fun m => L a m * U m b) else U a b) (r := r) (by omega) (fun m => L r m) r (Nat.le_refl r)
      rw [← e]
      refine det_congr n fun a b ha hb => ?_
      show (if a = r then (if r + 1 ≤ r then _ else U r b) + sumN r (fun m => L r m * (if r + 1 ≤ m then _ else U m b)) else if r + 1 ≤ a then sumN n (fun m => L a m * U m b) else U a b) = if r ≤ a then sumN n (fun m => L a m * U m b) else U a b
      by_cases q : a = r
      · subst q
        rw [if_pos rfl, if_neg (by omega), if_pos (Nat.le_refl _), sumN_split (r := a) n ha fun i hi hin => by rw [h2 a i hi hin, Int.zero_mul], h1 a ha, Int.one_mul, Int.add_comm]
        congr 1
        refine sumN_congr a fun m hm => ?_
        rw [if_neg (by omega)]
      · rw [if_neg q]
        by_cases q2 : r + 1 ≤ a
        · rw [if_pos q2, if_pos (by omega)]
        · rw [if_neg q2, if_neg (by omega)]
  rw [← step n (Nat.le_refl n)]
  exact det_congr n fun a b ha hb => if_neg (by omega)
theorem sum_range (f : Nat → Int) : ∀ n, ((List.range n).map f).sum = sumN n f
  | 0 => rfl
  | n + 1 => by
    rw [List.range_succ, List.map_append, List.sum_append, sum_range f n]
    show _ + (f n + 0) = sumN n f + f n
    omega
theorem getD_push {α : Type} {xs : List α} {x d : α} {i : Nat} (h : i < xs.length + 1) : (xs ++ [x]).getD i d = if i < xs.length then xs.getD i d else x := by
  by_cases z : i < xs.length
  · rw [if_pos z, List.getD_eq_getElem?_getD, List.getElem?_append_left z, ← List.getD_eq_getElem?_getD]
  · rw [if_neg z, List.getD_eq_getElem?_getD, List.getElem?_append_right (by omega), show i - xs.length = 0 by omega]
    rfl
theorem range_getD (f : Nat → Int) {n i : Nat} (h : i < n) : ((List.range n).map f).getD i 0 = f i := by
  rw [List.getD_eq_getElem?_getD, List.getElem?_map, List.getElem?_range h]
  rfl

/-! The square of numbers of rows -/
def gridRow (n at_ : Nat) (row : List Int) : List Int := (List.range n).map fun j => if j = at_ then (row.length : Int) - row.count (at_ : Int) else 0 - (row.count (j : Int) : Int)
def gridOf (rows : List (List Int)) : List (List Int) := (List.range rows.length).map fun i => gridRow rows.length i (rows.getD i [])
theorem gridRow_len (n at_ : Nat) (row : List Int) : (gridRow n at_ row).length = n := by simp [gridRow]
theorem gridRow_get {n at_ j : Nat} {row : List Int} (h : j < n) : (gridRow n at_ row).getD j 0 = if j = at_ then (row.length : Int) - row.count (at_ : Int) else 0 - (row.count (j : Int) : Int) := by
  unfold gridRow
  rw [List.getD_eq_getElem?_getD, List.getElem?_map, List.getElem?_range h]
  rfl
theorem gridOf_len (rows : List (List Int)) : (gridOf rows).length = rows.length := by simp [gridOf]
theorem gridOf_get {rows : List (List Int)} {i : Nat} (h : i < rows.length) : (gridOf rows).getD i [] = gridRow rows.length i (rows.getD i []) := by
  unfold gridOf
  rw [List.getD_eq_getElem?_getD, List.getElem?_map, List.getElem?_range h]
  rfl
theorem ints_ext2 {a b : List Int} (hl : a.length = b.length) (h : ∀ i, i < a.length → a.getD i 0 = b.getD i 0) : a = b := by
  apply List.ext_getElem hl
  intro k h1 h2
  have q := h k h1
  rw [List.getD_eq_getElem?_getD, List.getD_eq_getElem?_getD, List.getElem?_eq_getElem h1, List.getElem?_eq_getElem h2] at q
  exact q
theorem gridRow_nil (n at_ : Nat) : gridRow n at_ [] = List.replicate n 0 := by
  refine ints_ext2 (by simp [gridRow]) fun i hi => ?_
  rw [gridRow_len] at hi
  rw [gridRow_get hi, List.getD_eq_getElem?_getD, List.getElem?_replicate, if_pos hi]
  simp
theorem gridRow_self {n at_ : Nat} {xs : List Int} {g : Int} (hg : g = at_) : gridRow n at_ (xs ++ [g]) = gridRow n at_ xs := by
  subst hg
  refine ints_ext2 (by rw [gridRow_len, gridRow_len]) fun i hi => ?_
  rw [gridRow_len] at hi
  rw [gridRow_get hi, gridRow_get hi, List.count_append, List.count_append, List.length_append]
  by_cases e : i = at_
  · rw [if_pos e, if_pos e]
    simp
    omega
  · rw [if_neg e, if_neg e]
    have : ¬ ((at_ : Int) = i) := by omega
    simp [this]
theorem gridRow_pit {n at_ : Nat} {xs : List Int} (h : at_ < n) : gridRow n at_ (xs ++ [-1]) = (gridRow n at_ xs).set at_ ((gridRow n at_ xs).getD at_ 0 + 1) := by
  refine ints_ext2 (by rw [List.length_set, gridRow_len, gridRow_len]) fun i hi => ?_
  rw [gridRow_len] at hi
  rw [getD_set (by rw [gridRow_len]; exact h), gridRow_get hi, gridRow_get hi, gridRow_get h, List.count_append, List.count_append, List.length_append]
  have z1 : ¬ ((-1 : Int) = at_) := by omega
  have z2 : ¬ ((-1 : Int) = i) := by omega
  by_cases e : i = at_
  · rw [if_pos e, if_pos e.symm, if_pos rfl]
    simp [z1]
    omega
  · rw [if_neg e, if_neg (fun z => e z.symm), if_neg e]
    simp [z2]
theorem gridRow_site {n at_ : Nat} {xs : List Int} {g : Int} (h : at_ < n) (h0 : 0 ≤ g) (h1 : g < n) (hg : ¬ g = at_) :
    gridRow n at_ (xs ++ [g]) = ((gridRow n at_ xs).set at_ ((gridRow n at_ xs).getD at_ 0 + 1)).set g.toNat (((gridRow n at_ xs).set at_ ((gridRow n at_ xs).getD at_ 0 + 1)).getD g.toNat 0 - 1) := by
  have hgn : g.toNat < n := by omega
  have hne : ¬ at_ = g.toNat := by omega
  refine ints_ext2 (by rw [List.length_set, List.length_set, gridRow_len, gridRow_len]) fun i hi => ?_
  rw [gridRow_len] at hi
  rw [getD_set (by rw [List.length_set, gridRow_len]; exact hgn), getD_set (by rw [gridRow_len]; exact h), getD_set (by rw [gridRow_len]; exact h), if_neg hne, gridRow_get hi, gridRow_get hi, gridRow_get h, gridRow_get hgn, List.count_append, List.count_append, List.length_append]
  by_cases e : i = at_
  · subst e
    rw [if_pos rfl, if_neg (fun z => hne z.symm), if_pos rfl, if_pos rfl]
    simp [hg]
    omega
  · rw [if_neg e]
    by_cases e2 : g.toNat = i
    · subst e2
      rw [if_pos rfl, if_neg e]
      have z : (g.toNat : Int) = g := by omega
      rw [z]
      simp
      omega
    · rw [if_neg e2, if_neg (fun z => e z.symm), if_neg e]
      have : ¬ (g = i) := by omega
      simp [this]

/-! Trees counted by the grid's determinant -/
def gridM (rows : List (List Int)) : Mat := matOf (gridOf rows)
theorem gridM_get {rows : List (List Int)} {a b : Nat} (ha : a < rows.length) (hb : b < rows.length) : gridM rows a b = if b = a then ((rows.getD a []).length : Int) - (rows.getD a []).count (a : Int) else 0 - ((rows.getD a []).count (b : Int) : Int) := by
  unfold gridM matOf
  rw [gridOf_get ha, gridRow_get hb]
theorem ev_sum (a b : Nat) : ∀ row : List Int, (row.map fun g => ev a g b).sum = if b = a then (row.length : Int) - row.count (a : Int) else 0 - (row.count (b : Int) : Int)
  | [] => by simp
  | g :: row => by
    rw [List.map_cons, List.sum_cons, ev_sum a b row, List.count_cons, List.count_cons, List.length_cons]
    show uv a b - uv g b + _ = _
    unfold uv
    by_cases e : b = a
    · subst e
      rw [if_pos rfl, if_pos rfl, if_pos rfl]
      by_cases e2 : (b : Int) = g
      · subst e2
        simp
        omega
      · have : (g == (b : Int)) = false := by simpa using fun z : g = (b : Int) => e2 z.symm
        simp [e2, this]
        omega
    · rw [if_neg e, if_neg e, if_neg (by omega)]
      by_cases e2 : (b : Int) = g
      · subst e2
        simp
        omega
      · have : (g == (b : Int)) = false := by simpa using fun z : g = (b : Int) => e2 z.symm
        simp [e2, this]
theorem mem_choices : ∀ {rows : List (List Int)} {l : List Int}, l ∈ choices rows ↔ l.length = rows.length ∧ ∀ i, i < rows.length → l.getD i 0 ∈ rows.getD i []
  | [], l => by
    show l ∈ [[]] ↔ _
    rw [List.mem_singleton]
    constructor
    · rintro rfl
      exact ⟨rfl, fun i h => by simp at h⟩
    · intro h
      exact List.eq_nil_of_length_eq_zero h.1
  | row :: rest, l => by
    show l ∈ (choices rest).flatMap _ ↔ _
    rw [List.mem_flatMap]
    constructor
    · rintro ⟨c, hc, hl⟩
      obtain ⟨g, hg, rfl⟩ := List.mem_map.mp hl
      obtain ⟨h1, h2⟩ := mem_choices.mp hc
      refine ⟨by simp [h1], fun i hi => ?_⟩
      cases i with
      | zero => exact hg
      | succ i => exact h2 i (by simpa using hi)
    · rintro ⟨h1, h2⟩
      cases l with
      | nil => simp at h1
      | cons g c =>
        refine ⟨c, mem_choices.mpr ⟨by simpa using h1, fun i hi => h2 (i + 1) (by simpa using hi)⟩, List.mem_map.mpr ⟨g, h2 0 (by simp), rfl⟩⟩
def tOf (l : List Int) : Nat → Int := fun a => l.getD a 0
def TreeC (n : Nat) (l : List Int) : Prop := ∀ a, a < n → ∃ m, Dn (tOf l) m a
theorem det_one {n : Nat} {l : List Int} (M : Mat) (hl : l.length = n) (hr : ∀ a, a < n → l.getD a 0 < n) : det n (setRows M 0 l) = pk (TreeC n l) 1 0 := by
  have e : det n (setRows M 0 l) = det n (fun a b => ev a (tOf l a) b) := det_congr n fun a b ha _ => by
    show (if 0 ≤ a ∧ a < 0 + l.length then ev a (l.getD (a - 0) 0) b else M a b) = _
    rw [if_pos (by omega)]
    rfl
  rw [e]
  by_cases h : TreeC n l
  · rw [pk_pos h]
    -- one depth for all
    have : ∀ k, ∃ m, ∀ a, a < n → a < k → Dn (tOf l) m a := by
      intro k
      induction k with
      | zero => exact ⟨0, fun a _ h => by omega⟩
      | succ k ih =>
        obtain ⟨m, hm⟩ := ih
        by_cases hk : k < n
        · obtain ⟨m2, h2⟩ := h k hk
          refine ⟨max m m2, fun a ha hak => ?_⟩
          by_cases z : a = k
          · subst z
            exact h2.le (Nat.le_max_right _ _)
          · exact (hm a ha (by omega)).le (Nat.le_max_left _ _)
        · exact ⟨m, fun a ha _ => hm a ha (by omega)⟩
    obtain ⟨m, hm⟩ := this n
    exact det_tree (t := tOf l) hr m fun a ha => hm a ha ha
  · rw [pk_neg h]
    have : ∃ c, c < n ∧ ∀ m, ¬ Dn (tOf l) m c := Classical.byContradiction fun no => h fun a ha => Classical.byContradiction fun z => no ⟨a, ha, fun m d => z ⟨m, d⟩⟩
    obtain ⟨c, hc, no⟩ := this
    exact det_noTree (t := tOf l) hr c hc no
/-- exits within the board -/
def Exits (rows : List (List Int)) : Prop := ∀ k, k < rows.length → ∀ g, g ∈ rows.getD k [] → -1 ≤ g ∧ g < rows.length
noncomputable def treesN (rows : List (List Int)) : Int := ((choices rows).map fun l => pk (TreeC rows.length l) 1 0).sum
theorem grid_det {rows : List (List Int)} (ex : Exits rows) : det rows.length (gridM rows) = treesN rows := by
  have e := det_choices rows.length rows 0 (gridM rows) (by omega)
  have e2 : det rows.length (sumRows (gridM rows) 0 rows) = det rows.length (gridM rows) := det_congr _ fun a b ha hb => by
    show (if 0 ≤ a ∧ a < 0 + rows.length then ((rows.getD (a - 0) []).map fun g => ev a g b).sum else _) = _
    rw [if_pos (by omega), ev_sum, Nat.sub_zero, gridM_get ha hb]
  rw [← e2, ← e]
  unfold treesN
  congr 1
  refine List.map_congr_left fun l hl => ?_
  obtain ⟨h1, h2⟩ := mem_choices.mp hl
  exact det_one _ h1 fun a ha => (ex a ha _ (h2 a ha)).2
theorem pk01 (p : Prop) : pk p 1 0 = 0 ∨ pk p 1 0 = 1 := by
  by_cases h : p
  · exact .inr (pk_pos h)
  · exact .inl (pk_neg h)
theorem sum_pos_nn {α : Type} {f : α → Int} : ∀ l : List α, (∀ x, x ∈ l → 0 ≤ f x) → 0 ≤ (l.map f).sum ∧ ∀ x, x ∈ l → f x ≤ (l.map f).sum
  | [], _ => ⟨Int.le_refl 0, fun x h => by simp at h⟩
  | a :: l, h => by
    obtain ⟨i1, i2⟩ := sum_pos_nn l fun x hx => h x (List.mem_cons_of_mem _ hx)
    have ha := h a List.mem_cons_self
    rw [List.map_cons, List.sum_cons]
    refine ⟨by omega, fun x hx => ?_⟩
    rcases List.mem_cons.mp hx with rfl | hx
    · omega
    · have := i2 x hx
      omega
theorem treesN_nn (rows : List (List Int)) : 0 ≤ treesN rows := (sum_pos_nn _ fun l _ => by rcases pk01 (TreeC rows.length l) with h | h <;> omega).1
theorem treesN_pos {rows : List (List Int)} {l : List Int} (hl : l ∈ choices rows) (t : TreeC rows.length l) : 0 < treesN rows := by
  have := (sum_pos_nn (f := fun l => pk (TreeC rows.length l) 1 0) (choices rows) fun l _ => by rcases pk01 (TreeC rows.length l) with h | h <;> omega).2 l hl
  rw [pk_pos t] at this
  exact Int.lt_of_lt_of_le (by decide) this
/-- an open board has a tree -/
theorem open_tree {rows : List (List Int)} (ne : ∀ k, k < rows.length → rows.getD k [] ≠ []) (op : Open rows) : ∃ l, l ∈ choices rows ∧ TreeC rows.length l := by
  have pick : ∀ k, k < rows.length → ∃ g, g ∈ rows.getD k [] ∧ ∀ m, Rch rows (m + 1) k → ¬ Rch rows m k → g = -1 ∨ (0 ≤ g ∧ Rch rows m g.toNat) := by
    intro k hk
    by_cases h : ∃ m, Rch rows (m + 1) k ∧ ¬ Rch rows m k
    · obtain ⟨m, h1, h2⟩ := h
      have uniq : ∀ m', Rch rows (m' + 1) k → ¬ Rch rows m' k → m' = m := fun m' a b => by
        refine Classical.byContradiction fun z => ?_
        rcases Nat.lt_or_gt_of_ne z with z | z
        · exact h2 (a.mono' (by omega))
        · exact b (h1.mono' (by omega))
      cases h1 with
      | pit _ hp => exact ⟨-1, hp, fun m' a b => .inl rfl⟩
      | @via _ j _ _ hp r => exact ⟨(j : Int), hp, fun m' a b => by
          rw [uniq m' a b]
          exact .inr ⟨by omega, by rw [Int.toNat_natCast]; exact r⟩⟩
    · obtain ⟨g, hg⟩ := List.exists_mem_of_ne_nil _ (ne k hk)
      exact ⟨g, hg, fun m a b => absurd ⟨m, a, b⟩ h⟩
  have lst : ∀ n, n ≤ rows.length → ∃ l : List Int, l.length = n ∧ ∀ k, k < n → l.getD k 0 ∈ rows.getD k [] ∧ ∀ m, Rch rows (m + 1) k → ¬ Rch rows m k → l.getD k 0 = -1 ∨ (0 ≤ l.getD k 0 ∧ Rch rows m (l.getD k 0).toNat) := by
    intro n
    induction n with
    | zero => intro _; exact ⟨[], rfl, fun k h => by omega⟩
    | succ n ih =>
      intro hn
      obtain ⟨l, h1, h2⟩ := ih (by omega)
      obtain ⟨g, hg⟩ := pick n (by omega)
      refine ⟨l ++ [g], by simp [h1], fun k hk => ?_⟩
      rw [getD_push (by omega)]
      by_cases z : k < l.length
      · rw [if_pos z]
        exact h2 k (by omega)
      · rw [if_neg z, show k = n by omega]
        exact hg
  obtain ⟨l, h1, h2⟩ := lst rows.length (Nat.le_refl _)
  refine ⟨l, mem_choices.mpr ⟨h1, fun i hi => (h2 i hi).1⟩, fun a ha => ?_⟩
  have dn : ∀ m k, Rch rows m k → Dn (tOf l) m k := by
    intro m
    induction m with
    | zero => intro k r; exact r.zero.elim
    | succ m ih =>
      intro k r
      by_cases z : Rch rows m k
      · exact (ih k z).up
      · rcases (h2 k r.lt).2 m r z with e | ⟨e, r2⟩
        · exact .inl (by show l.getD k 0 < 0; omega)
        · exact .inr ⟨ih _ r2, e⟩
  obtain ⟨m, r⟩ := op a ha
  exact ⟨m, dn m a r⟩
theorem OkRows.exs {rows : List (List Int)} (ok : OkRows rows) : Exits rows := ok.exits
theorem OkRows.ne {rows : List (List Int)} (ok : OkRows rows) : ∀ k, k < rows.length → rows.getD k [] ≠ [] := fun k hk z => by
  have := (ok.row hk).1
  rw [z] at this
  simp at this
theorem whole_pos {rows : List (List Int)} (ok : OkRows rows) (op : Open rows) : 0 < det rows.length (gridM rows) := by
  rw [grid_det ok.exs]
  obtain ⟨l, hl, t⟩ := open_tree ok.ne op
  exact treesN_pos hl t
theorem gridM_abs {rows : List (List Int)} (ok : OkRows rows) {a b : Nat} (ha : a < rows.length) (hb : b < rows.length) : (gridM rows a b).natAbs ≤ 2 ^ 100 := by
  rw [gridM_get ha hb]
  have h8 := (ok.row ha).2.1
  have c1 := List.count_le_length (a := (a : Int)) (l := rows.getD a [])
  have c2 := List.count_le_length (a := (b : Int)) (l := rows.getD a [])
  have : (8 : Nat) ≤ 2 ^ 100 := by decide
  split <;> omega
/-! ### rounds -/
def cofM (rows : List (List Int)) (at_ k : Nat) : Int := det rows.length (setR (gridM rows) k (uv at_))
def partN (rows : List (List Int)) (at_ : Nat) : Nat → Nat
  | 0 => (det rows.length (gridM rows)).natAbs
  | k + 1 => Nat.gcd (partN rows at_ k) (cofM rows at_ k).natAbs
def roundN (rows : List (List Int)) (at_ : Nat) : Int := (det rows.length (gridM rows)).fdiv (partN rows at_ rows.length)
/-- Cramer: what the rows combine to -/
theorem cramer {n : Nat} (M : Mat) (x v : Nat → Int) {k : Nat} (hk : k < n) (h : ∀ b, b < n → sumN n (fun a => x a * M a b) = v b) : x k * det n M = det n (setR M k v) := by
  have step : ∀ s, s ≤ n → det n (setR M k fun b => sumN s fun a => x a * M a b) = if k < s then x k * det n M else 0 := by
    intro s
    induction s with
    | zero =>
      intro _
      rw [if_neg (by omega)]
      exact det_zero_row n _ k hk fun b _ => setR_same _ _ _ _
    | succ s ih =>
      intro hs
      have e : (fun b => sumN (s + 1) fun a => x a * M a b) = fun b => x s * M s b + (fun b => sumN s fun a => x a * M a b) b := by
        funext b
        show sumN s (fun a => x a * M a b) + x s * M s b = x s * M s b + sumN s fun a => x a * M a b
        omega
      rw [e, det_lin n M k (x s) (M s) _ hk, ih (by omega)]
      by_cases z : k = s
      · subst z
        rw [setR_get, if_neg (by omega), if_pos (by omega)]
        omega
      · rw [det_same (setR M k (M s)) hk (show s < n by omega) z fun b _ => by rw [setR_same, setR_ne M _ _ (fun w => z w.symm)]]
        by_cases z2 : k < s
        · rw [if_pos z2, if_pos (by omega)]
          omega
        · rw [if_neg z2, if_neg (by omega)]
          omega
  have e := step n (Nat.le_refl n)
  rw [if_pos hk] at e
  rw [← e]
  refine det_congr n fun a b _ hb => ?_
  by_cases z : a = k
  · subst z
    rw [setR_same, setR_same]
    exact h b hb
  · rw [setR_ne _ _ _ z, setR_ne _ _ _ z]
theorem det_scale {n : Nat} (M : Mat) {k : Nat} (hk : k < n) (m : Int) (u : Nat → Int) : det n (setR M k fun b => m * u b) = m * det n (setR M k u) := by
  have e : (fun b => m * u b) = fun b => m * u b + (fun _ : Nat => (0 : Int)) b := by
    funext b
    show _ = _ + (0 : Int)
    omega
  rw [e, det_lin n M k m u _ hk, det_zero_row n (setR M k fun _ => 0) k hk fun b _ => setR_same _ _ _ _]
  omega
theorem part_dvd {rows : List (List Int)} {at_ : Nat} : ∀ k, partN rows at_ k ∣ (det rows.length (gridM rows)).natAbs ∧ ∀ j, j < k → partN rows at_ k ∣ (cofM rows at_ j).natAbs
  | 0 => ⟨Nat.dvd_refl _, fun j h => by omega⟩
  | k + 1 => by
    obtain ⟨h1, h2⟩ := part_dvd (rows := rows) (at_ := at_) k
    refine ⟨Nat.dvd_trans (Nat.gcd_dvd_left _ _) h1, fun j hj => ?_⟩
    by_cases e : j = k
    · subst e
      exact Nat.gcd_dvd_right _ _
    · exact Nat.dvd_trans (Nat.gcd_dvd_left _ _) (h2 j (by omega))
theorem dvd_part {rows : List (List Int)} {at_ d : Nat} (h0 : d ∣ (det rows.length (gridM rows)).natAbs) : ∀ k, (∀ j, j < k → d ∣ (cofM rows at_ j).natAbs) → d ∣ partN rows at_ k
  | 0, _ => h0
  | k + 1, h => Nat.dvd_gcd (dvd_part h0 k fun j hj => h j (by omega)) (h k (by omega))
theorem part_pos {rows : List (List Int)} {at_ : Nat} (ok : OkRows rows) (op : Open rows) (k : Nat) : 0 < partN rows at_ k := by
  have := whole_pos ok op
  exact Nat.pos_of_dvd_of_pos (part_dvd k).1 (by omega)
/-- the round, from a vector of whole numbers with a one in it -/
theorem round_from {rows : List (List Int)} {at_ k0 : Nat} {P : Int} (ok : OkRows rows) (op : Open rows) (hP : 0 < P) (x : Nat → Int) (h0 : k0 < rows.length) (hx : x k0 = 1)
    (h : ∀ b, b < rows.length → sumN rows.length (fun a => x a * gridM rows a b) = P * uv at_ b) : roundN rows at_ = P := by
  have hD := whole_pos ok op
  have cr : ∀ k, k < rows.length → x k * det rows.length (gridM rows) = P * cofM rows at_ k := fun k hk => by
    rw [cramer (gridM rows) x (fun b => P * uv at_ b) hk h]
    exact det_scale _ hk P _
  have c0 := cr k0 h0
  rw [hx, Int.one_mul] at c0
  have hk : ∀ k, k < rows.length → cofM rows at_ k = x k * cofM rows at_ k0 := fun k hk => by
    have z := cr k hk
    rw [c0] at z
    refine Int.eq_of_mul_eq_mul_left (show P ≠ 0 by omega) ?_
    rw [← z]
    grind
  have p0 : 0 < cofM rows at_ k0 := by
    refine Classical.byContradiction fun z => ?_
    have : P * cofM rows at_ k0 ≤ 0 := Int.mul_nonpos_of_nonneg_of_nonpos (by omega) (by omega)
    omega
  have e : partN rows at_ rows.length = (cofM rows at_ k0).natAbs := by
    refine Nat.dvd_antisymm ((part_dvd rows.length).2 k0 h0) (dvd_part ?_ _ fun j hj => ?_)
    · rw [c0, Int.natAbs_mul]
      exact ⟨P.natAbs, Nat.mul_comm _ _⟩
    · rw [hk j hj, Int.natAbs_mul]
      exact ⟨(x j).natAbs, Nat.mul_comm _ _⟩
  unfold roundN
  rw [e, c0, show (((cofM rows at_ k0).natAbs : Nat) : Int) = cofM rows at_ k0 by omega]
  exact Int.mul_fdiv_cancel _ (by omega)

/-! Rows of turns, one behind the other -/
def PosRows (rows : List (List Int)) : Prop := ∀ row, row ∈ rows → 1 ≤ row.length
def digs : List (List Int) → Nat → List Int
  | [], _ => []
  | row :: rest, v => ((v % row.length : Nat) : Int) :: digs rest (v / row.length)
def manyT : List (List Int) → Nat
  | [] => 1
  | row :: rest => row.length * manyT rest
/-- the first j of them noughts -/
def zdigs : List (List Int) → Nat → Nat → List Int
  | [], _, _ => []
  | row :: rest, 0, v => digs (row :: rest) v
  | row :: rest, j + 1, v => 0 :: zdigs rest j (v / row.length)
/-- the first j of them at their rows' ends -/
def carry : List (List Int) → Nat → Nat → Prop
  | [], _, _ => True
  | _ :: _, 0, _ => True
  | row :: rest, j + 1, v => v % row.length = row.length - 1 ∧ carry rest j (v / row.length)
theorem zdigs_zero : ∀ (rows : List (List Int)) (v : Nat), zdigs rows 0 v = digs rows v
  | [], _ => rfl
  | _ :: _, _ => rfl
theorem carry_zero : ∀ (rows : List (List Int)) (v : Nat), carry rows 0 v
  | [], _ => trivial
  | _ :: _, _ => trivial
theorem digs_len : ∀ (rows : List (List Int)) (v : Nat), (digs rows v).length = rows.length
  | [], _ => rfl
  | row :: rest, v => by
    show (digs rest _).length + 1 = rest.length + 1
    rw [digs_len rest]
theorem zdigs_len : ∀ (rows : List (List Int)) (j v : Nat), (zdigs rows j v).length = rows.length
  | [], _, _ => rfl
  | row :: rest, 0, v => digs_len (row :: rest) v
  | row :: rest, j + 1, v => by
    show (zdigs rest j _).length + 1 = rest.length + 1
    rw [zdigs_len rest]
theorem digs_lt : ∀ (rows : List (List Int)) (v k : Nat), PosRows rows → k < rows.length → 0 ≤ (digs rows v).getD k 0 ∧ (digs rows v).getD k 0 < (rows.getD k []).length
  | [], _, k, _, h => by simp at h
  | row :: rest, v, 0, p, _ => by
    have := p row List.mem_cons_self
    have := Nat.mod_lt v (show 0 < row.length by omega)
    show 0 ≤ ((v % row.length : Nat) : Int) ∧ ((v % row.length : Nat) : Int) < row.length
    omega
  | row :: rest, v, k + 1, p, h => digs_lt rest (v / row.length) k (fun r hr => p r (List.mem_cons_of_mem _ hr)) (by simpa using h)
theorem digs_turns {rows : List (List Int)} (p : PosRows rows) (v : Nat) : TurnsOk rows (digs rows v) := ⟨digs_len rows v, fun k hk => digs_lt rows v k p hk⟩
theorem zdigs_lt : ∀ (rows : List (List Int)) (j v k : Nat), PosRows rows → k < rows.length → 0 ≤ (zdigs rows j v).getD k 0 ∧ (zdigs rows j v).getD k 0 < (rows.getD k []).length
  | [], _, _, k, _, h => by simp at h
  | row :: rest, 0, v, k, p, h => digs_lt (row :: rest) v k p h
  | row :: rest, j + 1, v, 0, p, _ => by
    have := p row List.mem_cons_self
    show 0 ≤ (0 : Int) ∧ (0 : Int) < row.length
    omega
  | row :: rest, j + 1, v, k + 1, p, h => zdigs_lt rest j (v / row.length) k (fun r hr => p r (List.mem_cons_of_mem _ hr)) (by simpa using h)
theorem nat_next {v L : Nat} (h : v % L + 1 < L) : (v + 1) % L = v % L + 1 ∧ (v + 1) / L = v / L := by
  have e := Nat.div_add_mod v L
  have e2 : v + 1 = L * (v / L) + (v % L + 1) := by omega
  refine ⟨?_, ?_⟩
  · rw [e2, Nat.mul_add_mod, Nat.mod_eq_of_lt h]
  · rw [e2, Nat.mul_add_div (by omega), Nat.div_eq_of_lt h, Nat.add_zero]
theorem nat_wrap {v L : Nat} (h0 : 0 < L) (h : v % L = L - 1) : (v + 1) % L = 0 ∧ (v + 1) / L = v / L + 1 ∧ v + 1 = L * (v / L + 1) := by
  have e := Nat.div_add_mod v L
  have e2 : v + 1 = L * (v / L + 1) := by rw [Nat.mul_add, Nat.mul_one]; omega
  refine ⟨?_, ?_, e2⟩
  · rw [e2, Nat.mul_mod_right]
  · have e3 : (L * (v / L + 1)) / L = v / L + 1 := Nat.mul_div_cancel_left _ h0
    rw [← e2] at e3
    exact e3
theorem zd_next : ∀ (rows : List (List Int)) (j v : Nat), PosRows rows → carry rows j v → j < rows.length → (zdigs rows j v).getD j 0 + 1 < (rows.getD j []).length →
    (zdigs rows j v).set j ((zdigs rows j v).getD j 0 + 1) = digs rows (v + 1) ∧ (v < manyT rows → v + 1 < manyT rows)
  | [], _, _, _, _, h, _ => by simp at h
  | row :: rest, 0, v, p, _, _, h => by
    have L1 := p row List.mem_cons_self
    have h : ((v % row.length : Nat) : Int) + 1 < row.length := h
    obtain ⟨e1, e2⟩ := nat_next (v := v) (L := row.length) (by omega)
    have e := Nat.div_add_mod v row.length
    refine ⟨?_, fun hv => ?_⟩
    · show (((v % row.length : Nat) : Int) + 1) :: digs rest (v / row.length) = (((v + 1) % row.length : Nat) : Int) :: digs rest ((v + 1) / row.length)
      rw [e1, e2]
      rfl
    · have hv : v < row.length * manyT rest := hv
      show v + 1 < row.length * manyT rest
      have q : v / row.length < manyT rest := Nat.div_lt_of_lt_mul hv
      have m : row.length * (v / row.length + 1) ≤ row.length * manyT rest := Nat.mul_le_mul_left _ q
      rw [Nat.mul_add, Nat.mul_one] at m
      omega
  | row :: rest, j + 1, v, p, c, hj, h => by
    have L1 := p row List.mem_cons_self
    obtain ⟨c1, c2⟩ : v % row.length = row.length - 1 ∧ carry rest j (v / row.length) := c
    obtain ⟨e1, e2, e3⟩ := nat_wrap (v := v) (L := row.length) (by omega) c1
    obtain ⟨i1, i2⟩ := zd_next rest j (v / row.length) (fun r hr => p r (List.mem_cons_of_mem _ hr)) c2 (by simpa using hj) h
    refine ⟨?_, fun hv => ?_⟩
    · show 0 :: (zdigs rest j (v / row.length)).set j ((zdigs rest j (v / row.length)).getD j 0 + 1) = (((v + 1) % row.length : Nat) : Int) :: digs rest ((v + 1) / row.length)
      rw [i1, e1, e2]
      rfl
    · have hv : v < row.length * manyT rest := hv
      show v + 1 < row.length * manyT rest
      have q := i2 (Nat.div_lt_of_lt_mul hv)
      rw [e3]
      exact Nat.mul_lt_mul_of_pos_left q (by omega)
theorem zd_carry : ∀ (rows : List (List Int)) (j v : Nat), PosRows rows → carry rows j v → j < rows.length → ¬ (zdigs rows j v).getD j 0 + 1 < (rows.getD j []).length →
    carry rows (j + 1) v ∧ (zdigs rows j v).set j 0 = zdigs rows (j + 1) v
  | [], _, _, _, _, h, _ => by simp at h
  | row :: rest, 0, v, p, _, _, h => by
    have L1 := p row List.mem_cons_self
    have h : ¬ ((v % row.length : Nat) : Int) + 1 < row.length := h
    have := Nat.mod_lt v (show 0 < row.length by omega)
    refine ⟨⟨by omega, carry_zero _ _⟩, ?_⟩
    show (0 : Int) :: digs rest (v / row.length) = 0 :: zdigs rest 0 (v / row.length)
    rw [zdigs_zero]
  | row :: rest, j + 1, v, p, c, hj, h => by
    obtain ⟨c1, c2⟩ : v % row.length = row.length - 1 ∧ carry rest j (v / row.length) := c
    obtain ⟨i1, i2⟩ := zd_carry rest j (v / row.length) (fun r hr => p r (List.mem_cons_of_mem _ hr)) c2 (by simpa using hj) h
    refine ⟨⟨c1, i1⟩, ?_⟩
    show (0 : Int) :: (zdigs rest j (v / row.length)).set j 0 = 0 :: zdigs rest (j + 1) (v / row.length)
    rw [i2]
theorem zd_end : ∀ (rows : List (List Int)) (v : Nat), PosRows rows → carry rows rows.length v → v < manyT rows → v + 1 = manyT rows
  | [], v, _, _, h => by
    have h : v < 1 := h
    show v + 1 = 1
    omega
  | row :: rest, v, p, c, hv => by
    have L1 := p row List.mem_cons_self
    obtain ⟨c1, c2⟩ : v % row.length = row.length - 1 ∧ carry rest rest.length (v / row.length) := c
    obtain ⟨e1, e2, e3⟩ := nat_wrap (v := v) (L := row.length) (by omega) c1
    have hv : v < row.length * manyT rest := hv
    have i := zd_end rest (v / row.length) (fun r hr => p r (List.mem_cons_of_mem _ hr)) c2 (Nat.div_lt_of_lt_mul hv)
    show v + 1 = row.length * manyT rest
    rw [← i]
    exact e3
theorem manyT_pos : ∀ (rows : List (List Int)), PosRows rows → 0 < manyT rows
  | [], _ => (by decide : 0 < 1)
  | row :: rest, p => Nat.mul_pos (p row List.mem_cons_self) (manyT_pos rest fun r hr => p r (List.mem_cons_of_mem _ hr))
/-! ### last exits of such turns -/
def lastL : List (List Int) → List Int → List Int
  | [], _ => []
  | _ :: _, [] => []
  | row :: rest, t :: ts => row.getD ((t - 1) % (row.length : Int)).toNat 0 :: lastL rest ts
theorem lastL_get : ∀ (rows : List (List Int)) (ts : List Int) (k : Nat), ts.length = rows.length → k < rows.length → (lastL rows ts).getD k 0 = lastOf rows ts k
  | [], _, _, _, h => by simp at h
  | _ :: _, [], _, h, _ => by simp at h
  | row :: rest, t :: ts, 0, _, _ => rfl
  | row :: rest, t :: ts, k + 1, h, hk => lastL_get rest ts k (by simpa using h) (by simpa using hk)
theorem tree_lastL {rows : List (List Int)} {ts : List Int} (ok : OkRows rows) (hl : ts.length = rows.length) : TreeC rows.length (lastL rows ts) ↔ Tree rows ts := by
  have key : ∀ (m k : Nat), k < rows.length → (Dn (tOf (lastL rows ts)) m k ↔ Rch (lastRows rows ts) m k) := by
    intro m
    induction m with
    | zero => intro k hk; exact ⟨fun h => h.elim, fun r => r.zero.elim⟩
    | succ m ih =>
      intro k hk
      have e : tOf (lastL rows ts) k = lastOf rows ts k := lastL_get rows ts k hl hk
      have gr : -1 ≤ lastOf rows ts k ∧ lastOf rows ts k < rows.length := lastAt_range ok hk _
      have mem : ∀ g : Int, g ∈ (lastRows rows ts).getD k [] ↔ g = lastOf rows ts k := fun g => by rw [lastRows_get hk, List.mem_singleton]
      have kl : k < (lastRows rows ts).length := by rw [lastRows_len]; exact hk
      show (tOf (lastL rows ts) k < 0 ∨ Dn (tOf (lastL rows ts)) m (tOf (lastL rows ts) k).toNat ∧ 0 ≤ tOf (lastL rows ts) k) ↔ _
      rw [e]
      constructor
      · rintro (h | ⟨h1, h2⟩)
        · exact .pit kl ((mem _).mpr (by omega))
        · exact .via kl ((mem _).mpr (by omega)) ((ih _ (by omega)).mp h1)
      · intro r
        cases r with
        | pit _ h2 =>
          have := (mem _).mp h2
          exact .inl (by omega)
        | @via _ j _ _ h2 r =>
          have := (mem _).mp h2
          have e2 : (lastOf rows ts k).toNat = j := by omega
          refine .inr ⟨?_, by omega⟩
          rw [e2]
          exact (ih j (by omega)).mpr r
  constructor
  · intro h k hk
    rw [lastRows_len] at hk
    obtain ⟨m, d⟩ := h k hk
    exact ⟨m, (key m k hk).mp d⟩
  · intro h k hk
    obtain ⟨m, r⟩ := h k (by rw [lastRows_len]; exact hk)
    exact ⟨m, (key m k hk).mpr r⟩
/-! ### sums -/
theorem sumN_split2 (g : Nat → Int) (a : Nat) : ∀ b, sumN (a + b) g = sumN a g + sumN b fun r => g (a + r)
  | 0 => by
    show sumN a g = sumN a g + 0
    omega
  | b + 1 => by
    show sumN (a + b) g + g (a + b) = sumN a g + (sumN b (fun r => g (a + r)) + g (a + b))
    rw [sumN_split2 g a b]
    omega
theorem sumN_block (g : Nat → Int) (L : Nat) : ∀ M, sumN (L * M) g = sumN M fun q => sumN L fun r => g (L * q + r)
  | 0 => rfl
  | M + 1 => by
    rw [Nat.mul_add, Nat.mul_one, sumN_split2, sumN_block g L M]
    rfl
theorem sumN_shift (f : Nat → Int) : ∀ n, sumN (n + 1) f = f 0 + sumN n (fun b => f (b + 1))
  | 0 => by
    show 0 + f 0 = f 0 + 0
    omega
  | n + 1 => by
    show sumN (n + 1) f + f (n + 1) = f 0 + (sumN n (fun b => f (b + 1)) + f (n + 1))
    rw [sumN_shift f n]
    omega
theorem sumN_list {α : Type} (h : α → Int) (d : α) : ∀ l : List α, sumN l.length (fun i => h (l.getD i d)) = (l.map h).sum
  | [] => rfl
  | x :: l => by
    rw [List.length_cons, sumN_shift, List.map_cons, List.sum_cons, ← sumN_list h d l]
    rfl
theorem sum_cyc (h : Int → Int) (row : List Int) (p : 1 ≤ row.length) : sumN row.length (fun r => h (row.getD ((((r : Nat) : Int) - 1) % (row.length : Int)).toNat 0)) = (row.map h).sum := by
  rw [← sumN_list h 0 row]
  obtain ⟨m, hm⟩ : ∃ m, row.length = m + 1 := ⟨row.length - 1, by omega⟩
  rw [hm, sumN_shift]
  show h (row.getD ((((0 : Nat) : Int) - 1) % ((m + 1 : Nat) : Int)).toNat 0) + _ = sumN m (fun i => h (row.getD i 0)) + h (row.getD m 0)
  have e0 : ((((0 : Nat) : Int) - 1) % ((m + 1 : Nat) : Int)).toNat = m := by
    have : (((0 : Nat) : Int) - 1) % ((m + 1 : Nat) : Int) = m := by
      rw [show (((0 : Nat) : Int) - 1) = (m : Int) + ((m + 1 : Nat) : Int) * (-1) by omega, Int.add_mul_emod_self_left]
      exact Int.emod_eq_of_lt (by omega) (by omega)
    omega
  rw [e0]
  have e1 : sumN m (fun b => h (row.getD ((((b + 1 : Nat) : Int) - 1) % ((m + 1 : Nat) : Int)).toNat 0)) = sumN m fun i => h (row.getD i 0) := sumN_congr m fun i hi => by
    have : (((i + 1 : Nat) : Int) - 1) % ((m + 1 : Nat) : Int) = i := by
      rw [show (((i + 1 : Nat) : Int) - 1) = i by omega]
      exact Int.emod_eq_of_lt (by omega) (by omega)
    rw [this, Int.toNat_natCast]
  rw [e1]
  omega
theorem sum_flat {α : Type} (f : α → Int) : ∀ (l : List α) (g : α → List α), ((l.flatMap g).map f).sum = (l.map fun x => ((g x).map f).sum).sum
  | [], _ => rfl
  | x :: l, g => by
    rw [List.flatMap_cons, List.map_append, List.sum_append, sum_flat f l g, List.map_cons, List.sum_cons]
theorem sum_digs : ∀ (rows : List (List Int)) (f : List Int → Int), PosRows rows → sumN (manyT rows) (fun v => f (lastL rows (digs rows v))) = ((choices rows).map f).sum
  | [], f, _ => by
    show 0 + f [] = f [] + 0
    omega
  | row :: rest, f, p => by
    have L1 := p row List.mem_cons_self
    have ih := sum_digs rest (fun c => (row.map fun g => f (g :: c)).sum) fun r hr => p r (List.mem_cons_of_mem _ hr)
    show sumN (row.length * manyT rest) _ = (((choices rest).flatMap fun l => row.map fun g => g :: l).map f).sum
    rw [sumN_block, sum_flat]
    have e : (choices rest).map (fun x => ((row.map fun g => g :: x).map f).sum) = (choices rest).map fun c => (row.map fun g => f (g :: c)).sum := List.map_congr_left fun c _ => by
      rw [List.map_map]
      rfl
    rw [e, ← ih]
    refine sumN_congr _ fun q _ => ?_
    rw [← sum_cyc (fun g => f (g :: lastL rest (digs rest q))) row L1]
    refine sumN_congr _ fun r hr => ?_
    show f (row.getD (((((row.length * q + r) % row.length : Nat) : Int) - 1) % (row.length : Int)).toNat 0 :: lastL rest (digs rest ((row.length * q + r) / row.length))) = _
    rw [Nat.mul_add_mod, Nat.mod_eq_of_lt hr, Nat.mul_add_div (by omega), Nat.div_eq_of_lt hr, Nat.add_zero]
theorem OkRows.posR {rows : List (List Int)} (ok : OkRows rows) : PosRows rows := fun row hr => (ok.2.2 row hr).1
/-- trees among the first v rows of turns -/
noncomputable def treesUp (rows : List (List Int)) (v : Nat) : Int := sumN v fun w => pk (Tree rows (digs rows w)) 1 0
theorem treesUp_all {rows : List (List Int)} (ok : OkRows rows) : treesUp rows (manyT rows) = treesN rows := by
  unfold treesN
  rw [← sum_digs rows _ ok.posR]
  refine sumN_congr _ fun v _ => ?_
  have t := tree_lastL ok (digs_len rows v)
  by_cases h : Tree rows (digs rows v)
  · rw [pk_pos h, pk_pos (t.mpr h)]
  · rw [pk_neg h, pk_neg fun z => h (t.mp z)]
/-! ### boards below others -/
theorem det_first (n : Nat) (M : Mat) (z : ∀ b, 0 < b → b < n + 1 → M 0 b = 0) : det (n + 1) M = M 0 0 * det n fun a b => M (a + 1) (b + 1) := by
  rw [det_succ, sumN_one (r := 0) (n + 1) (by omega) fun i hi hne => ?_]
  · show sgn 0 * M 0 0 * det n (minor M 0) = _
    rw [show sgn 0 = 1 from rfl, Int.one_mul]
    congr 1
  · by_cases hn : 0 < n
    · rw [det_zero_row n (minor M i) 0 hn fun b hb => ?_, Int.mul_zero]
      show M (skip i 0) (b + 1) = 0
      rw [show skip i 0 = 0 from if_pos (by omega)]
      exact z _ (by omega) (by omega)
    · omega
def prodN : Nat → (Nat → Int) → Int
  | 0, _ => 1
  | n + 1, f => f 0 * prodN n fun i => f (i + 1)
theorem det_block : ∀ (n1 n2 : Nat) (M : Mat), (∀ a b, a < n1 → a < b → b < n1 + n2 → M a b = 0) → det (n1 + n2) M = prodN n1 (fun a => M a a) * det n2 fun a b => M (n1 + a) (n1 + b)
  | 0, n2, M, _ => by
    show det (0 + n2) M = 1 * _
    rw [Int.one_mul, Nat.zero_add]
    exact det_congr n2 fun a b _ _ => by rw [Nat.zero_add, Nat.zero_add]
  | n1 + 1, n2, M, h => by
    rw [show n1 + 1 + n2 = n1 + n2 + 1 by omega, det_first (n1 + n2) M fun b h0 hb => h 0 b (by omega) h0 (by omega),
      det_block n1 n2 (fun a b => M (a + 1) (b + 1)) fun a b ha hab hb => h (a + 1) (b + 1) (by omega) (by omega) (by omega)]
    show M 0 0 * (prodN n1 (fun a => M (a + 1) (a + 1)) * _) = M 0 0 * prodN n1 (fun i => M (i + 1) (i + 1)) * _
    rw [Int.mul_assoc]
    congr 2
    exact det_congr n2 fun a b _ _ => by rw [show n1 + a + 1 = n1 + 1 + a by omega, show n1 + b + 1 = n1 + 1 + b by omega]

/-! Rows that lead downwards, and others set above them -/
def movedI (g many : Int) : Int := if g < 0 then g else g + many
def liftRows (n : Nat) (rows : List (List Int)) : List (List Int) := rows.map fun row => row.map fun g => movedI g n
theorem liftRows_len (n : Nat) (rows : List (List Int)) : (liftRows n rows).length = rows.length := by simp [liftRows]
theorem liftRows_get (n : Nat) {rows : List (List Int)} {k : Nat} (h : k < rows.length) : (liftRows n rows).getD k [] = (rows.getD k []).map fun g => movedI g n := by
  unfold liftRows
  rw [List.getD_eq_getElem?_getD, List.getElem?_map, List.getElem?_eq_getElem h, List.getD_eq_getElem?_getD, List.getElem?_eq_getElem h]
  rfl
theorem count_moved (n b : Nat) : ∀ row : List Int, (row.map fun g => movedI g n).count ((n + b : Nat) : Int) = row.count (b : Int)
  | [] => rfl
  | g :: row => by
    rw [List.map_cons, List.count_cons, List.count_cons, count_moved n b row]
    congr 1
    have e : (movedI g n == ((n + b : Nat) : Int)) = (g == (b : Int)) := by
      rw [Bool.eq_iff_iff, beq_iff_eq, beq_iff_eq]
      unfold movedI
      split <;> omega
    rw [e]
theorem onto_low {low up : List (List Int)} {k : Nat} (h : k < low.length) : (low ++ up).getD k [] = low.getD k [] := by
  rw [List.getD_eq_getElem?_getD, List.getElem?_append_left h, ← List.getD_eq_getElem?_getD]
theorem onto_up {low up : List (List Int)} (k : Nat) : (low ++ up).getD (low.length + k) [] = up.getD k [] := by
  rw [List.getD_eq_getElem?_getD, List.getElem?_append_right (by omega), ← List.getD_eq_getElem?_getD]
  congr 1
  omega
theorem onto_ok {low rows : List (List Int)} (ok1 : OkRows low) (ok2 : OkRows rows) (h : low.length + rows.length ≤ 12) : OkRows (low ++ liftRows low.length rows) := by
  have hl := liftRows_len low.length rows
  refine ⟨by have := ok1.1; rw [List.length_append]; omega, by rw [List.length_append, hl]; exact h, fun row hr => ?_⟩
  rw [List.length_append, hl]
  rcases List.mem_append.mp hr with hr | hr
  · obtain ⟨a, b, c⟩ := ok1.2.2 row hr
    exact ⟨a, b, fun g hg => by have := c g hg; omega⟩
  · obtain ⟨row', hm, rfl⟩ := List.mem_map.mp hr
    obtain ⟨a, b, c⟩ := ok2.2.2 row' hm
    refine ⟨by rw [List.length_map]; exact a, by rw [List.length_map]; exact b, fun g hg => ?_⟩
    obtain ⟨g', hg', rfl⟩ := List.mem_map.mp hg
    have := c g' hg'
    unfold movedI
    split <;> omega
def lensN (low : List (List Int)) (a : Nat) : Int := ((low.getD a []).length : Int)
theorem onto_det {low rows : List (List Int)} (ok1 : OkRows low) (dn : ∀ k : Nat, k < low.length → ∀ g, g ∈ low.getD k [] → g < k) :
    det (low ++ liftRows low.length rows).length (gridM (low ++ liftRows low.length rows)) = prodN low.length (lensN low) * det rows.length (gridM rows) := by
  have hl := liftRows_len low.length rows
  have hL : (low ++ liftRows low.length rows).length = low.length + rows.length := by rw [List.length_append, hl]
  have cnt : ∀ a b : Nat, a < low.length → a ≤ b → (low.getD a []).count (b : Int) = 0 := fun a b ha hab => by
    refine List.count_eq_zero.mpr fun hm => ?_
    have := dn a ha _ hm
    omega
  rw [hL, det_block low.length rows.length _ fun a b ha hab hb => ?_]
  · have e1 : prodN low.length (fun a => gridM (low ++ liftRows low.length rows) a a) = prodN low.length (lensN low) := by
      have gen : ∀ n (f g : Nat → Int), (∀ i, i < n → f i = g i) → prodN n f = prodN n g := by
        intro n
        induction n with
        | zero => intro f g _; rfl
        | succ n ih =>
          intro f g h
          show f 0 * prodN n _ = g 0 * prodN n _
          rw [h 0 (by omega), ih _ _ fun i hi => h (i + 1) (by omega)]
      refine gen _ _ _ fun a ha => ?_
      rw [gridM_get (by omega) (by omega), if_pos rfl, onto_low ha, cnt a a ha (Nat.le_refl _)]
      unfold lensN
      omega
    rw [e1]
    congr 1
    refine det_congr _ fun a b ha hb => ?_
    rw [gridM_get (by omega) (by omega), gridM_get ha hb, onto_up, liftRows_get _ ha, List.length_map, count_moved, count_moved]
    by_cases e : b = a
    · rw [if_pos (by omega), if_pos e]
    · rw [if_neg (by omega), if_neg e]
  · rw [gridM_get (by omega) (by omega), if_neg (by omega), onto_low ha, cnt a b ha (by omega)]
    rfl
theorem prodN_back : ∀ (n : Nat) (f : Nat → Int), prodN (n + 1) f = prodN n f * f n
  | 0, f => by
    show f 0 * 1 = 1 * f 0
    omega
  | n + 1, f => by
    show f 0 * prodN (n + 1) (fun i => f (i + 1)) = f 0 * prodN n (fun i => f (i + 1)) * f (n + 1)
    rw [prodN_back n fun i => f (i + 1), Int.mul_assoc]
theorem laidRow1 {H : Hp} {p q : Addr} {row : List Int} (np : H p = none) (nq : upd H p (ilst row) q = none) : Same H (upd (upd H p (ilst row)) q (.lst [V.ref p])) ∧ RowsAt (upd (upd H p (ilst row)) q (.lst [V.ref p])) q [row] := by
  have ne : p ≠ q := fun z => by
    subst z
    rw [upd_same] at nq
    cases nq
  refine ⟨(same_upd np).trans (same_upd nq), [p], upd_same, rfl, fun i r row' h1 h2 => ?_⟩
  cases i with
  | zero =>
    cases h1
    cases h2
    rw [upd_ne ne]
    exact upd_same
  | succ i => simp at h1
/-- xs + ys of rows -/
theorem g_catRows {H : Hp} {Q : VK} {p q : Addr} {r1 r2 : List (List Int)} (R1 : RowsAt H p r1) (R2 : RowsAt H q r2) (hl : r1.length + r2.length ≤ 100000) (h : ∀ c H', Same H H' → RowsAt H' c (r1 ++ r2) → Q (.ref c) H') : rCat (.ref p) (.ref q) H Q := by
  obtain ⟨as, a1, a2, a3⟩ := R1
  obtain ⟨bs, b1, b2, b3⟩ := R2
  refine ⟨p, q, _, _, rfl, rfl, a1, b1, by rw [List.length_map, List.length_map]; exact Nat.le_trans (by omega) (show 100000 ≤ sizeLine by decide), fun c nc => ?_⟩
  refine h c _ (same_upd nc) ⟨as ++ bs, by rw [List.map_append]; exact upd_same, by rw [List.length_append, List.length_append, a2, b2], fun i r row e1 e2 => ?_⟩
  by_cases z : i < as.length
  · rw [List.getElem?_append_left z] at e1
    rw [List.getElem?_append_left (by omega)] at e2
    exact same_upd nc _ _ (a3 i r row e1 e2)
  · rw [List.getElem?_append_right (by omega)] at e1
    rw [List.getElem?_append_right (by omega), ← a2] at e2
    exact same_upd nc _ _ (b3 _ r row e1 e2)
theorem one_ok : OkRows [[-1, -1, 0]] := by
  refine ⟨by decide, by decide, fun row h => ?_⟩
  rw [List.mem_singleton.mp h]
  refine ⟨by decide, by decide, fun g hg => ?_⟩
  simp at hg
  rcases hg with rfl | rfl <;> decide
theorem one_det : det [[-1, -1, (0 : Int)]].length (gridM [[-1, -1, 0]]) = 2 := by
  show det 1 _ = 2
  rw [det_succ]
  show 0 + sgn 0 * gridM [[-1, -1, 0]] 0 0 * det 0 _ = 2
  rw [gridM_get (by decide) (by decide)]
  rfl

@[irreducible] def sp_drawn (K : PySem.W.Frag) (_ : Ads) : Sp := fun vs H Q _ => ∃ (a : Addr) (ns : List Int) (k many : Int), vs = [.ref a, .int k, .int many] ∧ SqL K H a (ns.map V.int) ∧ 0 ≤ k ∧ k < 2147483648 ∧ 0 < many ∧
  ∀ d, 0 ≤ d → d < many → Q (.int d) H
theorem len_drawn {K : PySem.W.Frag} {G : Ads} {vs H Q E} (h : sp_drawn K G vs H Q E) : vs.length = 3 := by
  unfold sp_drawn at h
  obtain ⟨a, ns, k, many, rfl, _⟩ := h
  rfl
theorem c_drawn {K : PySem.W.Frag} {G : Ads} {H : Hp} {Q : VK} {E : XK} {a : Addr} {ns : List Int} {k many : Int} (s : SqL K H a (ns.map V.int)) (h0 : 0 ≤ k) (h1 : k < 2147483648) (h2 : 0 < many) (q : ∀ d, 0 ≤ d → d < many → Q (.int d) H) :
    sp_drawn K G [.ref a, .int k, .int many] H Q E := by
  unfold sp_drawn
  exact ⟨a, ns, k, many, rfl, s, h0, h1, h2, q⟩
def t_drawn_c2 (K : PySem.W.Frag) (G : Ads) (E : XK) : TS :=
  (tSeq (tAsg (tOp mAdd (tOp mAdd (tOp mMul (tVar 3) (tOp mAdd (tC (.int 48271)) (tOp mMul (tC (.int 9973)) (tOp mMod (tVar 1) (tC (.int 97)))))) (tOp mMul (tOp mMul (tOp mAdd (tVar 1) (tC (.int 1))) (tOp mAdd (tVar 1) (tC (.int 3)))) (tC (.int 16807)))) (tCB (mLen K) (tCons (tVar 0) tNil))) (gName 4))
    (tRet (tOp mMod (tOp mFdiv (tOp mMod (tVar 4) (tC (.int 2147483647))) (tC (.int 16))) (tVar 2))))
def t_drawn (K : PySem.W.Frag) (G : Ads) (E : XK) : TS :=
  (tSeq (tAsg (tC (.int 7)) (gName 3))
    (tSeq (tIfS (tTest (tOp mGt (tCB (mLen K) (tCons (tVar 0) tNil)) (tC (.int 0))))
    (tAsg (tOp (rIxL K) (tVar 0) (tOp mMod (tVar 1) (tCB (mLen K) (tCons (tVar 0) tNil)))) (gName 3))
    tNext)
    (t_drawn_c2 K G E)))
abbrev N_drawn : List Str := ["script", "k", "many", "cell", "mixed"]

theorem pure_drawn {K : PySem.W.Frag} {G : Ads} {vs H Q E} (h : sp_drawn K G vs H Q E) : t_drawn K G E { nx := fun _ H' => Q .non H', rt := Q } (start N_drawn vs) H := by
  unfold sp_drawn at h
  obtain ⟨a, ns, k, many, rfl, hS, hk, hk2, hm, q⟩ := h
  show t_drawn K G E _ [some (.ref a), some (.int k), some (.int many), none, none] H
  unfold t_drawn
  walk_at "g"
  have fin : ∀ c : Int, t_drawn_c2 K G E { nx := fun _ H' => Q .non H', rt := Q } [some (.ref a), some (.int k), some (.int many), some (.int c), none] H := fun c => by
    unfold t_drawn_c2
    walk_at "g"
    exact q _ (Int.emod_nonneg _ (by omega)) (Int.emod_lt_of_pos _ hm)
  refine ifP (fun h => ?_) (fun h => ?_)
  · walk_at "g"
    exact fin _
  · walk_at "g"
    exact fin _

@[irreducible] def sp_any_by (K : PySem.W.Frag) (_ : Ads) : Sp := fun vs H Q _ => ∃ (a : Addr) (ns : List Int) (most wide : Int), vs = [.ref a, .int most, .int wide] ∧ SqL K H a (ns.map V.int) ∧ 1 ≤ most ∧ most ≤ 12 ∧ 1 ≤ wide ∧ wide ≤ 8 ∧
  ∀ (p : Addr) (rows : List (List Int)) (H' : Hp), OkRows rows → rows.length ≤ most → (∀ row, row ∈ rows → (row.length : Int) ≤ wide) → Same H H' → NewRows H H' p rows → Q (.ref p) H'
theorem len_any_by {K : PySem.W.Frag} {G : Ads} {vs H Q E} (h : sp_any_by K G vs H Q E) : vs.length = 3 := by
  unfold sp_any_by at h
  obtain ⟨a, ns, most, wide, rfl, _⟩ := h
  rfl
theorem c_any_by {K : PySem.W.Frag} {G : Ads} {H : Hp} {Q : VK} {E : XK} {a : Addr} {ns : List Int} {most wide : Int} (s : SqL K H a (ns.map V.int)) (h1 : 1 ≤ most) (h2 : most ≤ 12) (h3 : 1 ≤ wide) (h4 : wide ≤ 8)
    (q : ∀ (p : Addr) (rows : List (List Int)) (H' : Hp), OkRows rows → rows.length ≤ most → (∀ row, row ∈ rows → (row.length : Int) ≤ wide) → Same H H' → NewRows H H' p rows → Q (.ref p) H') : sp_any_by K G [.ref a, .int most, .int wide] H Q E := by
  unfold sp_any_by
  exact ⟨a, ns, most, wide, rfl, s, h1, h2, h3, h4, q⟩
def t_any_by_c2_4 (K : PySem.W.Frag) (G : Ads) (E : XK) : TS :=
  (tDrop (tBM K "list" rAppend (tVar 4) (tCons (tVar 8) tNil)))
def t_any_by (K : PySem.W.Frag) (G : Ads) (E : XK) : TS :=
  (tSeq (tAsg (tOp mAdd (tC (.int 1)) (tCall (sp_drawn K G) [] E0 (tCons (tVar 0) (tCons (tC (.int 1)) (tCons (tVar 1) tNil))))) (gName 3))
    (tSeq (tAsg (tLst tNil) (gName 4))
    (tSeq (tFor (iRng1 (tCons (tVar 3) tNil)) (gName 5)
    (tSeq (tAsg (tOp mAdd (tC (.int 10)) (tOp mMul (tC (.int 20)) (tVar 5))) (gName 6))
    (tSeq (tAsg (tOp mAdd (tC (.int 1)) (tCall (sp_drawn K G) [] E0 (tCons (tVar 0) (tCons (tVar 6) (tCons (tVar 2) tNil))))) (gName 7))
    (tSeq (tAsg (tLc (iRng1 (tCons (tVar 7) tNil)) (gName 9) tYes (tCall (sp_drawn K G) [] E0 (tCons (tVar 0) (tCons (tOp mAdd (tOp mAdd (tVar 6) (tC (.int 3))) (tVar 9)) (tCons (tVar 3) tNil)))) [9]) (gName 8))
    (tSeq (tIfS (tTest (tOp rEq (tCall (sp_drawn K G) [] E0 (tCons (tVar 0) (tCons (tOp mAdd (tVar 6) (tC (.int 1))) (tCons (tC (.int 3)) tNil)))) (tC (.int 1))))
    (tAsg (tUn mNeg (tC (.int 1))) (gSub (tVar 8) (tCall (sp_drawn K G) [] E0 (tCons (tVar 0) (tCons (tOp mAdd (tVar 6) (tC (.int 2))) (tCons (tVar 7) tNil)))) rSetL))
    tNext)
    (t_any_by_c2_4 K G E))))))
    (tRet (tVar 4)))))
abbrev N_any_by : List Str := ["script", "most", "wide", "many", "rows", "k", "at", "size", "row", "j"]

theorem pure_any_by {K : PySem.W.Frag} {G : Ads} {vs H Q E} (h : sp_any_by K G vs H Q E) : t_any_by K G E { nx := fun _ H' => Q .non H', rt := Q } (start N_any_by vs) H := by
  unfold sp_any_by at h
  obtain ⟨a, ns, most, wide, rfl, hS, h1, h2, h3, h4, q⟩ := h
  show t_any_by K G E _ [some (.ref a), some (.int most), some (.int wide), none, none, none, none, none, none, none] H
  unfold t_any_by
  walk_at "g"
  refine c_drawn hS (by decide) (by decide) (by omega) fun d d0 d1 => ?_
  obtain ⟨m, hm⟩ : ∃ m : Nat, (m : Int) = 1 + d := ⟨(1 + d).toNat, by omega⟩
  walk_at "g"
  rw [← hm]
  refine ⟨by show 0 ≤ sizeLine; decide, fun D nD => ?_⟩
  have led0 : Led H (rowLed D [] []) (upd H D (.lst [])) := (Led.nil H).alloc nD _
  walk_at "g"
  refine loopR (fun k σ H' => (∃ v5 v6 v7 v8, σ = [some (.ref a), some (.int most), some (.int wide), some (.int m), some (.ref D), v5, v6, v7, v8, none]) ∧ ∃ (as : List Addr) (rows : List (List Int)), as.length = rows.length ∧ rows.length = k ∧
    (∀ row, row ∈ rows → 1 ≤ row.length ∧ (row.length : Int) ≤ wide ∧ ∀ g, g ∈ row → -1 ≤ g ∧ g < m) ∧ Led H (rowLed D as rows) H') ⟨⟨_, _, _, _, rfl⟩, [], [], rfl, rfl, fun row hr => by simp at hr, led0⟩ ?_ ?_
  · rintro k σ H' hk ⟨⟨v5, v6, v7, v8, rfl⟩, as, rows, e1, e2, hrow, led⟩
    have hk : k < m := by simpa using hk
    show tSeq _ _ _ [some (.ref a), some (.int most), some (.int wide), some (.int m), some (.ref D), some (.int (0 + k)), v6, v7, v8, none] H'
    walk_at "g"
    refine c_drawn (led.base hS) (by omega) (by omega) (by omega) fun z z0 z1 => ?_
    obtain ⟨w, hw⟩ : ∃ w : Nat, (w : Int) = 1 + z := ⟨(1 + z).toNat, by omega⟩
    walk_at "g"
    rw [← hw]
    walk_at "g"
    refine lcRI (fun gs => ∀ g, g ∈ gs → -1 ≤ g ∧ g < m) (fun g hg => by simp at hg) (by omega) (fun _ => rfl) (fun R j gs H1 S hj ej pj l1 qs => ?_) (fun R gs H1 nR el p s1 e1' => ?_)
    · walk_at "g"
      refine c_drawn (l1.base (led.base hS)) (by omega) (by omega) (by omega) fun y y0 y1 => ?_
      refine qs y _ (fun g hg => ?_) l1
      rcases List.mem_append.mp hg with hg | hg
      · exact pj g hg
      · simp at hg
        omega
    have l1 : Led H' [(R, ilst gs)] H1 := (Led.nil H').add s1 nR e1'
    have sD : SqL K H1 D (as.map V.ref) := SqL.of (s1 _ _ (led.get 0 rfl))
    have hS1 := s1.seq (led.base hS)
    have fin : ∀ (D0 : Ends) (gs' : List Int), gs'.length = w → (∀ g, g ∈ gs' → -1 ≤ g ∧ g < m) → ∀ H2, Led H' [(R, ilst gs')] H2 → (∀ H3, (∃ (as : List Addr) (rows : List (List Int)), as.length = rows.length ∧ rows.length = k + 1 ∧
        (∀ row, row ∈ rows → 1 ≤ row.length ∧ (row.length : Int) ≤ wide ∧ ∀ g, g ∈ row → -1 ≤ g ∧ g < m) ∧ Led H (rowLed D as rows) H3) → D0.nx [some (.ref a), some (.int most), some (.int wide), some (.int m), some (.ref D), some (.int (0 + k)), some (.int (10 + 20 * (0 + k))), some (.int w), some (.ref R), none] H3) →
        t_any_by_c2_4 K G E D0 [some (.ref a), some (.int most), some (.int wide), some (.int m), some (.ref D), some (.int (0 + k)), some (.int (10 + 20 * (0 + k))), some (.int w), some (.ref R), none] H2 := by
      intro D0 gs' hl hg H2 l2 hD
      have l3 := led.add l2.same nR (l2.get 0 rfl)
      unfold t_any_by_c2_4
      walk_at "g"
      try refine g_ty (SqL.of (l3.get 0 rfl)) ?_
      walk_at "g"
      refine g_app l3 0 rfl (by rw [List.length_map]; omega) fun H3 l4 => ?_
      rw [rowLed_push e1] at l4
      refine hD H3 ⟨as ++ [R], rows ++ [gs'], by simp [e1], by simp [e2], fun row hr => ?_, l4⟩
      rcases List.mem_append.mp hr with hr | hr
      · exact hrow row hr
      · simp at hr
        subst hr
        exact ⟨by omega, by omega, hg⟩
    walk_at "g"
    refine c_drawn hS1 (by omega) (by omega) (by decide) fun y y0 y1 => ?_
    walk_at "g"
    refine ifP (fun hy => ?_) (fun hy => ?_)
    · walk_at "g"
      refine c_drawn hS1 (by omega) (by omega) (by omega) fun c c0 c1 => ?_
      refine g_setL l1 0 rfl c0 (by omega) fun H2 l2 => ?_
      refine fin _ _ (by rw [List.length_set]; omega) (fun g hg => ?_) H2 l2 fun H3 h => ⟨⟨_, _, _, _, rfl⟩, h⟩
      rcases List.mem_or_eq_of_mem_set hg with hg | hg
      · exact p g hg
      · omega
    · walk_at "g"
      exact fin _ gs (by omega) p H1 l1 fun H3 h => ⟨⟨_, _, _, _, rfl⟩, h⟩
  · rintro σ H' ⟨⟨v5, v6, v7, v8, rfl⟩, as, rows, e1, e2, hrow, led⟩
    have e2 : rows.length = m := by omega
    walk_at "g"
    refine q D rows H' ⟨by omega, by omega, fun row hr => ?_⟩ (by omega) (fun row hr => (hrow row hr).2.1) led.same (led.rowNew e1)
    obtain ⟨r1, r2, r3⟩ := hrow row hr
    exact ⟨r1, by omega, by rw [e2]; exact r3⟩

@[irreducible] def sp_other (_ : PySem.W.Frag) (_ : Ads) : Sp := fun vs H Q _ => ∃ (g many : Int), vs = [.int g, .int many] ∧ Q (.int (other g many)) H
theorem len_other {K : PySem.W.Frag} {G : Ads} {vs H Q E} (h : sp_other K G vs H Q E) : vs.length = 2 := by
  unfold sp_other at h
  obtain ⟨a, ns, rfl, _⟩ := h
  rfl
theorem c_other {K : PySem.W.Frag} {G : Ads} {H : Hp} {Q : VK} {E : XK} {g many : Int} (q : Q (.int (other g many)) H) : sp_other K G [.int g, .int many] H Q E := by
  unfold sp_other
  exact ⟨g, many, rfl, q⟩
def t_other (K : PySem.W.Frag) (G : Ads) (E : XK) : TS :=
  (tSeq (tIfS (tTest (tOp mLt (tVar 0) (tC (.int 0))))
    (tRet (tVar 0))
    tNext)
    (tRet (tOp mSub (tOp mSub (tVar 1) (tC (.int 1))) (tVar 0))))
abbrev N_other : List Str := ["gone", "many"]

theorem pure_other {K : PySem.W.Frag} {G : Ads} {vs H Q E} (h : sp_other K G vs H Q E) : t_other K G E { nx := fun _ H' => Q .non H', rt := Q } (start N_other vs) H := by
  unfold sp_other at h
  obtain ⟨g, many, rfl, q⟩ := h
  show t_other K G E _ [some (.int g), some (.int many)] H
  unfold t_other
  walk_at "g"
  unfold other at q
  refine ifP (fun h => ?_) (fun h => ?_)
  · walk_at "g"
    rw [if_pos h] at q
    exact q
  · walk_at "g"
    rw [if_neg h] at q
    exact q
/-- [[other(gone, many) for gone in row] for row in reversed(rows)] -/
theorem g_lcFlip {K : PySem.W.Frag} {G : Ads} {σ : L2.St} {H : Hp} {Q : VK} {i j m : Nat} {vs ws : List Nat} {a : Addr} {rows : List (List Int)} (R : RowsAt H a rows) (hn : rows.length ≤ 100000) (hrow : ∀ k, k < rows.length → (rows.getD k []).length ≤ 100000)
    (hw : ∀ x : V, wipe ((wipe σ vs).set i (some x)) vs = wipe σ vs) (hw2 : ∀ x y : V, wipe ((wipe ((wipe σ vs).set i (some x)) ws).set j (some y)) ws = wipe ((wipe σ vs).set i (some x)) ws)
    (h1 : ∀ x : V, ((wipe σ vs).set i (some x))[i]? = some (some x)) (h2 : ∀ x y : V, ((wipe ((wipe σ vs).set i (some x)) ws).set j (some y))[j]? = some (some y)) (h3 : ∀ x y : V, ((wipe ((wipe σ vs).set i (some x)) ws).set j (some y))[m]? = some (some (.int rows.length)))
    (hd : ∀ D H1, Same H H1 → NewRows H H1 D (flipRows rows) → Q (.ref D) H1) :
    ∃ (b : Addr) (ys : List V), [V.ref a] = [.ref b] ∧ SqL K H b ys ∧ LcV K b ys.length i tYes (tLc (iList K (tVar i)) (gName j) tYes (tCall (sp_other K G) [] E0 (tCons (tVar j) (tCons (tVar m) tNil))) ws) vs σ H Q := by
  obtain ⟨bs, s1, e1, at1⟩ := R.sq (K := K)
  refine g_lstv s1 ?_
  have hbl : (bs.map V.ref).length = rows.length := by rw [List.length_map, e1]
  refine lcVRows (fun rs => ∀ k : Nat, k < rs.length → rs.getD k [] = (flipRows rows).getD k []) (fun k hk => by simp at hk) (by rw [hbl]; omega) s1 hw (fun D k v cs rs H2 S hk hx el p l2 qs => ?_) (fun D rs H2 el p s2 n2 => ?_)
  · rw [hbl] at hk
    rw [hbl] at hx
    obtain ⟨r, rfl, hk2, hr2⟩ := at1 _ _ hx
    refine g_lcL (g_var (h1 _) (g_lstw (l2.base hr2) ?_))
    refine lcLI (fun zs => zs = ((rows.getD (rows.length - 1 - k) []).map (fun g => other g rows.length)).take zs.length) rfl (by rw [List.length_map]; exact hrow _ hk2) (l2.base hr2) (fun x => hw2 _ x) (fun D2 j v zs H3 S3 hx3 el3 p3 l3 qs3 => ?_) (fun D2 zs H3 nD2 el3 p3 s3 hD2 => ?_)
    · obtain ⟨g, hg, rfl⟩ : ∃ g, (rows.getD (rows.length - 1 - k) [])[j]? = some g ∧ v = V.int g := by
        rw [List.getElem?_map] at hx3
        cases z : (rows.getD (rows.length - 1 - k) [])[j]? with
        | none =>
          rw [z] at hx3
          cases hx3
        | some g =>
          rw [z] at hx3
          exact ⟨g, rfl, (Option.some.inj hx3).symm⟩
      refine g_call (g_cons (g_var (h2 _ _) (g_cons (g_var (h3 _ _) (g_nil ?_)))))
      refine c_other (qs3 _ _ ?_ l3)
      rw [List.length_append, el3]
      show zs ++ [other g rows.length] = List.take (j + 1) _
      rw [List.take_add_one, List.getElem?_map, hg, ← el3, ← p3]
      rfl
    · rw [List.length_map] at el3
      refine qs D2 zs H3 (fun m hm2 => ?_) (l2.add s3 nD2 hD2)
      rw [List.length_append] at hm2
      by_cases z : m < rs.length
      · rw [List.getD_eq_getElem?_getD, List.getElem?_append_left z, ← List.getD_eq_getElem?_getD]
        exact p m z
      · have e2 : m = rs.length := by simp at hm2; omega
        subst e2
        rw [List.getD_eq_getElem?_getD, List.getElem?_append_right (Nat.le_refl _), Nat.sub_self, el, flip_at hk]
        show zs = _
        rw [p3, el3, ← List.length_map (f := fun g => other g rows.length), List.take_length]
  · rw [hbl] at el
    have er : rs = flipRows rows := rows_ext (by rw [flip_length]; exact el) p
    subst er
    exact hd D H2 s2 n2

@[irreducible] def sp_small_by (K : PySem.W.Frag) (_ : Ads) : Sp := fun vs H Q _ => ∃ (a : Addr) (ns : List Int) (most : Int), vs = [.ref a, .int most] ∧ SqL K H a (ns.map V.int) ∧ 1 ≤ most ∧ most ≤ 4 ∧
  ∀ (p : Addr) (rows : List (List Int)) (H' : Hp), Shape rows → rows.length ≤ most → (∀ row, row ∈ rows → row.length ≤ 3) → Same H H' → NewRows H H' p rows → Q (.ref p) H'
theorem len_small_by {K : PySem.W.Frag} {G : Ads} {vs H Q E} (h : sp_small_by K G vs H Q E) : vs.length = 2 := by
  unfold sp_small_by at h
  obtain ⟨_, _, _, rfl, _⟩ := h
  rfl
theorem c_small_by {K : PySem.W.Frag} {G : Ads} {H : Hp} {Q : VK} {E : XK} {a : Addr} {ns : List Int} {most : Int} (s : SqL K H a (ns.map V.int)) (h1 : 1 ≤ most) (h2 : most ≤ 4)
    (q : ∀ (p : Addr) (rows : List (List Int)) (H' : Hp), Shape rows → rows.length ≤ most → (∀ row, row ∈ rows → row.length ≤ 3) → Same H H' → NewRows H H' p rows → Q (.ref p) H') : sp_small_by K G [.ref a, .int most] H Q E := by
  unfold sp_small_by
  exact ⟨a, ns, most, rfl, s, h1, h2, q⟩
theorem flip_wide {rows : List (List Int)} {w : Nat} (h : ∀ row, row ∈ rows → row.length ≤ w) : ∀ row, row ∈ flipRows rows → row.length ≤ w := fun row hr => by
  unfold flipRows at hr
  rw [List.mem_reverse] at hr
  obtain ⟨row', hm, rfl⟩ := List.mem_map.mp hr
  rw [List.length_map]
  exact h row' hm
theorem all_rows {rows : List (List Int)} {row : List Int} (hr : row ∈ rows) : ∃ j : Nat, j < rows.length ∧ rows.getD j [] = row := by
  obtain ⟨j, hj, e⟩ := List.getElem_of_mem hr
  exact ⟨j, hj, by rw [List.getD_eq_getElem?_getD, List.getElem?_eq_getElem hj]; exact e⟩
def t_small_by_c3 (K : PySem.W.Frag) (G : Ads) (E : XK) : TS :=
  (tSeq (tIfS (tTest (tOp rEq (tCall (sp_drawn K G) [] E0 (tCons (tVar 0) (tCons (tC (.int 3)) (tCons (tC (.int 2)) tNil)))) (tC (.int 1))))
    (tAsg (tLc (iRev K (tCons (tVar 3) tNil)) (gName 7) tYes (tLc (iList K (tVar 7)) (gName 9) tYes (tCall (sp_other K G) [] E0 (tCons (tVar 9) (tCons (tVar 2) tNil))) [9]) [7]) (gName 3))
    tNext)
    (tRet (tVar 3)))
def t_small_by (K : PySem.W.Frag) (G : Ads) (E : XK) : TS :=
  (tSeq (tAsg (tOp mAdd (tC (.int 1)) (tCall (sp_drawn K G) [] E0 (tCons (tVar 0) (tCons (tC (.int 1)) (tCons (tVar 1) tNil))))) (gName 2))
    (tSeq (tAsg (tLst tNil) (gName 3))
    (tSeq (tFor (iRng1 (tCons (tVar 2) tNil)) (gName 4)
    (tSeq (tAsg (tOp mAdd (tC (.int 10)) (tOp mMul (tC (.int 20)) (tVar 4))) (gName 5))
    (tSeq (tAsg (tOp mAdd (tC (.int 1)) (tCall (sp_drawn K G) [] E0 (tCons (tVar 0) (tCons (tVar 5) (tCons (tC (.int 3)) tNil))))) (gName 6))
    (tSeq (tAsg (tLc (iRng1 (tCons (tVar 6) tNil)) (gName 8) tYes (tOp mSub (tCall (sp_drawn K G) [] E0 (tCons (tVar 0) (tCons (tOp mAdd (tOp mAdd (tVar 5) (tC (.int 3))) (tVar 8)) (tCons (tOp mAdd (tVar 2) (tC (.int 1))) tNil)))) (tC (.int 1))) [8]) (gName 7))
    (tSeq (tAsg (tOp mSub (tCall (sp_drawn K G) [] E0 (tCons (tVar 0) (tCons (tOp mAdd (tVar 5) (tC (.int 2))) (tCons (tOp mAdd (tVar 4) (tC (.int 1))) tNil)))) (tC (.int 1))) (gSub (tVar 7) (tCall (sp_drawn K G) [] E0 (tCons (tVar 0) (tCons (tOp mAdd (tVar 5) (tC (.int 1))) (tCons (tVar 6) tNil)))) rSetL))
    (tDrop (tBM K "list" rAppend (tVar 3) (tCons (tVar 7) tNil))))))))
    (t_small_by_c3 K G E))))
abbrev N_small_by : List Str := ["script", "most", "many", "rows", "k", "at", "size", "row", "j", "gone"]

theorem pure_small_by {K : PySem.W.Frag} {G : Ads} {vs H Q E} (h : sp_small_by K G vs H Q E) : t_small_by K G E { nx := fun _ H' => Q .non H', rt := Q } (start N_small_by vs) H := by
  unfold sp_small_by at h
  obtain ⟨a, ns, most, rfl, hS, h1, h2, q⟩ := h
  show t_small_by K G E _ [some (.ref a), some (.int most), none, none, none, none, none, none, none, none] H
  unfold t_small_by
  walk_at "g"
  refine c_drawn hS (by decide) (by decide) (by omega) fun d d0 d1 => ?_
  obtain ⟨m, hm⟩ : ∃ m : Nat, (m : Int) = 1 + d := ⟨(1 + d).toNat, by omega⟩
  walk_at "g"
  rw [← hm]
  refine ⟨by show 0 ≤ sizeLine; decide, fun D nD => ?_⟩
  have led0 : Led H (rowLed D [] []) (upd H D (.lst [])) := (Led.nil H).alloc nD _
  walk_at "g"
  refine loopR (fun k σ H' => (∃ v4 v5 v6 v7, σ = [some (.ref a), some (.int most), some (.int m), some (.ref D), v4, v5, v6, v7, none, none]) ∧ ∃ (as : List Addr) (rows : List (List Int)), as.length = rows.length ∧ rows.length = k ∧
    (∀ j : Nat, j < rows.length → 1 ≤ (rows.getD j []).length ∧ (rows.getD j []).length ≤ 3 ∧ (∀ g, g ∈ rows.getD j [] → -1 ≤ g ∧ g < m) ∧ ∃ g, g ∈ rows.getD j [] ∧ g < (j : Int)) ∧ Led H (rowLed D as rows) H')
    ⟨⟨_, _, _, _, rfl⟩, [], [], rfl, rfl, fun j hj => by simp at hj, led0⟩ ?_ ?_
  · rintro k σ H' hk ⟨⟨v4, v5, v6, v7, rfl⟩, as, rows, e1, e2, hrow, led⟩
    have hk : k < m := by simpa using hk
    show tSeq _ _ _ [some (.ref a), some (.int most), some (.int m), some (.ref D), some (.int (0 + k)), v5, v6, v7, none, none] H'
    walk_at "g"
    refine c_drawn (led.base hS) (by omega) (by omega) (by omega) fun z z0 z1 => ?_
    obtain ⟨w, hw⟩ : ∃ w : Nat, (w : Int) = 1 + z := ⟨(1 + z).toNat, by omega⟩
    walk_at "g"
    rw [← hw]
    walk_at "g"
    refine lcRI (fun gs => ∀ g, g ∈ gs → -1 ≤ g ∧ g < m) (fun g hg => by simp at hg) (by omega) (fun _ => rfl) (fun R j gs H1 S hj ej pj l1 qs => ?_) (fun R gs H1 nR el p s1 e1' => ?_)
    · walk_at "g"
      refine c_drawn (l1.base (led.base hS)) (by omega) (by omega) (by omega) fun y y0 y1 => ?_
      walk_at "g"
      refine qs _ _ (fun g hg => ?_) l1
      rcases List.mem_append.mp hg with hg | hg
      · exact pj g hg
      · simp at hg
        omega
    have l3 := led.add s1 nR e1'
    have hl : (rowLed D as rows).length = k + 1 := by rw [rowLed, List.length_cons, List.length_zipWith, e1, Nat.min_self, e2]
    have hz : (rowLed D as rows ++ [(R, ilst gs)])[k + 1]? = some (R, ilst gs) := by rw [← hl, List.getElem?_append_right (Nat.le_refl _), Nat.sub_self]; rfl
    walk_at "g"
    refine c_drawn (l3.base hS) (by omega) (by omega) (by omega) fun y y0 y1 => ?_
    walk_at "g"
    refine c_drawn (l3.base hS) (by omega) (by omega) (by omega) fun c c0 c1 => ?_
    try walk_at "g"
    refine g_setL l3 (k + 1) hz (by omega) (by omega) fun H4 led4 => ?_
    rw [List.set_append_right _ _ (by omega), hl, Nat.sub_self] at led4
    have led4 : Led H (rowLed D as rows ++ [(R, ilst (gs.set c.toNat (y - 1)))]) H4 := led4
    walk_at "g"
    try refine g_ty (SqL.of (led4.get 0 rfl)) ?_
    try walk_at "g"
    refine g_app led4 0 (p := D) (xs := as.map V.ref) rfl (by rw [List.length_map]; omega) fun H5 led5 => ?_
    rw [rowLed_push e1] at led5
    refine ⟨⟨_, _, _, _, rfl⟩, as ++ [R], rows ++ [gs.set c.toNat (y - 1)], by simp [e1], by simp [e2], fun j hj => ?_, led5⟩
    rw [List.length_append] at hj
    by_cases z' : j < rows.length
    · rw [List.getD_eq_getElem?_getD, List.getElem?_append_left z', ← List.getD_eq_getElem?_getD]
      exact hrow j z'
    · have e3 : j = rows.length := by simp at hj; omega
      subst e3
      rw [List.getD_eq_getElem?_getD, List.getElem?_append_right (Nat.le_refl _), Nat.sub_self]
      have hc : c.toNat < gs.length := by omega
      show 1 ≤ (gs.set c.toNat (y - 1)).length ∧ (gs.set c.toNat (y - 1)).length ≤ 3 ∧ (∀ g, g ∈ gs.set c.toNat (y - 1) → _) ∧ ∃ g, g ∈ gs.set c.toNat (y - 1) ∧ _
      rw [List.length_set]
      refine ⟨by omega, by omega, fun g hg => ?_, y - 1, List.mem_of_getElem? (List.getElem?_set_self hc), by omega⟩
      rcases List.mem_or_eq_of_mem_set hg with hg | rfl
      · exact p g hg
      · omega
  · rintro σ H' ⟨⟨v4, v5, v6, v7, rfl⟩, as, rows, e1, e2, hrow, led⟩
    have e2 : rows.length = m := by omega
    have ok : OkRows rows := ⟨by omega, by omega, fun row hr => by
      obtain ⟨j, hj, rfl⟩ := all_rows hr
      obtain ⟨r1, r2, r3, _⟩ := hrow j hj
      exact ⟨r1, by omega, fun g hg => by have := r3 g hg; omega⟩⟩
    have h3 : ∀ row, row ∈ rows → row.length ≤ 3 := fun row hr => by
      obtain ⟨j, hj, rfl⟩ := all_rows hr
      exact (hrow j hj).2.1
    have k0 : K0 rows := ⟨ok, fun k hk => (hrow k hk).2.2.2, .inl ⟨by omega, h3⟩⟩
    have R := led.rowAt e1
    unfold t_small_by_c3
    walk_at "g"
    refine c_drawn (led.base hS) (by decide) (by decide) (by decide) fun f f0 f1 => ?_
    walk_at "g"
    refine ifP (fun hf => ?_) (fun hf => ?_)
    · walk_at "g"
      refine g_lcFlip R (by omega) (fun i hi => by have := (ok.row hi).2.1; omega) (fun _ => rfl) (fun _ _ => rfl) (fun _ => rfl) (fun _ _ => rfl) (fun _ _ => by rw [e2]; rfl) fun D2 H5 s5 n5 => ?_
      walk_at "g"
      exact q D2 (flipRows rows) H5 ⟨rows, k0, .inr rfl⟩ (by rw [flip_length]; omega) (flip_wide h3) (led.same.trans s5) (n5.back led.same)
    · walk_at "g"
      exact q D rows H' ⟨rows, k0, .inl rfl⟩ (by omega) h3 led.same (led.rowNew e1)

@[irreducible] def sp_two_by (K : PySem.W.Frag) (_ : Ads) : Sp := fun vs H Q _ => ∃ (a : Addr) (ns : List Int), vs = [.ref a] ∧ SqL K H a (ns.map V.int) ∧
  ∀ (p : Addr) (rows : List (List Int)) (H' : Hp), OkRows rows → Same H H' → NewRows H H' p rows → Q (.ref p) H'
theorem len_two_by {K : PySem.W.Frag} {G : Ads} {vs H Q E} (h : sp_two_by K G vs H Q E) : vs.length = 1 := by
  unfold sp_two_by at h
  obtain ⟨_, _, rfl, _⟩ := h
  rfl
theorem c_two_by {K : PySem.W.Frag} {G : Ads} {H : Hp} {Q : VK} {E : XK} {a : Addr} {ns : List Int} (s : SqL K H a (ns.map V.int))
    (q : ∀ (p : Addr) (rows : List (List Int)) (H' : Hp), OkRows rows → Same H H' → NewRows H H' p rows → Q (.ref p) H') : sp_two_by K G [.ref a] H Q E := by
  unfold sp_two_by
  exact ⟨a, ns, rfl, s, q⟩
def t_two_by_c3 (K : PySem.W.Frag) (G : Ads) (E : XK) : TS :=
  (tSeq (tIfS (tTest (tOp rEq (tCall (sp_drawn K G) [] E0 (tCons (tVar 0) (tCons (tC (.int 502)) (tCons (tC (.int 2)) tNil)))) (tC (.int 1))))
    (tAsg (tLc (iRev K (tCons (tVar 2) tNil)) (gName 4) tYes (tLc (iList K (tVar 4)) (gName 5) tYes (tCall (sp_other K G) [] E0 (tCons (tVar 5) (tCons (tVar 1) tNil))) [5]) [4]) (gName 2))
    tNext)
    (tRet (tVar 2)))
def t_two_by (K : PySem.W.Frag) (G : Ads) (E : XK) : TS :=
  (tSeq (tAsg (tOp mAdd (tC (.int 5)) (tCall (sp_drawn K G) [] E0 (tCons (tVar 0) (tCons (tC (.int 501)) (tCons (tC (.int 3)) tNil))))) (gName 1))
    (tSeq (tAsg (tLst tNil) (gName 2))
    (tSeq (tFor (iRng1 (tCons (tVar 1) tNil)) (gName 3)
    (tSeq (tAsg (tLst (tCons (tOp mSub (tCall (sp_drawn K G) [] E0 (tCons (tVar 0) (tCons (tOp mAdd (tC (.int 510)) (tVar 3)) (tCons (tOp mAdd (tVar 3) (tC (.int 1))) tNil)))) (tC (.int 1))) tNil)) (gName 4))
    (tSeq (tDrop (tBM K "list" rInsert (tVar 4) (tCons (tCall (sp_drawn K G) [] E0 (tCons (tVar 0) (tCons (tOp mAdd (tC (.int 530)) (tVar 3)) (tCons (tC (.int 2)) tNil)))) (tCons (tOp mSub (tCall (sp_drawn K G) [] E0 (tCons (tVar 0) (tCons (tOp mAdd (tC (.int 550)) (tVar 3)) (tCons (tOp mAdd (tVar 1) (tC (.int 1))) tNil)))) (tC (.int 1))) tNil))))
    (tDrop (tBM K "list" rAppend (tVar 2) (tCons (tVar 4) tNil))))))
    (t_two_by_c3 K G E))))
abbrev N_two_by : List Str := ["script", "many", "rows", "k", "row", "gone"]

theorem pure_two_by {K : PySem.W.Frag} {G : Ads} {vs H Q E} (h : sp_two_by K G vs H Q E) : t_two_by K G E { nx := fun _ H' => Q .non H', rt := Q } (start N_two_by vs) H := by
  unfold sp_two_by at h
  obtain ⟨a, ns, rfl, hS, q⟩ := h
  show t_two_by K G E _ [some (.ref a), none, none, none, none, none] H
  unfold t_two_by
  walk_at "g"
  refine c_drawn hS (by decide) (by decide) (by decide) fun d d0 d1 => ?_
  obtain ⟨m, hm⟩ : ∃ m : Nat, (m : Int) = 5 + d := ⟨(5 + d).toNat, by omega⟩
  walk_at "g"
  rw [← hm]
  refine ⟨by show 0 ≤ sizeLine; decide, fun D nD => ?_⟩
  have led0 : Led H (rowLed D [] []) (upd H D (.lst [])) := (Led.nil H).alloc nD _
  walk_at "g"
  refine loopR (fun k σ H' => (∃ v3 v4, σ = [some (.ref a), some (.int m), some (.ref D), v3, v4, none]) ∧ ∃ (as : List Addr) (rows : List (List Int)), as.length = rows.length ∧ rows.length = k ∧
    (∀ row, row ∈ rows → row.length = 2 ∧ ∀ g, g ∈ row → -1 ≤ g ∧ g < m) ∧ Led H (rowLed D as rows) H')
    ⟨⟨_, _, rfl⟩, [], [], rfl, rfl, fun j hj => by simp at hj, led0⟩ ?_ ?_
  · rintro k σ H' hk ⟨⟨v3, v4, rfl⟩, as, rows, e1, e2, hrow, led⟩
    have hk : k < m := by simpa using hk
    show tSeq _ _ _ [some (.ref a), some (.int m), some (.ref D), some (.int (0 + k)), v4, none] H'
    walk_at "g"
    refine c_drawn (led.base hS) (by omega) (by omega) (by omega) fun z z0 z1 => ?_
    walk_at "g"
    refine ⟨by show 1 ≤ sizeLine; decide, fun R nR => ?_⟩
    have l3 := led.alloc nR (ilst [z - 1])
    have hl : (rowLed D as rows).length = k + 1 := by rw [rowLed, List.length_cons, List.length_zipWith, e1, Nat.min_self, e2]
    have hz : (rowLed D as rows ++ [(R, ilst [z - 1])])[k + 1]? = some (R, ilst [z - 1]) := by rw [← hl, List.getElem?_append_right (Nat.le_refl _), Nat.sub_self]; rfl
    walk_at "g"
    try refine g_ty (SqL.of (xs := [V.int (z - 1)]) (l3.get (k + 1) hz)) ?_
    try walk_at "g"
    refine c_drawn (l3.base hS) (by omega) (by omega) (by omega) fun c c0 c1 => ?_
    walk_at "g"
    refine c_drawn (l3.base hS) (by omega) (by omega) (by omega) fun y y0 y1 => ?_
    walk_at "g"
    refine g_ins l3 (k + 1) hz (by show 1 < 100000; decide) (by omega) (by omega) fun H4 led4 => ?_
    rw [List.set_append_right _ _ (by omega), hl, Nat.sub_self] at led4
    have led4 : Led H (rowLed D as rows ++ [(R, ilst ([z - 1].take c.toNat ++ [y - 1] ++ [z - 1].drop c.toNat))]) H4 := led4
    have mem : ∀ g, g ∈ [z - 1].take c.toNat ++ [y - 1] ++ [z - 1].drop c.toNat → -1 ≤ g ∧ g < m := fun g hg => by
      simp only [List.mem_append, List.mem_singleton] at hg
      rcases hg with (hg | rfl) | hg
      · have := List.mem_of_mem_take hg
        simp at this
        omega
      · omega
      · have := List.mem_of_mem_drop hg
        simp at this
        omega
    have len : ([z - 1].take c.toNat ++ [y - 1] ++ [z - 1].drop c.toNat).length = 2 := by
      simp only [List.length_append, List.length_take, List.length_drop, List.length_singleton]
      omega
    generalize [z - 1].take c.toNat ++ [y - 1] ++ [z - 1].drop c.toNat = gs at led4 mem len
    walk_at "g"
    try refine g_ty (SqL.of (led4.get 0 rfl)) ?_
    try walk_at "g"
    refine g_app led4 0 (p := D) (xs := as.map V.ref) rfl (by rw [List.length_map]; omega) fun H5 led5 => ?_
    rw [rowLed_push e1] at led5
    refine ⟨⟨_, _, rfl⟩, as ++ [R], rows ++ [gs], by simp [e1], by simp [e2], fun row hr => ?_, led5⟩
    rcases List.mem_append.mp hr with hr | hr
    · exact hrow row hr
    · rw [List.mem_singleton.mp hr]
      exact ⟨len, mem⟩
  · rintro σ H' ⟨⟨v3, v4, rfl⟩, as, rows, e1, e2, hrow, led⟩
    have e2 : rows.length = m := by omega
    have ok : OkRows rows := ⟨by omega, by omega, fun row hr => by
      obtain ⟨r1, r3⟩ := hrow row hr
      exact ⟨by omega, by omega, fun g hg => by have := r3 g hg; omega⟩⟩
    have R := led.rowAt e1
    unfold t_two_by_c3
    walk_at "g"
    refine c_drawn (led.base hS) (by decide) (by decide) (by decide) fun f f0 f1 => ?_
    walk_at "g"
    refine ifP (fun hf => ?_) (fun hf => ?_)
    · walk_at "g"
      refine g_lcFlip R (by omega) (fun i hi => by have := (ok.row hi).2.1; omega) (fun _ => rfl) (fun _ _ => rfl) (fun _ => rfl) (fun _ _ => rfl) (fun _ _ => by rw [e2]; rfl) fun D2 H5 s5 n5 => ?_
      walk_at "g"
      exact q D2 (flipRows rows) H5 (flip_ok ok) (led.same.trans s5) (n5.back led.same)
    · walk_at "g"
      exact q D rows H' ok led.same (led.rowNew e1)

@[irreducible] def sp_treed (K : PySem.W.Frag) (_ : Ads) : Sp := fun vs H Q _ => ∃ (p tp : Addr) (rows : List (List Int)) (turns : List Int), vs = [.ref p, .ref tp] ∧ RowsAt H p rows ∧ OkRows rows ∧ TurnsOk rows turns ∧ SqL K H tp (turns.map V.int) ∧ Q (.bl (treeB rows turns)) H
theorem len_treed {K : PySem.W.Frag} {G : Ads} {vs H Q E} (h : sp_treed K G vs H Q E) : vs.length = 2 := by
  unfold sp_treed at h
  obtain ⟨_, _, _, _, rfl, _⟩ := h
  rfl
theorem c_treed {K : PySem.W.Frag} {G : Ads} {H : Hp} {Q : VK} {E : XK} {p tp : Addr} {rows : List (List Int)} {turns : List Int} (R : RowsAt H p rows) (ok : OkRows rows) (tk : TurnsOk rows turns) (s : SqL K H tp (turns.map V.int)) (q : Q (.bl (treeB rows turns)) H) : sp_treed K G [.ref p, .ref tp] H Q E := by
  unfold sp_treed
  exact ⟨p, tp, rows, turns, rfl, R, ok, tk, s, q⟩
def t_treed (K : PySem.W.Frag) (G : Ads) (E : XK) : TS :=
  (tSeq (tFor (iRng1 (tCons (tCB (mLen K) (tCons (tVar 0) tNil)) tNil)) (gName 2)
    (tSeq (tAsg (tVar 2) (gName 3))
    (tSeq (tFor (iRng1 (tCons (tCB (mLen K) (tCons (tVar 0) tNil)) tNil)) (gName 4)
    (tIfS (tTest (tOp mGe (tVar 3) (tC (.int 0))))
    (tAsg (tOp (rIxL K) (tOp (rIxL K) (tVar 0) (tVar 3)) (tOp mSub (tOp (rIxL K) (tVar 1) (tVar 3)) (tC (.int 1)))) (gName 3))
    tNext))
    (tIfS (tTest (tOp mGe (tVar 3) (tC (.int 0))))
    (tRet (tC (.bl false)))
    tNext))))
    (tRet (tC (.bl true))))
abbrev N_treed : List Str := ["rows", "turns", "at", "here", "lap"]

theorem pure_treed {K : PySem.W.Frag} {G : Ads} {vs H Q E} (h : sp_treed K G vs H Q E) : t_treed K G E { nx := fun _ H' => Q .non H', rt := Q } (start N_treed vs) H := by
  unfold sp_treed at h
  obtain ⟨p, tp, rows, turns, rfl, R, ok, tk, st, q⟩ := h
  show t_treed K G E _ [some (.ref p), some (.ref tp), none, none, none] H
  unfold t_treed
  have hn := ok.2.1
  have lt := tk.1
  walk_at "g"
  refine loopR (fun k σ H' => (∃ v2 v3 v4, σ = [some (.ref p), some (.ref tp), v2, v3, v4]) ∧ H' = H ∧ ∀ j : Nat, j < k → goOn rows turns rows.length j < 0) ⟨⟨_, _, _, rfl⟩, rfl, fun j hj => by omega⟩ ?_ ?_
  · rintro k σ H' hk ⟨⟨v2, v3, v4, rfl⟩, rfl, hall⟩
    have hk : k < rows.length := by simpa using hk
    show tSeq _ _ _ [some (.ref p), some (.ref tp), some (.int (0 + k)), v3, v4] H'
    walk_at "g"
    refine loopR (fun m σ H2 => (∃ v4, σ = [some (.ref p), some (.ref tp), some (.int (0 + k)), some (.int (goOn rows turns m k)), v4]) ∧ H2 = H') ⟨⟨_, by show _ = [_, _, _, some (V.int (k : Int)), _]; rw [Int.zero_add]; rfl⟩, rfl⟩ ?_ ?_
    · rintro m σ H2 hm ⟨⟨v4, rfl⟩, rfl⟩
      obtain ⟨g0, g1⟩ := goOn_range (turns := turns) ok m (k : Int) (by omega) (by omega)
      have step : goOn rows turns (m + 1) k = nxt rows turns (goOn rows turns m k) := rfl
      show tIfS _ _ _ _ [some (.ref p), some (.ref tp), some (.int (0 + k)), some (.int (goOn rows turns m k)), some (.int (0 + m))] H2
      rw [step]
      generalize goOn rows turns m k = h at g0 g1
      walk_at "g"
      refine ifP (fun hp => ?_) (fun hp => ?_)
      · have hh : h.toNat < rows.length := by omega
        have tkk := tk.2 _ hh
        walk_at "g"
        refine g_row R hp g1 fun w hw => ?_
        walk_at "g"
        try refine g_ixI st hp (by omega) ?_
        try walk_at "g"
        refine g_ixLast hw tkk.1 tkk.2 ?_
        refine ⟨⟨some (.int (0 + (m : Int))), ?_⟩, rfl⟩
        rw [show nxt rows turns h = lastOf rows turns h.toNat from if_pos hp]
        rfl
      · walk_at "g"
        refine ⟨⟨some (.int (0 + (m : Int))), ?_⟩, rfl⟩
        rw [show nxt rows turns h = h from if_neg (by omega)]
    · rintro σ H2 ⟨⟨v4, rfl⟩, rfl⟩
      have e1 : ((rows.length : Int)).toNat = rows.length := by omega
      try rw [e1]
      walk_at "g"
      refine ifP (fun hp => ?_) (fun hp => ?_)
      · have hp : 0 ≤ goOn rows turns rows.length k := by simpa using hp
        walk_at "g"
        have : treeB rows turns = false := openB_false fun h => by
          have := (tree_iff ok).mp h k hk
          omega
        rw [this] at q
        exact q
      · have hp : ¬ 0 ≤ goOn rows turns rows.length k := by simpa using hp
        walk_at "g"
        refine ⟨⟨_, _, _, rfl⟩, rfl, fun j hj => ?_⟩
        by_cases e : j = k
        · rw [e]
          omega
        · exact hall j (by omega)
  · rintro σ H' ⟨⟨v2, v3, v4, rfl⟩, rfl, hall⟩
    walk_at "g"
    have : treeB rows turns = true := openB_true ((tree_iff ok).mpr fun k hk => hall k (by simpa using hk))
    rw [this] at q
    exact q

@[irreducible] def sp_odometer (_ : PySem.W.Frag) (_ : Ads) : Sp := fun vs H Q _ => ∃ (p : Addr) (rows : List (List Int)), vs = [.ref p] ∧ RowsAt H p rows ∧ OkRows rows ∧ ∀ H', Same H H' → Q (.int (det rows.length (gridM rows))) H'
theorem len_odometer {K : PySem.W.Frag} {G : Ads} {vs H Q E} (h : sp_odometer K G vs H Q E) : vs.length = 1 := by
  unfold sp_odometer at h
  obtain ⟨_, _, rfl, _⟩ := h
  rfl
theorem c_odometer {K : PySem.W.Frag} {G : Ads} {H : Hp} {Q : VK} {E : XK} {p : Addr} {rows : List (List Int)} (R : RowsAt H p rows) (ok : OkRows rows) (q : ∀ H', Same H H' → Q (.int (det rows.length (gridM rows))) H') : sp_odometer K G [.ref p] H Q E := by
  unfold sp_odometer
  exact ⟨p, rows, rfl, R, ok, q⟩
theorem digs_null : ∀ rows : List (List Int), PosRows rows → digs rows 0 = List.replicate rows.length 0
  | [], _ => rfl
  | row :: rest, p => by
    show ((0 % row.length : Nat) : Int) :: digs rest (0 / row.length) = (0 : Int) :: List.replicate rest.length 0
    rw [Nat.zero_mod, Nat.zero_div, digs_null rest fun r hr => p r (List.mem_cons_of_mem _ hr)]
    rfl
theorem pk_le (p : Prop) : 0 ≤ pk p 1 0 ∧ pk p 1 0 ≤ 1 := by rcases pk01 p with h | h <;> omega
theorem treesUp_range (rows : List (List Int)) : ∀ v, 0 ≤ treesUp rows v ∧ treesUp rows v ≤ v
  | 0 => ⟨Int.le_refl 0, Int.le_refl 0⟩
  | v + 1 => by
    have := treesUp_range rows v
    have := pk_le (Tree rows (digs rows v))
    show 0 ≤ treesUp rows v + pk _ 1 0 ∧ treesUp rows v + pk _ 1 0 ≤ ((v + 1 : Nat) : Int)
    omega
def t_odometer_c3_1 (K : PySem.W.Frag) (G : Ads) (E : XK) : TS :=
  (tSeq (tAsg (tOp mAdd (tOp (rIxL K) (tVar 1) (tVar 3)) (tC (.int 1))) (gSub (tVar 1) (tVar 3) rSetL))
    (tIfS (tTest (tOp mLt (tOp (rIxL K) (tVar 1) (tVar 3)) (tCB (mLen K) (tCons (tOp (rIxL K) (tVar 0) (tVar 3)) tNil))))
    (tAsg (tC (.int 0)) (gName 3))
    (tSeq (tAsg (tC (.int 0)) (gSub (tVar 1) (tVar 3) rSetL))
    (tAsg (tOp mAdd (tVar 3) (tC (.int 1))) (gName 3)))))
def t_odometer_c3 (K : PySem.W.Frag) (G : Ads) (E : XK) : TS :=
  (tSeq (tWhile (tTest (tOp mLt (tVar 3) (tCB (mLen K) (tCons (tVar 0) tNil))))
    (tSeq (tIfS (tAnd (tTest (tOp rEq (tVar 3) (tC (.int 0)))) (tB (tCall (sp_treed K G) [] E0 (tCons (tVar 0) (tCons (tVar 1) tNil)))))
    (tAsg (tOp mAdd (tVar 2) (tC (.int 1))) (gName 2))
    tNext)
    (t_odometer_c3_1 K G E)))
    (tRet (tVar 2)))
def t_odometer (K : PySem.W.Frag) (G : Ads) (E : XK) : TS :=
  (tSeq (tAsg (tLc (iList K (tVar 0)) (gName 4) tYes (tC (.int 0)) [4]) (gName 1))
    (tSeq (tAsg (tC (.int 0)) (gName 2))
    (tSeq (tAsg (tC (.int 0)) (gName 3))
    (t_odometer_c3 K G E))))
abbrev N_odometer : List Str := ["rows", "turns", "many", "at", "row"]

theorem pure_odometer {K : PySem.W.Frag} {G : Ads} {vs H Q E} (h : sp_odometer K G vs H Q E) : t_odometer K G E { nx := fun _ H' => Q .non H', rt := Q } (start N_odometer vs) H := by
  unfold sp_odometer at h
  obtain ⟨p, rows, rfl, R, ok, q⟩ := h
  show t_odometer K G E _ [some (.ref p), none, none, none, none] H
  unfold t_odometer
  have hn := ok.2.1
  have hn0 := ok.1
  have ps := ok.posR
  walk_at "g"
  refine lcRows0 R (by omega) (fun _ => rfl) fun tp H1 ntp s1 e1 => ?_
  have led : Led H [(tp, ilst (zdigs rows 0 0))] H1 := by
    rw [zdigs_zero, digs_null rows ps]
    exact (Led.nil H).add s1 ntp e1
  walk_at "g"
  unfold t_odometer_c3
  walk_at "g"
  refine whileN (fun m σ H' => ∃ (j v : Nat), σ = [some (.ref p), some (.ref tp), some (.int (treesUp rows (if j = 0 then v else v + 1))), some (.int j), none] ∧ j ≤ rows.length ∧ carry rows j v ∧ v < manyT rows ∧ m = (manyT rows - v) * (rows.length + 1) - j ∧ Led H [(tp, ilst (zdigs rows j v))] H')
    _ ⟨0, 0, rfl, Nat.zero_le _, carry_zero _ _, manyT_pos rows ps, rfl, led⟩ ?_
  rintro m σ H' ⟨j, v, rfl, hj, ca, hv, hm, led⟩
  have R' := led.ra R
  have zl := zdigs_len rows j v
  walk_at "g"
  refine ifP (fun hlt => ?_) (fun hlt => ?_)
  · have hlt : j < rows.length := by omega
    refine ⟨_, fun _ _ h => h, ?_⟩
    -- the rest of a turn of the loop
    have rest : ∀ (N : L2.St → Hp → Prop) (D : Ends), D.nx = N → (∀ (j' v' : Nat) (H2 : Hp), j' ≤ rows.length → carry rows j' v' → v' < manyT rows → (manyT rows - v') * (rows.length + 1) - j' < m → Led H [(tp, ilst (zdigs rows j' v'))] H2 →
        N [some (.ref p), some (.ref tp), some (.int (treesUp rows (if j' = 0 then v' else v' + 1))), some (.int j'), none] H2) →
        t_odometer_c3_1 K G E D [some (.ref p), some (.ref tp), some (.int (treesUp rows (v + 1))), some (.int j), none] H' := by
      intro N D eD hN
      unfold t_odometer_c3_1
      have zr := zdigs_lt rows j v j ps hlt
      walk_at "g"
      try refine g_ixI (led.sq 0 rfl) (by omega) (by omega) ?_
      try walk_at "g"
      rw [show ((j : Int)).toNat = j by omega]
      refine g_setL led 0 rfl (by omega) (by omega) fun H2 led2 => ?_
      rw [show ((j : Int)).toNat = j by omega] at led2
      have led2 : Led H [(tp, ilst ((zdigs rows j v).set j ((zdigs rows j v).getD j 0 + 1)))] H2 := led2
      have R2 := led2.ra R
      walk_at "g"
      refine g_ixI (led2.sq 0 rfl) (by omega) (by rw [List.length_set]; omega) ?_
      rw [show ((j : Int)).toNat = j by omega, getD_set (by omega), if_pos rfl]
      walk_at "g"
      refine g_row R2 (by omega) (by omega) fun r hr => ?_
      rw [show ((j : Int)).toNat = j by omega] at hr
      walk_at "g"
      try refine g_lenI hr ?_
      try walk_at "g"
      refine ifP (fun hd => ?_) (fun hd => ?_)
      · obtain ⟨z1, z2⟩ := zd_next rows j v ps ca hlt hd
        walk_at "g"
        rw [eD]
        have hv' := z2 hv
        have := hN 0 (v + 1) H2 (Nat.zero_le _) (carry_zero _ _) hv' (by
          have : manyT rows - v = manyT rows - (v + 1) + 1 := by omega
          rw [this, Nat.add_mul] at hm
          omega) (by rw [zdigs_zero, ← z1]; exact led2)
        exact this
      · obtain ⟨z1, z2⟩ := zd_carry rows j v ps ca hlt hd
        walk_at "g"
        refine g_setL led2 0 rfl (by omega) (by rw [List.length_set]; omega) fun H3 led3 => ?_
        rw [show ((j : Int)).toNat = j by omega, List.set_set] at led3
        have led3 : Led H [(tp, ilst ((zdigs rows j v).set j 0))] H3 := led3
        rw [z2] at led3
        walk_at "g"
        rw [eD]
        have := hN (j + 1) v H3 (by omega) z1 hv (by
          have : manyT rows - v = manyT rows - (v + 1) + 1 := by omega
          rw [this, Nat.add_mul] at hm ⊢
          omega) led3
        rw [if_neg (by omega)] at this
        exact this
    walk_at "g"
    refine ifP (fun h0 => ?_) (fun h0 => ?_)
    · have h0 : j = 0 := by omega
      subst h0
      have tk := digs_turns ps v
      rw [← zdigs_zero] at tk
      walk_at "g"
      refine c_treed R' ok tk (led.sq 0 rfl) ?_
      walk_at "g"
      have step : treesUp rows (v + 1) = treesUp rows v + pk (Tree rows (zdigs rows 0 v)) 1 0 := by rw [zdigs_zero]; rfl
      by_cases tr : Tree rows (zdigs rows 0 v)
      · rw [show treeB rows (zdigs rows 0 v) = true from openB_true tr]
        rw [pk_pos tr] at step
        walk_at "g"
        rw [if_pos rfl, ← step]
        refine rest _ _ rfl (fun j' v' H2 a1 a2 a3 a4 a5 => ?_)
        exact ⟨_, a4, j', v', rfl, a1, a2, a3, rfl, a5⟩
      · rw [show treeB rows (zdigs rows 0 v) = false from openB_false tr]
        rw [pk_neg tr, Int.add_zero] at step
        walk_at "g"
        rw [if_pos rfl, ← step]
        refine rest _ _ rfl (fun j' v' H2 a1 a2 a3 a4 a5 => ?_)
        exact ⟨_, a4, j', v', rfl, a1, a2, a3, rfl, a5⟩
    · walk_at "g"
      rw [if_neg (show ¬ j = 0 by omega)]
      refine rest _ _ rfl (fun j' v' H2 a1 a2 a3 a4 a5 => ?_)
      exact ⟨_, a4, j', v', rfl, a1, a2, a3, rfl, a5⟩
  · have hj : j = rows.length := by omega
    subst hj
    rw [if_neg (by omega), zd_end rows v ps ca hv, treesUp_all ok, ← grid_det ok.exs]
    walk_at "g"
    exact q H' led.same

@[irreducible] def sp_down_by_k17 (K : PySem.W.Frag) (_ : Ads) : Sp := fun vs H Q _ => ∃ (a : Addr) (ns : List Int), vs = [.ref a] ∧ SqL K H a (ns.map V.int) ∧
  ∀ (p : Addr) (rows : List (List Int)) (H' : Hp), OkRows rows → (∀ k : Nat, k < rows.length → ∀ g, g ∈ rows.getD k [] → g < k) → 5 ≤ rows.length → rows.length ≤ 8 → Same H H' → NewRows H H' p rows → Q (.ref p) H'
theorem len_down_by_k17 {K : PySem.W.Frag} {G : Ads} {vs H Q E} (h : sp_down_by_k17 K G vs H Q E) : vs.length = 1 := by
  unfold sp_down_by_k17 at h
  obtain ⟨a, ns, rfl, _⟩ := h
  rfl
theorem c_down_by_k17 {K : PySem.W.Frag} {G : Ads} {H : Hp} {Q : VK} {E : XK} {a : Addr} {ns : List Int} (s : SqL K H a (ns.map V.int))
    (q : ∀ (p : Addr) (rows : List (List Int)) (H' : Hp), OkRows rows → (∀ k : Nat, k < rows.length → ∀ g, g ∈ rows.getD k [] → g < k) → 5 ≤ rows.length → rows.length ≤ 8 → Same H H' → NewRows H H' p rows → Q (.ref p) H') : sp_down_by_k17 K G [.ref a] H Q E := by
  unfold sp_down_by_k17
  exact ⟨a, ns, rfl, s, q⟩
def t_down_by_k17 (K : PySem.W.Frag) (G : Ads) (E : XK) : TS :=
  (tSeq (tAsg (tLst tNil) (gName 1))
    (tSeq (tFor (iRng1 (tCons (tOp mAdd (tC (.int 5)) (tCall (sp_drawn K G) [] E0 (tCons (tVar 0) (tCons (tC (.int 503)) (tCons (tC (.int 4)) tNil))))) tNil)) (gName 2)
    (tSeq (tAsg (tOp mAdd (tC (.int 1)) (tCall (sp_drawn K G) [] E0 (tCons (tVar 0) (tCons (tOp mAdd (tC (.int 510)) (tVar 2)) (tCons (tC (.int 8)) tNil))))) (gName 3))
    (tDrop (tBM K "list" rAppend (tVar 1) (tCons (tLc (iRng1 (tCons (tVar 3) tNil)) (gName 4) tYes (tOp mSub (tCall (sp_drawn K G) [] E0 (tCons (tVar 0) (tCons (tOp mAdd (tOp mAdd (tC (.int 530)) (tOp mMul (tC (.int 9)) (tVar 2))) (tVar 4)) (tCons (tOp mAdd (tVar 2) (tC (.int 1))) tNil)))) (tC (.int 1))) [4]) tNil)))))
    (tRet (tVar 1))))
abbrev N_down_by_k17 : List Str := ["script", "rows", "k", "size", "j"]

theorem pure_down_by_k17 {K : PySem.W.Frag} {G : Ads} {vs H Q E} (h : sp_down_by_k17 K G vs H Q E) : t_down_by_k17 K G E { nx := fun _ H' => Q .non H', rt := Q } (start N_down_by_k17 vs) H := by
  unfold sp_down_by_k17 at h
  obtain ⟨a, ns, rfl, hS, q⟩ := h
  show t_down_by_k17 K G E _ [some (.ref a), none, none, none, none] H
  unfold t_down_by_k17
  walk_at "g"
  refine ⟨by show 0 ≤ sizeLine; decide, fun D nD => ?_⟩
  have led0 : Led H (rowLed D [] []) (upd H D (.lst [])) := (Led.nil H).alloc nD _
  walk_at "g"
  refine c_drawn (led0.base hS) (by decide) (by decide) (by decide) fun d d0 d1 => ?_
  obtain ⟨m, hm⟩ : ∃ m : Nat, (m : Int) = 5 + d := ⟨(5 + d).toNat, by omega⟩
  walk_at "g"
  rw [← hm]
  refine loopR (fun k σ H' => (∃ v2 v3, σ = [some (.ref a), some (.ref D), v2, v3, none]) ∧ ∃ (as : List Addr) (rows : List (List Int)), as.length = rows.length ∧ rows.length = k ∧
    (∀ j : Nat, j < rows.length → 1 ≤ (rows.getD j []).length ∧ (rows.getD j []).length ≤ 8 ∧ ∀ g, g ∈ rows.getD j [] → -1 ≤ g ∧ g < j) ∧ Led H (rowLed D as rows) H') ⟨⟨_, _, rfl⟩, [], [], rfl, rfl, fun j hj => by simp at hj, led0⟩ ?_ ?_
  · rintro k σ H' hk ⟨⟨v2, v3, rfl⟩, as, rows, e1, e2, hrow, led⟩
    have hk : k < m := by simpa using hk
    show tSeq _ _ _ [some (.ref a), some (.ref D), some (.int (0 + k)), v3, none] H'
    walk_at "g"
    refine c_drawn (led.base hS) (by omega) (by omega) (by omega) fun z z0 z1 => ?_
    obtain ⟨w, hw⟩ : ∃ w : Nat, (w : Int) = 1 + z := ⟨(1 + z).toNat, by omega⟩
    walk_at "g"
    rw [← hw]
    have sD : SqL K H' D (as.map V.ref) := SqL.of (led.get 0 rfl)
    try walk_at "g"
    try refine g_ty sD ?_
    try walk_at "g"
    refine lcRI (fun gs => ∀ g, g ∈ gs → -1 ≤ g ∧ g < k) (fun g hg => by simp at hg) (by omega) (fun _ => rfl) (fun R j gs H1 S hj ej pj l1 qs => ?_) (fun R gs H1 nR el p s1 e1' => ?_)
    · walk_at "g"
      refine c_drawn (l1.base (led.base hS)) (by omega) (by omega) (by omega) fun y y0 y1 => ?_
      walk_at "g"
      refine qs _ _ (fun g hg => ?_) l1
      rcases List.mem_append.mp hg with hg | hg
      · exact pj g hg
      · simp at hg
        omega
    have l3 := led.add s1 nR e1'
    walk_at "g"
    try refine g_ty (SqL.of (l3.get 0 rfl)) ?_
    try walk_at "g"
    refine g_app l3 0 rfl (by rw [List.length_map]; omega) fun H3 l4 => ?_
    rw [rowLed_push e1] at l4
    refine ⟨⟨_, _, rfl⟩, as ++ [R], rows ++ [gs], by simp [e1], by simp [e2], fun j hj => ?_, l4⟩
    rw [List.length_append] at hj
    by_cases z' : j < rows.length
    · rw [List.getD_eq_getElem?_getD, List.getElem?_append_left z', ← List.getD_eq_getElem?_getD]
      exact hrow j z'
    · have e3 : j = rows.length := by simp at hj; omega
      subst e3
      rw [List.getD_eq_getElem?_getD, List.getElem?_append_right (Nat.le_refl _), Nat.sub_self]
      show 1 ≤ gs.length ∧ gs.length ≤ 8 ∧ ∀ g, g ∈ gs → _
      rw [e2]
      exact ⟨by omega, by omega, p⟩
  · rintro σ H' ⟨⟨v2, v3, rfl⟩, as, rows, e1, e2, hrow, led⟩
    have e2 : rows.length = m := by omega
    walk_at "g"
    have all : ∀ row, row ∈ rows → ∃ j : Nat, j < rows.length ∧ rows.getD j [] = row := fun row hr => by
      obtain ⟨j, hj, e⟩ := List.getElem_of_mem hr
      exact ⟨j, hj, by rw [List.getD_eq_getElem?_getD, List.getElem?_eq_getElem hj]; exact e⟩
    refine q D rows H' ⟨by omega, by omega, fun row hr => ?_⟩ (fun k hk g hg => ((hrow k hk).2.2 g hg).2) (by omega) (by omega) led.same (led.rowNew e1)
    obtain ⟨j, hj, rfl⟩ := all row hr
    obtain ⟨r1, r2, r3⟩ := hrow j hj
    exact ⟨r1, by omega, fun g hg => by have := r3 g hg; omega⟩


@[irreducible] def sp_moved (_ : PySem.W.Frag) (_ : Ads) : Sp := fun vs H Q _ => ∃ (g many : Int), vs = [.int g, .int many] ∧ Q (.int (movedI g many)) H
theorem len_moved {K : PySem.W.Frag} {G : Ads} {vs H Q E} (h : sp_moved K G vs H Q E) : vs.length = 2 := by
  unfold sp_moved at h
  obtain ⟨_, _, rfl, _⟩ := h
  rfl
theorem c_moved {K : PySem.W.Frag} {G : Ads} {H : Hp} {Q : VK} {E : XK} {g many : Int} (q : Q (.int (movedI g many)) H) : sp_moved K G [.int g, .int many] H Q E := by
  unfold sp_moved
  exact ⟨g, many, rfl, q⟩
def t_moved (K : PySem.W.Frag) (G : Ads) (E : XK) : TS :=
  (tSeq (tIfS (tTest (tOp mLt (tVar 0) (tC (.int 0))))
    (tRet (tVar 0))
    tNext)
    (tRet (tOp mAdd (tVar 0) (tVar 1))))
abbrev N_moved : List Str := ["gone", "many"]

theorem pure_moved {K : PySem.W.Frag} {G : Ads} {vs H Q E} (h : sp_moved K G vs H Q E) : t_moved K G E { nx := fun _ H' => Q .non H', rt := Q } (start N_moved vs) H := by
  unfold sp_moved at h
  obtain ⟨g, many, rfl, q⟩ := h
  show t_moved K G E _ [some (.int g), some (.int many)] H
  unfold t_moved
  walk_at "g"
  unfold movedI at q
  refine ifP (fun h => ?_) (fun h => ?_)
  · walk_at "g"
    rw [if_pos h] at q
    exact q
  · walk_at "g"
    rw [if_neg h] at q
    exact q
/-- [[moved(gone, len(low)) for gone in row] for row in rows] -/
theorem g_lcLift {K : PySem.W.Frag} {G : Ads} {σ : L2.St} {H : Hp} {Q : VK} {i j m : Nat} {vs ws : List Nat} {a c : Addr} {rows low : List (List Int)} (R : RowsAt H a rows) (RL : RowsAt H c low) (hn : rows.length ≤ 100000) (hrow : ∀ k, k < rows.length → (rows.getD k []).length ≤ 100000)
    (hw : ∀ x : V, wipe ((wipe σ vs).set i (some x)) vs = wipe σ vs) (hw2 : ∀ x y : V, wipe ((wipe ((wipe σ vs).set i (some x)) ws).set j (some y)) ws = wipe ((wipe σ vs).set i (some x)) ws)
    (h1 : ∀ x : V, ((wipe σ vs).set i (some x))[i]? = some (some x)) (h2 : ∀ x y : V, ((wipe ((wipe σ vs).set i (some x)) ws).set j (some y))[j]? = some (some y)) (h3 : ∀ x y : V, ((wipe ((wipe σ vs).set i (some x)) ws).set j (some y))[m]? = some (some (.ref c)))
    (hd : ∀ D H1, Same H H1 → NewRows H H1 D (liftRows low.length rows) → Q (.ref D) H1) :
    LcL K a i tYes (tLc (iList K (tVar i)) (gName j) tYes (tCall (sp_moved K G) [] E0 (tCons (tVar j) (tCons (tCB (mLen K) (tCons (tVar m) tNil)) tNil))) ws) vs σ H Q := by
  obtain ⟨bs, s1, e1, at1⟩ := R.sq (K := K)
  have hbl : (bs.map V.ref).length = rows.length := by rw [List.length_map, e1]
  refine lcLRows (fun rs => ∀ k : Nat, k < rs.length → rs.getD k [] = (liftRows low.length rows).getD k []) (fun k hk => by simp at hk) (by rw [hbl]; omega) s1 hw (fun D k v cs rs H2 S hx el p l2 qs => ?_) (fun D rs H2 el p s2 n2 => ?_)
  · obtain ⟨r, rfl, hk2, hr2⟩ := at1 _ _ hx
    refine g_lcL (g_var (h1 _) (g_lstw (l2.base hr2) ?_))
    refine lcLI (fun zs => zs = ((rows.getD k []).map (fun g => movedI g low.length)).take zs.length) rfl (by rw [List.length_map]; exact hrow _ hk2) (l2.base hr2) (fun x => hw2 _ x) (fun D2 j v zs H3 S3 hx3 el3 p3 l3 qs3 => ?_) (fun D2 zs H3 nD2 el3 p3 s3 hD2 => ?_)
    · obtain ⟨g, hg, rfl⟩ : ∃ g, (rows.getD k [])[j]? = some g ∧ v = V.int g := by
        rw [List.getElem?_map] at hx3
        cases z : (rows.getD k [])[j]? with
        | none =>
          rw [z] at hx3
          cases hx3
        | some g =>
          rw [z] at hx3
          exact ⟨g, rfl, (Option.some.inj hx3).symm⟩
      refine g_call (g_cons (g_var (h2 _ _) (g_cons (g_cb (g_cons (g_var (h3 _ _) (g_nil (g_lenR ((RL.mono l2.same).mono l3.same) (g_nil ?_)))))))))
      refine c_moved (qs3 _ _ ?_ l3)
      rw [List.length_append, el3]
      show zs ++ [movedI g low.length] = List.take (j + 1) _
      rw [List.take_add_one, List.getElem?_map, hg, ← el3, ← p3]
      rfl
    · rw [List.length_map] at el3
      refine qs D2 zs H3 (fun m hm2 => ?_) (l2.add s3 nD2 hD2)
      rw [List.length_append] at hm2
      by_cases z : m < rs.length
      · rw [List.getD_eq_getElem?_getD, List.getElem?_append_left z, ← List.getD_eq_getElem?_getD]
        exact p m z
      · have e2 : m = rs.length := by simp at hm2; omega
        subst e2
        rw [List.getD_eq_getElem?_getD, List.getElem?_append_right (Nat.le_refl _), Nat.sub_self, el, liftRows_get _ hk2]
        show zs = _
        rw [p3, el3, ← List.length_map (f := fun g => movedI g low.length), List.take_length]
  · rw [hbl] at el
    have er : rs = liftRows low.length rows := rows_ext (by rw [liftRows_len]; exact el) p
    subst er
    exact hd D H2 s2 n2

@[irreducible] def sp_turns_by (K : PySem.W.Frag) (_ : Ads) : Sp := fun vs H Q _ => ∃ (a p : Addr) (ns : List Int) (rows : List (List Int)), vs = [.ref a, .ref p] ∧ SqL K H a (ns.map V.int) ∧ RowsAt H p rows ∧ rows.length ≤ 1000 ∧
  (∀ k : Nat, k < rows.length → 1 ≤ (rows.getD k []).length) ∧ ∀ (D : Addr) (turns : List Int) (H' : Hp), TurnsOk rows turns → H D = none → Same H H' → H' D = some (ilst turns) → Q (.ref D) H'
theorem len_turns_by {K : PySem.W.Frag} {G : Ads} {vs H Q E} (h : sp_turns_by K G vs H Q E) : vs.length = 2 := by
  unfold sp_turns_by at h
  obtain ⟨a, p, ns, rows, rfl, _⟩ := h
  rfl
theorem c_turns_by {K : PySem.W.Frag} {G : Ads} {H : Hp} {Q : VK} {E : XK} {a p : Addr} {ns : List Int} {rows : List (List Int)} (s : SqL K H a (ns.map V.int)) (R : RowsAt H p rows) (ok : OkRows rows)
    (q : ∀ (D : Addr) (turns : List Int) (H' : Hp), TurnsOk rows turns → H D = none → Same H H' → H' D = some (ilst turns) → Q (.ref D) H') : sp_turns_by K G [.ref a, .ref p] H Q E := by
  unfold sp_turns_by
  exact ⟨a, p, ns, rows, rfl, s, R, by have := ok.2.1; omega, fun k hk => (ok.row hk).1, q⟩
def t_turns_by (K : PySem.W.Frag) (G : Ads) (E : XK) : TS :=
  (tRet (tLc (iRng1 (tCons (tCB (mLen K) (tCons (tVar 1) tNil)) tNil)) (gName 2) tYes (tCall (sp_drawn K G) [] E0 (tCons (tVar 0) (tCons (tOp mAdd (tC (.int 260)) (tVar 2)) (tCons (tCB (mLen K) (tCons (tOp (rIxL K) (tVar 1) (tVar 2)) tNil)) tNil)))) [2]))
abbrev N_turns_by : List Str := ["script", "rows", "k"]

theorem pure_turns_by {K : PySem.W.Frag} {G : Ads} {vs H Q E} (h : sp_turns_by K G vs H Q E) : t_turns_by K G E { nx := fun _ H' => Q .non H', rt := Q } (start N_turns_by vs) H := by
  unfold sp_turns_by at h
  obtain ⟨a, p, ns, rows, rfl, hS, R, hn, h1, q⟩ := h
  show t_turns_by K G E _ [some (.ref a), some (.ref p), none] H
  unfold t_turns_by
  walk_at "g"
  refine lcRI (fun ts => ∀ k : Nat, k < ts.length → 0 ≤ ts.getD k 0 ∧ ts.getD k 0 < (rows.getD k []).length) (fun k hk => by simp at hk) (by omega) (fun _ => rfl) (fun D k ts H1 S hk e pt led qs => ?_) (fun D ts H1 nD e pt s hD => ?_)
  · walk_at "g"
    refine g_row (led.ra R) (by omega) (by omega) fun r hr => ?_
    walk_at "g"
    have e0 : (0 + (k : Int)).toNat = k := by omega
    rw [e0]
    have := h1 k (by omega)
    refine c_drawn (led.base hS) (by walk_at "ar") (by walk_at "ar") (by walk_at "ar") fun d h0 h1 => ?_
    refine qs d _ (fun j hj => ?_) led
    rw [List.length_append] at hj
    by_cases z : j < ts.length
    · rw [List.getD_eq_getElem?_getD, List.getElem?_append_left z, ← List.getD_eq_getElem?_getD]
      exact pt j z
    · have e2 : j = ts.length := by simp at hj; omega
      subst e2
      rw [List.getD_eq_getElem?_getD, List.getElem?_append_right (Nat.le_refl _), Nat.sub_self, e]
      exact ⟨h0, h1⟩
  · exact q D ts H1 ⟨by omega, fun k hk => pt k (by omega)⟩ nD s hD

@[irreducible] def sp_checked (_ : PySem.W.Frag) (G : Ads) : Sp := fun vs H Q E => ∃ (p : Addr) (rows : List (List Int)), vs = [.ref p] ∧ RowsAt H p rows ∧ rows.length ≤ 10000 ∧ (∀ row, row ∈ rows → row.length ≤ 10000) ∧
  ((rows.length < 1 ∨ 12 < rows.length) → E (.ref G.NoSite) none H) ∧ (1 ≤ rows.length → rows.length ≤ 12 → ¬ OkRows rows → E (.ref G.NoExit) none H) ∧
  (OkRows rows → ∀ (D : Addr) (H' : Hp), Same H H' → NewRows H H' D rows → Q (.ref D) H')
theorem len_checked {K : PySem.W.Frag} {G : Ads} {vs H Q E} (h : sp_checked K G vs H Q E) : vs.length = 1 := by
  unfold sp_checked at h
  obtain ⟨a, ns, rfl, _⟩ := h
  rfl
def t_checked (K : PySem.W.Frag) (G : Ads) (E : XK) : TS :=
  (tSeq (tIfS (tOr (tTest (tOp mLt (tCB (mLen K) (tCons (tVar 0) tNil)) (tC (.int 1)))) (tTest (tOp mGt (tCB (mLen K) (tCons (tVar 0) tNil)) (tC (.int 12)))))
    (tRaise E G.NoSite)
    tNext)
    (tSeq (tFor (iList K (tVar 0)) (gName 1)
    (tSeq (tIfS (tOr (tTest (tOp mLt (tCB (mLen K) (tCons (tVar 1) tNil)) (tC (.int 1)))) (tTest (tOp mGt (tCB (mLen K) (tCons (tVar 1) tNil)) (tC (.int 8)))))
    (tRaise E G.NoExit)
    tNext)
    (tFor (iList K (tVar 1)) (gName 2)
    (tIfS (tOr (tTest (tOp mLt (tVar 2) (tC (.int (-1))))) (tTest (tOp mGe (tVar 2) (tCB (mLen K) (tCons (tVar 0) tNil)))))
    (tRaise E G.NoExit)
    tNext))))
    (tRet (tLc (iList K (tVar 0)) (gName 1) tYes (tCB (mList K) (tCons (tVar 1) tNil)) [1]))))
abbrev N_checked : List Str := ["rows", "row", "gone"]

theorem pure_checked {K : PySem.W.Frag} {G : Ads} {vs H Q E} (h : sp_checked K G vs H Q E) : t_checked K G E { nx := fun _ H' => Q .non H', rt := Q } (start N_checked vs) H := by
  unfold sp_checked at h
  obtain ⟨p, rows, rfl, R, hn, hn2, q1, q2, q3⟩ := h
  show t_checked K G E _ [some (.ref p), none, none] H
  unfold t_checked
  walk_at "g"
  refine ifP (fun h => ?_) (fun h => ?_)
  · walk_at "g"
    exact q1 (.inl (by omega))
  walk_at "g"
  refine ifP (fun h2 => ?_) (fun h2 => ?_)
  · walk_at "g"
    exact q1 (.inr (by omega))
  walk_at "g"
  refine loopRows (fun k σ H' => ∃ v1 v2 : Option V, σ = [some (.ref p), v1, v2] ∧ H' = H ∧ ∀ j : Nat, j < k → OkRow rows.length (rows.getD j [])) ⟨_, _, rfl, rfl, fun j hj => by omega⟩ R (fun k σ H' ⟨_, _, _, e, _⟩ => by rw [e]; exact Same.refl H) ?_ ?_
  · rintro k r σ H' hk ⟨v1, v2, rfl, rfl, ok⟩ hr
    have hrl := hn2 _ (getD_mem (d := []) hk)
    walk_at "g"
    refine ifP (fun h => ?_) (fun h => ?_)
    · walk_at "g"
      exact q2 (by omega) (by omega) fun o => by have := (o.row hk).1; omega
    walk_at "g"
    refine ifP (fun h2 => ?_) (fun h2 => ?_)
    · walk_at "g"
      exact q2 (by omega) (by omega) fun o => by have := (o.row hk).2.1; omega
    walk_at "g"
    refine loopI (ns := rows.getD k []) (fun j σ H2 => ∃ v2 : Option V, σ = [some (.ref p), some (.ref r), v2] ∧ H2 = H' ∧ ∀ i : Nat, i < j → -1 ≤ (rows.getD k []).getD i 0 ∧ (rows.getD k []).getD i 0 < rows.length) ⟨_, rfl, rfl, fun i hi => by omega⟩ (fun j σ H2 _ ⟨_, _, e, _⟩ => by rw [e]; exact hr) ?_ ?_
    · rintro j σ H2 hj ⟨v2, rfl, rfl, ok2⟩
      walk_at "g"
      refine ifP (fun h => ?_) (fun h => ?_)
      · walk_at "g"
        exact q2 (by omega) (by omega) fun o => by have := o.exit hk hj; omega
      walk_at "g"
      refine ifP (fun h2 => ?_) (fun h2 => ?_)
      · walk_at "g"
        exact q2 (by omega) (by omega) fun o => by have := o.exit hk hj; omega
      walk_at "g"
      refine ⟨_, rfl, rfl, fun i hi => ?_⟩
      by_cases z : i = j
      · subst z
        omega
      · exact ok2 i (by omega)
    · rintro σ H2 ⟨v2, rfl, rfl, ok2⟩
      refine ⟨_, _, rfl, rfl, fun j hj => ?_⟩
      by_cases z : j = k
      · subst z
        refine ⟨by omega, by omega, fun g hg => ?_⟩
        obtain ⟨i, hi, rfl⟩ := List.getElem_of_mem hg
        have := ok2 i hi
        rw [List.getD_eq_getElem?_getD, List.getElem?_eq_getElem hi] at this
        exact this
      · exact ok j (by omega)
  · rintro σ H' ⟨v1, v2, rfl, rfl, ok⟩
    have okr : OkRows rows := ⟨by omega, by omega, fun row hr => by
      obtain ⟨j, hj, e⟩ := List.getElem_of_mem hr
      have := ok j hj
      rw [List.getD_eq_getElem?_getD, List.getElem?_eq_getElem hj] at this
      rw [← e]
      exact this⟩
    walk_at "g"
    exact lcCopy R (by omega) (fun _ => rfl) (fun _ => rfl) fun D H1 s n => q3 okr D H1 s n

/-- what __init__ leaves: the instance b filled, all else as it was -/
def InitBd (C : Addr) (H H' : Hp) (b dx r t l s : Addr) (rows : List (List Int)) : Prop := ∃ B1, (∀ q o, H q = some o → q ≠ b → B1 q = some o) ∧ NewRows H B1 r rows ∧
  Led B1 (bl C b dx r t l s (List.replicate rows.length 0) (List.replicate rows.length 0) (List.replicate rows.length 0) 0) H'
@[irreducible] def sp_Board_init (_ : PySem.W.Frag) (G : Ads) : Sp := fun vs H Q E => ∃ (b dx p : Addr) (rows : List (List Int)), vs = [.ref b, .ref p] ∧ H b = some (.ins G.Board dx []) ∧ RowsAt H p rows ∧ rows.length ≤ 10000 ∧ (∀ row, row ∈ rows → row.length ≤ 10000) ∧
  ((rows.length < 1 ∨ 12 < rows.length) → E (.ref G.NoSite) none H) ∧ (1 ≤ rows.length → rows.length ≤ 12 → ¬ OkRows rows → E (.ref G.NoExit) none H) ∧
  (OkRows rows → ∀ (r t l s : Addr) (H' : Hp), InitBd G.Board H H' b dx r t l s rows → Q .non H')
theorem len_Board_init {K : PySem.W.Frag} {G : Ads} {vs H Q E} (h : sp_Board_init K G vs H Q E) : vs.length = 2 := by
  unfold sp_Board_init at h
  obtain ⟨b, dx, p, rows, rfl, _⟩ := h
  rfl
/-- Board(rows) -/
theorem c_Board {K : PySem.W.Frag} {G : Ads} {H : Hp} {QB : Addr → Hp → Prop} {E : XK} {p : Addr} {rows : List (List Int)} (R : RowsAt H p rows) (hn : rows.length ≤ 10000) (hn2 : ∀ row, row ∈ rows → row.length ≤ 10000)
    (q1 : (rows.length < 1 ∨ 12 < rows.length) → ∀ H', Same H H' → E (.ref G.NoSite) none H') (q2 : 1 ≤ rows.length → rows.length ≤ 12 → ¬ OkRows rows → ∀ H', Same H H' → E (.ref G.NoExit) none H')
    (q3 : OkRows rows → ∀ (b dx r t l s : Addr) (H' : Hp), NewB G.Board H H' b dx r t l s rows (List.replicate rows.length 0) (List.replicate rows.length 0) (List.replicate rows.length 0) 0 → QB b H') :
    ∀ x dx, H x = none → H dx = none → dx ≠ x → sp_Board_init K G [.ref x, .ref p] (upd (upd H dx (.own x)) x (.ins G.Board dx [])) (fun v H2 => v = .non ∧ QB x H2) E := by
  intro b dx nb ndx ne
  have s0 : Same H (upd (upd H dx (.own b)) b (.ins G.Board dx [])) := fun q o e => by
    rw [upd_ne (ne_of_none e nb), upd_ne (ne_of_none e ndx)]
    exact e
  unfold sp_Board_init
  refine ⟨b, dx, p, rows, rfl, upd_same, R.mono s0, hn, hn2, fun h => q1 h _ s0, fun h1 h2 h3 => q2 h1 h2 h3 _ s0, fun ok r t l s H' I => ⟨rfl, q3 ok b dx r t l s H' ?_⟩⟩
  obtain ⟨B1, kp, nr, led⟩ := I
  exact ⟨B1, fun q o e => kp q o (s0 q o e) (ne_of_none e nb), nr.back s0, led⟩
def t_Board_init (K : PySem.W.Frag) (G : Ads) (E : XK) : TS :=
  (tSeq (sFld K (tVar 0) (tCall (sp_checked K G) [] E (tCons (tVar 1) tNil)) "rows")
    (tSeq (sFld K (tVar 0) (tLc (iList K (tVar 1)) (gName 2) tYes (tC (.int 0)) [2]) "turns")
    (tSeq (sFld K (tVar 0) (tLc (iList K (tVar 1)) (gName 2) tYes (tC (.int 0)) [2]) "loads")
    (tSeq (sFld K (tVar 0) (tLc (iList K (tVar 1)) (gName 2) tYes (tC (.int 0)) [2]) "steps")
    (sFld K (tVar 0) (tC (.int 0)) "taken")))))
abbrev N_Board_init : List Str := ["self", "rows", "row"]

theorem pure_Board_init {K : PySem.W.Frag} {G : Ads} {vs H Q E} (bd : BdOk K G) (h : sp_Board_init K G vs H Q E) : t_Board_init K G E { nx := fun _ H' => Q .non H', rt := Q } (start N_Board_init vs) H := by
  unfold sp_Board_init at h
  obtain ⟨b, dx, p, rows, rfl, hb, R, hn, hn2, q1, q2, q3⟩ := h
  show t_Board_init K G E _ [some (.ref b), some (.ref p), none] H
  unfold t_Board_init
  obtain ⟨B, led, keep⟩ := Led.one hb
  walk_at "g"
  unfold sp_checked
  refine ⟨p, rows, rfl, R, hn, hn2, q1, q2, fun ok r H1 s1 n1 => ?_⟩
  obtain ⟨B2, sB, nR, led2⟩ := led.rows s1 n1
  have R1 : RowsAt H1 p rows := R.mono s1
  walk_at "g"
  refine g_put led2 0 rfl bd.cl bd.n_rows (by show 0 < 1000; decide) rfl fun H2 led3 => ?_
  -- the rows that were handed in stand in the base, for they are lists
  have RB : RowsAt B2 p rows := by
    obtain ⟨as, e1, e2, e3⟩ := R
    refine ⟨as, sB _ _ (keep _ _ e1 (ne_of e1 hb (by intro z; cases z))), e2, fun i a row h1 h2 => sB _ _ (keep _ _ (e3 i a row h1 h2) (ne_of (e3 i a row h1 h2) hb (by intro z; cases z)))⟩
  have hlen : rows.length ≤ 100000 := by omega
  walk_at "g"
  refine lcRows0 (led3.ra RB) hlen (fun _ => rfl) fun t H3 nt st et => ?_
  have led4 := led3.add st nt et
  walk_at "g"
  refine g_put led4 0 rfl bd.cl bd.n_turns (by show 1 < 1000; decide) rfl fun H4 led5 => ?_
  walk_at "g"
  refine lcRows0 (led5.ra RB) hlen (fun _ => rfl) fun l H5 nl sl el => ?_
  have led6 := led5.add sl nl el
  walk_at "g"
  refine g_put led6 0 rfl bd.cl bd.n_loads (by show 2 < 1000; decide) rfl fun H6 led7 => ?_
  walk_at "g"
  refine lcRows0 (led7.ra RB) hlen (fun _ => rfl) fun s H7 ns ss es => ?_
  have led8 := led7.add ss ns es
  walk_at "g"
  refine g_put led8 0 rfl bd.cl bd.n_steps (by show 3 < 1000; decide) rfl fun H8 led9 => ?_
  walk_at "g"
  refine g_put led9 0 rfl bd.cl bd.n_taken (by show 4 < 1000; decide) bf_made fun H9 led10 => ?_
  walk_at "g"
  exact q3 ok r t l s H9 ⟨B2, fun q o e n => sB _ _ (keep q o e n), nR, led10⟩

@[irreducible] def sp_Board_has_site (_ : PySem.W.Frag) (G : Ads) : Sp := fun vs H Q _ => ∃ (b dx r t l s : Addr) (tk at_ : Int) (rows : List (List Int)), vs = [.ref b, .int at_] ∧ H b = some (.ins G.Board dx (bf r t l s tk)) ∧ RowsAt H r rows ∧
  Q (.bl (decide (0 ≤ at_ ∧ at_ < rows.length))) H
theorem len_Board_has_site {K : PySem.W.Frag} {G : Ads} {vs H Q E} (h : sp_Board_has_site K G vs H Q E) : vs.length = 2 := by
  unfold sp_Board_has_site at h
  obtain ⟨b, dx, r, t, l, s, tk, a, rows, rfl, _⟩ := h
  rfl
theorem c_has_site {K : PySem.W.Frag} {G : Ads} {H : Hp} {Q : VK} {E : XK} {b dx r t l s : Addr} {tk at_ : Int} {rows : List (List Int)} (e : H b = some (.ins G.Board dx (bf r t l s tk))) (R : RowsAt H r rows) (q : Q (.bl (decide (0 ≤ at_ ∧ at_ < rows.length))) H) :
    sp_Board_has_site K G [.ref b, .int at_] H Q E := by
  unfold sp_Board_has_site
  exact ⟨b, dx, r, t, l, s, tk, at_, rows, rfl, e, R, q⟩
def t_Board_has_site (K : PySem.W.Frag) (G : Ads) (E : XK) : TS :=
  (tRet (tAndV (tOp mLe (tC (.int 0)) (tVar 1)) (tOp mLt (tVar 1) (tCB (mLen K) (tCons (tFld K (tVar 0) "rows") tNil)))))
abbrev N_Board_has_site : List Str := ["self", "at"]

theorem pure_Board_has_site {K : PySem.W.Frag} {G : Ads} {vs H Q E} (bd : BdOk K G) (h : sp_Board_has_site K G vs H Q E) : t_Board_has_site K G E { nx := fun _ H' => Q .non H', rt := Q } (start N_Board_has_site vs) H := by
  unfold sp_Board_has_site at h
  obtain ⟨b, dx, r, t, l, s, tk, a, rows, rfl, e, R, q⟩ := h
  show t_Board_has_site K G E _ [some (.ref b), some (.int a)] H
  unfold t_Board_has_site
  walk_at "g"
  refine ifP (fun h => ?_) (fun h => ?_)
  · walk_at "g"
    refine g_bfld e bd.cl bd.n_rows bf_rows ?_
    walk_at "g"
    have e2 : decide (a < (rows.length : Int)) = decide (0 ≤ a ∧ a < rows.length) := decide_eq_decide.mpr ⟨fun z => ⟨h, z⟩, fun z => z.2⟩
    rw [e2]
    exact q
  · walk_at "g"
    have e2 : decide (0 ≤ a ∧ a < (rows.length : Int)) = false := decide_eq_false fun z => h z.1
    rw [e2] at q
    exact q

@[irreducible] def sp_Board_turn_to (_ : PySem.W.Frag) (G : Ads) : Sp := fun vs H Q E => ∃ (B : Hp) (L : List (Addr × HO)) (i : Nat) (b dx r t l s : Addr) (rows : List (List Int)) (turns loads steps : List Int) (taken at_ place : Int),
  vs = [.ref b, .int at_, .int place] ∧ Led B L H ∧ LB G.Board B L i b dx r t l s rows turns loads steps taken ∧ turns.length = rows.length ∧
  (¬ (0 ≤ at_ ∧ at_ < rows.length) → E (.ref G.NoSite) none H) ∧ (0 ≤ at_ → at_ < rows.length → ¬ (0 ≤ place ∧ place < (rows.getD at_.toNat []).length) → E (.ref G.NoPlace) none H) ∧
  (0 ≤ at_ → at_ < rows.length → 0 ≤ place → place < (rows.getD at_.toNat []).length → ∀ H', Led B (L.set (i + 1) (t, ilst (turns.set at_.toNat place))) H' → Q .non H')
theorem len_Board_turn_to {K : PySem.W.Frag} {G : Ads} {vs H Q E} (h : sp_Board_turn_to K G vs H Q E) : vs.length = 3 := by
  unfold sp_Board_turn_to at h
  obtain ⟨_, _, _, _, _, _, _, _, _, _, _, _, _, _, _, _, rfl, _⟩ := h
  rfl
theorem c_turn_to {K : PySem.W.Frag} {G : Ads} {H : Hp} {Q : VK} {E : XK} {B : Hp} {L : List (Addr × HO)} {i : Nat} {b dx r t l s : Addr} {rows : List (List Int)} {turns loads steps : List Int} {taken at_ place : Int}
    (led : Led B L H) (x : LB G.Board B L i b dx r t l s rows turns loads steps taken) (hl : turns.length = rows.length) (h0 : 0 ≤ at_) (h1 : at_ < rows.length) (h2 : 0 ≤ place) (h3 : place < (rows.getD at_.toNat []).length)
    (q : ∀ H', Led B (L.set (i + 1) (t, ilst (turns.set at_.toNat place))) H' → Q .non H') : sp_Board_turn_to K G [.ref b, .int at_, .int place] H Q E := by
  unfold sp_Board_turn_to
  exact ⟨B, L, i, b, dx, r, t, l, s, rows, turns, loads, steps, taken, at_, place, rfl, led, x, hl, fun h => absurd ⟨h0, h1⟩ h, fun _ _ h => absurd ⟨h2, h3⟩ h, fun _ _ _ _ => q⟩
def t_Board_turn_to (K : PySem.W.Frag) (G : Ads) (E : XK) : TS :=
  (tSeq (tIfS (tNot (tB (tMeth G.Board "has_site" (sp_Board_has_site K G) [] E0 (tVar 0) (tCons (tVar 1) tNil))))
    (tRaise E G.NoSite)
    tNext)
    (tSeq (tIfS (tOr (tTest (tOp mLt (tVar 2) (tC (.int 0)))) (tTest (tOp mGe (tVar 2) (tCB (mLen K) (tCons (tOp (rIxL K) (tFld K (tVar 0) "rows") (tVar 1)) tNil)))))
    (tRaise E G.NoPlace)
    tNext)
    (tAsg (tVar 2) (gSub (tFld K (tVar 0) "turns") (tVar 1) rSetL))))
abbrev N_Board_turn_to : List Str := ["self", "at", "place"]

theorem pure_Board_turn_to {K : PySem.W.Frag} {G : Ads} {vs H Q E} (bd : BdOk K G) (h : sp_Board_turn_to K G vs H Q E) : t_Board_turn_to K G E { nx := fun _ H' => Q .non H', rt := Q } (start N_Board_turn_to vs) H := by
  unfold sp_Board_turn_to at h
  obtain ⟨B, L, i, b, dx, r, t, l, s, rows, turns, loads, steps, taken, a, p, rfl, led, x, hl, q1, q2, q3⟩ := h
  show t_Board_turn_to K G E _ [some (.ref b), some (.int a), some (.int p)] H
  unfold t_Board_turn_to
  have X := led.bd x
  walk_at "g"
  refine g_self X.ins bm_has_site ?_
  walk_at "g"
  refine c_has_site X.ins X.rws ?_
  walk_at "g"
  refine ifN (fun h => ?_) (fun h => ?_)
  · walk_at "g"
    exact q1 h
  walk_at "g"
  refine ifP (fun h2 => ?_) (fun h2 => ?_)
  · walk_at "g"
    exact q2 h.1 h.2 (by omega)
  walk_at "g"
  refine g_bfld X.ins bd.cl bd.n_rows bf_rows ?_
  walk_at "g"
  refine g_row X.rws h.1 h.2 fun w hw => ?_
  walk_at "g"
  refine ifP (fun h3 => ?_) (fun h3 => ?_)
  · walk_at "g"
    exact q2 h.1 h.2 (by omega)
  walk_at "g"
  refine g_bfld X.ins bd.cl bd.n_turns bf_turns ?_
  walk_at "g"
  refine g_setL led (i + 1) x.tns h.1 (by omega) fun H' led' => ?_
  exact q3 h.1 h.2 (by omega) (by omega) H' led'

@[irreducible] def sp_Board_load (_ : PySem.W.Frag) (G : Ads) : Sp := fun vs H Q E => ∃ (B : Hp) (L : List (Addr × HO)) (i : Nat) (b dx r t l s : Addr) (rows : List (List Int)) (turns loads steps : List Int) (taken at_ many : Int),
  vs = [.ref b, .int at_, .int many] ∧ Led B L H ∧ LB G.Board B L i b dx r t l s rows turns loads steps taken ∧ loads.length = rows.length ∧
  (¬ (0 ≤ at_ ∧ at_ < rows.length) → E (.ref G.NoSite) none H) ∧ (0 ≤ at_ → at_ < rows.length → 400 < loads.sum + many → E (.ref G.TooMany) none H) ∧
  (0 ≤ at_ → at_ < rows.length → loads.sum + many ≤ 400 → ∀ H', Led B (L.set (i + 2) (l, ilst (loads.set at_.toNat (loads.getD at_.toNat 0 + many)))) H' → Q .non H')
theorem len_Board_load {K : PySem.W.Frag} {G : Ads} {vs H Q E} (h : sp_Board_load K G vs H Q E) : vs.length = 3 := by
  unfold sp_Board_load at h
  obtain ⟨_, _, _, _, _, _, _, _, _, _, _, _, _, _, _, _, rfl, _⟩ := h
  rfl
theorem c_load {K : PySem.W.Frag} {G : Ads} {H : Hp} {Q : VK} {E : XK} {B : Hp} {L : List (Addr × HO)} {i : Nat} {b dx r t l s : Addr} {rows : List (List Int)} {turns loads steps : List Int} {taken at_ many : Int}
    (led : Led B L H) (x : LB G.Board B L i b dx r t l s rows turns loads steps taken) (hl : loads.length = rows.length) (h0 : 0 ≤ at_) (h1 : at_ < rows.length) (h2 : loads.sum + many ≤ 400)
    (q : ∀ H', Led B (L.set (i + 2) (l, ilst (loads.set at_.toNat (loads.getD at_.toNat 0 + many)))) H' → Q .non H') : sp_Board_load K G [.ref b, .int at_, .int many] H Q E := by
  unfold sp_Board_load
  exact ⟨B, L, i, b, dx, r, t, l, s, rows, turns, loads, steps, taken, at_, many, rfl, led, x, hl, fun h => absurd ⟨h0, h1⟩ h, fun _ _ h => by omega, fun _ _ _ => q⟩
def t_Board_load (K : PySem.W.Frag) (G : Ads) (E : XK) : TS :=
  (tSeq (tIfS (tNot (tB (tMeth G.Board "has_site" (sp_Board_has_site K G) [] E0 (tVar 0) (tCons (tVar 1) tNil))))
    (tRaise E G.NoSite)
    tNext)
    (tSeq (tIfS (tTest (tOp mGt (tOp mAdd (tCB (rSum K) (tCons (tFld K (tVar 0) "loads") tNil)) (tVar 2)) (tC (.int 400))))
    (tRaise E G.TooMany)
    tNext)
    (tAsg (tOp mAdd (tOp (rIxL K) (tFld K (tVar 0) "loads") (tVar 1)) (tVar 2)) (gSub (tFld K (tVar 0) "loads") (tVar 1) rSetL))))
abbrev N_Board_load : List Str := ["self", "at", "many"]

theorem pure_Board_load {K : PySem.W.Frag} {G : Ads} {vs H Q E} (bd : BdOk K G) (h : sp_Board_load K G vs H Q E) : t_Board_load K G E { nx := fun _ H' => Q .non H', rt := Q } (start N_Board_load vs) H := by
  unfold sp_Board_load at h
  obtain ⟨B, L, i, b, dx, r, t, l, s, rows, turns, loads, steps, taken, a, p, rfl, led, x, hl, q1, q2, q3⟩ := h
  show t_Board_load K G E _ [some (.ref b), some (.int a), some (.int p)] H
  unfold t_Board_load
  have X := led.bd x
  walk_at "g"
  refine g_self X.ins bm_has_site ?_
  walk_at "g"
  refine c_has_site X.ins X.rws ?_
  walk_at "g"
  refine ifN (fun h => ?_) (fun h => ?_)
  · walk_at "g"
    exact q1 h
  walk_at "g"
  refine g_bfld X.ins bd.cl bd.n_loads bf_loads ?_
  have hS : SqL K H l (loads.map V.int) := SqL.of X.lds
  walk_at "g"
  refine ifP (fun h3 => ?_) (fun h3 => ?_)
  · walk_at "g"
    exact q2 h.1 h.2 h3
  walk_at "g"
  refine g_bfld X.ins bd.cl bd.n_loads bf_loads ?_
  walk_at "g"
  try refine g_ixI hS h.1 (by omega) ?_
  walk_at "g"
  refine g_bfld X.ins bd.cl bd.n_loads bf_loads ?_
  walk_at "g"
  refine g_setL led (i + 2) x.lds h.1 (by omega) fun H' led' => ?_
  exact q3 h.1 h.2 (by omega) H' led'

/-- the loads so far: the first k of them -/
def firstOf (k : Nat) (xs : List Int) : List Int := (List.range xs.length).map fun i => if i < k then xs.getD i 0 else 0
theorem firstOf_len (k : Nat) (xs : List Int) : (firstOf k xs).length = xs.length := by simp [firstOf]
theorem firstOf_get {k i : Nat} {xs : List Int} (h : i < xs.length) : (firstOf k xs).getD i 0 = if i < k then xs.getD i 0 else 0 := by
  unfold firstOf
  rw [List.getD_eq_getElem?_getD, List.getElem?_map, List.getElem?_range h]
  rfl
theorem ints_ext {a b : List Int} (hl : a.length = b.length) (h : ∀ i, i < a.length → a.getD i 0 = b.getD i 0) : a = b := by
  apply List.ext_getElem hl
  intro k h1 h2
  have q := h k h1
  rw [List.getD_eq_getElem?_getD, List.getD_eq_getElem?_getD, List.getElem?_eq_getElem h1, List.getElem?_eq_getElem h2] at q
  exact q
theorem firstOf_zero (xs : List Int) : firstOf 0 xs = List.replicate xs.length 0 := by
  refine ints_ext (by simp [firstOf]) fun i hi => ?_
  rw [firstOf_len] at hi
  rw [firstOf_get hi, if_neg (by omega), List.getD_eq_getElem?_getD, List.getElem?_replicate, if_pos hi]
  rfl
theorem firstOf_all (xs : List Int) : firstOf xs.length xs = xs := by
  refine ints_ext (by simp [firstOf]) fun i hi => ?_
  rw [firstOf_len] at hi
  rw [firstOf_get hi, if_pos hi]
theorem firstOf_set {k : Nat} {xs : List Int} (h : k < xs.length) : (firstOf k xs).set k (xs.getD k 0) = firstOf (k + 1) xs := by
  refine ints_ext (by simp [firstOf]) fun i hi => ?_
  rw [List.length_set, firstOf_len] at hi
  rw [getD_set (by rw [firstOf_len]; exact h), firstOf_get hi, firstOf_get hi]
  by_cases e : k = i
  · subst e
    rw [if_pos rfl, if_pos (by omega)]
  · rw [if_neg e]
    by_cases e2 : i < k
    · rw [if_pos e2, if_pos (by omega)]
    · rw [if_neg e2, if_neg (by omega)]
theorem firstOf_sum {xs : List Int} (h : ∀ x, x ∈ xs → 0 ≤ x) (k : Nat) (hk : k ≤ xs.length) : (firstOf k xs).sum = (xs.take k).sum := by
  induction k with
  | zero =>
    rw [firstOf_zero]
    simp
  | succ k ih =>
    rw [← firstOf_set (by omega), sum_set (z := 0) (by
      rw [List.getElem?_eq_getElem (by rw [firstOf_len]; omega)]
      have := firstOf_get (k := k) (i := k) (xs := xs) (by omega)
      rw [List.getD_eq_getElem?_getD, List.getElem?_eq_getElem (by rw [firstOf_len]; omega), if_neg (by omega)] at this
      exact congrArg some this), ih (by omega), List.take_succ, List.sum_append]
    rw [List.getD_eq_getElem?_getD, List.getElem?_eq_getElem (show k < xs.length by omega)]
    simp
theorem sum_nonneg {xs : List Int} (h : ∀ x, x ∈ xs → 0 ≤ x) : 0 ≤ xs.sum := by
  induction xs with
  | nil => simp
  | cons a r ih =>
    rw [List.sum_cons]
    have := h a (by simp)
    have := ih fun x hx => h x (by simp [hx])
    omega
theorem take_sum_le {xs : List Int} (h : ∀ x, x ∈ xs → 0 ≤ x) (k : Nat) : (xs.take k).sum ≤ xs.sum := by
  have e := congrArg List.sum (List.take_append_drop k xs)
  rw [List.sum_append] at e
  have := sum_nonneg (xs := xs.drop k) fun x hx => h x (List.mem_of_mem_drop hx)
  omega
@[irreducible] def sp_board (K : PySem.W.Frag) (G : Ads) : Sp := fun vs H Q _ => ∃ (p tp lp : Addr) (rows : List (List Int)) (turns loads : List Int), vs = [.ref p, .ref tp, .ref lp] ∧ RowsAt H p rows ∧ OkRows rows ∧ TurnsOk rows turns ∧ SqL K H tp (turns.map V.int) ∧
  SqL K H lp (loads.map V.int) ∧ loads.length = rows.length ∧ (∀ x, x ∈ loads → 0 ≤ x) ∧ loads.sum ≤ 400 ∧
  ∀ (b dx r t l s : Addr) (H' : Hp), NewB G.Board H H' b dx r t l s rows turns loads (List.replicate rows.length 0) 0 → Q (.ref b) H'
theorem len_board {K : PySem.W.Frag} {G : Ads} {vs H Q E} (h : sp_board K G vs H Q E) : vs.length = 3 := by
  unfold sp_board at h
  obtain ⟨_, _, _, _, _, _, rfl, _⟩ := h
  rfl
theorem c_board {K : PySem.W.Frag} {G : Ads} {H : Hp} {Q : VK} {E : XK} {p tp lp : Addr} {rows : List (List Int)} {turns loads : List Int} (R : RowsAt H p rows) (ok : OkRows rows) (tk : TurnsOk rows turns) (st : SqL K H tp (turns.map V.int)) (sl : SqL K H lp (loads.map V.int))
    (hl : loads.length = rows.length) (h0 : ∀ x, x ∈ loads → 0 ≤ x) (hs : loads.sum ≤ 400) (q : ∀ (b dx r t l s : Addr) (H' : Hp), NewB G.Board H H' b dx r t l s rows turns loads (List.replicate rows.length 0) 0 → Q (.ref b) H') :
    sp_board K G [.ref p, .ref tp, .ref lp] H Q E := by
  unfold sp_board
  exact ⟨p, tp, lp, rows, turns, loads, rfl, R, ok, tk, st, sl, hl, h0, hs, q⟩
def t_board (K : PySem.W.Frag) (G : Ads) (E : XK) : TS :=
  (tSeq (tAsg (tMake G.Board (sp_Board_init K G) [] E0 (tCons (tLc (iList K (tVar 0)) (gName 5) tYes (tCB (mList K) (tCons (tVar 5) tNil)) [5]) tNil)) (gName 3))
    (tSeq (tFor (iRng1 (tCons (tCB (mLen K) (tCons (tVar 0) tNil)) tNil)) (gName 4)
    (tSeq (tDrop (tMeth G.Board "turn_to" (sp_Board_turn_to K G) [] E0 (tVar 3) (tCons (tVar 4) (tCons (tOp (rIxL K) (tVar 1) (tVar 4)) tNil))))
    (tDrop (tMeth G.Board "load" (sp_Board_load K G) [] E0 (tVar 3) (tCons (tVar 4) (tCons (tOp (rIxL K) (tVar 2) (tVar 4)) tNil))))))
    (tRet (tVar 3))))
abbrev N_board : List Str := ["rows", "turns", "loads", "board", "k", "row"]

theorem pure_board {K : PySem.W.Frag} {G : Ads} {vs H Q E} (h : sp_board K G vs H Q E) : t_board K G E { nx := fun _ H' => Q .non H', rt := Q } (start N_board vs) H := by
  unfold sp_board at h
  obtain ⟨p, tp, lp, rows, turns, loads, rfl, R, ok, tk, st, sl, hl, h0, hs, q⟩ := h
  show t_board K G E _ [some (.ref p), some (.ref tp), some (.ref lp), none, none, none] H
  unfold t_board
  have hn := ok.2.1
  walk_at "g"
  refine lcCopy R (by omega) (fun _ => rfl) (fun _ => rfl) fun D H1 s1 n1 => ?_
  walk_at "g"
  refine c_Board n1.at_ (by omega) (fun row hr => by have := (ok.2.2 row hr).2.1; omega) (fun h => by have := ok.1; omega) (fun _ _ h => absurd ok h) fun _ b dx r t l s H2 N2 => ?_
  obtain ⟨B2, s2, nr, led⟩ := N2
  have sB : Same H B2 := s1.trans s2
  have RB : RowsAt B2 p rows := R.mono sB
  have tB := sB.seq st
  have lB := sB.seq sl
  have hr : RowsAt B2 r rows := nr.at_
  have et : turns.length = rows.length := tk.1
  walk_at "g"
  refine loopR (fun k σ H' => (∃ v, σ = [some (.ref p), some (.ref tp), some (.ref lp), some (.ref b), v, none]) ∧ Led B2 (bl G.Board b dx r t l s (firstOf k turns) (firstOf k loads) (List.replicate rows.length 0) 0) H')
    ⟨⟨_, rfl⟩, by rw [firstOf_zero, firstOf_zero, et, hl]; exact led⟩ ?_ ?_
  · rintro k σ H' hk ⟨⟨v, rfl⟩, led⟩
    have hk : k < rows.length := by simpa using hk
    have e0 : (0 + (k : Int)).toNat = k := by omega
    have tkk := tk.2 k hk
    show tSeq _ _ _ [some (.ref p), some (.ref tp), some (.ref lp), some (.ref b), some (.int (0 + k)), none] H'
    walk_at "g"
    refine g_self (led.get 0 rfl) bm_turn_to ?_
    walk_at "g"
    try refine g_ixI (led.base tB) (by omega) (by omega) ?_
    walk_at "g"
    rw [e0]
    refine c_turn_to led (i := 0) ⟨rfl, rfl, rfl, rfl, hr⟩ (by rw [firstOf_len]; exact et) (by omega) (by omega) tkk.1 (by rw [e0]; exact tkk.2) fun H3 led3 => ?_
    rw [e0] at led3
    have led3 : Led B2 (bl G.Board b dx r t l s ((firstOf k turns).set k (turns.getD k 0)) (firstOf k loads) (List.replicate rows.length 0) 0) H3 := led3
    rw [firstOf_set (by omega)] at led3
    walk_at "g"
    refine g_self (led3.get 0 rfl) bm_load ?_
    walk_at "g"
    try refine g_ixI (led3.base lB) (by omega) (by omega) ?_
    walk_at "g"
    rw [e0]
    have hsum : (firstOf k loads).sum + loads.getD k 0 ≤ 400 := by
      rw [firstOf_sum h0 k (by omega)]
      have e1 := take_sum_le h0 (k + 1)
      rw [List.take_succ, List.sum_append] at e1
      rw [List.getD_eq_getElem?_getD]
      rw [List.getElem?_eq_getElem (show k < loads.length by omega)] at e1 ⊢
      simp at e1 ⊢
      omega
    refine c_load led3 (i := 0) ⟨rfl, rfl, rfl, rfl, hr⟩ (by rw [firstOf_len]; exact hl) (by omega) (by omega) hsum fun H4 led4 => ?_
    rw [e0, firstOf_get (by omega), if_neg (by omega), Int.zero_add] at led4
    have led4 : Led B2 (bl G.Board b dx r t l s (firstOf (k + 1) turns) ((firstOf k loads).set k (loads.getD k 0)) (List.replicate rows.length 0) 0) H4 := led4
    rw [firstOf_set (by omega)] at led4
    walk_at "g"
    exact ⟨⟨_, rfl⟩, led4⟩
  · rintro σ H' ⟨⟨v, rfl⟩, led⟩
    have e1 : ((rows.length : Int)).toNat = rows.length := by omega
    walk_at "g"
    have z1 := firstOf_all turns
    have z2 := firstOf_all loads
    rw [et] at z1
    rw [hl] at z2
    first
      | rw [e1, z1, z2] at led
      | (rw [show ((rows.length : Int) - 0).toNat = rows.length by omega, z1, z2] at led)
      | rw [z1, z2] at led
    exact q b dx r t l s H' ⟨B2, sB, nr.back s1, led⟩

@[irreducible] def sp_pick (_ : PySem.W.Frag) (_ : Ads) : Sp := fun vs H Q _ => ∃ (p : Addr) (rows : List (List Int)) (k : Nat), vs = [.ref p, .int k] ∧ RowsAt H p rows ∧ rows.length ≤ 1000 ∧ k ≤ rows.length ∧ (∀ a, a < rows.length → k < (rows.getD a []).length) ∧
  ((∀ j, k ≤ j → j < rows.length → matOf rows j k = 0) → Q .non H) ∧ (∀ j : Nat, k ≤ j → j < rows.length → matOf rows j k ≠ 0 → Q (.int j) H)
theorem len_pick {K : PySem.W.Frag} {G : Ads} {vs H Q E} (h : sp_pick K G vs H Q E) : vs.length = 2 := by
  unfold sp_pick at h
  obtain ⟨_, _, _, rfl, _⟩ := h
  rfl
theorem c_pick {K : PySem.W.Frag} {G : Ads} {H : Hp} {Q : VK} {E : XK} {p : Addr} {rows : List (List Int)} {k : Nat} (R : RowsAt H p rows) (hn : rows.length ≤ 1000) (hk : k ≤ rows.length) (hl : ∀ a, a < rows.length → k < (rows.getD a []).length)
    (q1 : (∀ j, k ≤ j → j < rows.length → matOf rows j k = 0) → Q .non H) (q2 : ∀ j : Nat, k ≤ j → j < rows.length → matOf rows j k ≠ 0 → Q (.int j) H) : sp_pick K G [.ref p, .int k] H Q E := by
  unfold sp_pick
  exact ⟨p, rows, k, rfl, R, hn, hk, hl, q1, q2⟩
def t_pick (K : PySem.W.Frag) (G : Ads) (E : XK) : TS :=
  (tSeq (tFor (iRng2 (tCons (tVar 1) (tCons (tCB (mLen K) (tCons (tVar 0) tNil)) tNil))) (gName 2)
    (tIfS (tTest (tOp rNe (tOp (rIxL K) (tOp (rIxL K) (tVar 0) (tVar 2)) (tVar 1)) (tC (.int 0))))
    (tRet (tVar 2))
    tNext))
    (tRet (tC .non)))
abbrev N_pick : List Str := ["rows", "k", "j"]

theorem pure_pick {K : PySem.W.Frag} {G : Ads} {vs H Q E} (h : sp_pick K G vs H Q E) : t_pick K G E { nx := fun _ H' => Q .non H', rt := Q } (start N_pick vs) H := by
  unfold sp_pick at h
  obtain ⟨p, rows, k, rfl, R, hn, hk, hl, q1, q2⟩ := h
  show t_pick K G E _ [some (.ref p), some (.int k), none] H
  unfold t_pick
  walk_at "g"
  refine loopR (fun i σ H' => (∃ v, σ = [some (.ref p), some (.int k), v]) ∧ H' = H ∧ ∀ j, k ≤ j → j < k + i → matOf rows j k = 0) ⟨⟨_, rfl⟩, rfl, fun j h1 h2 => by omega⟩ ?_ ?_
  · rintro i σ H' hi ⟨⟨v, rfl⟩, rfl, hall⟩
    have hi : k + i < rows.length := by omega
    have e0 : ((k : Int) + (i : Int)).toNat = k + i := by omega
    have hlr := hl (k + i) hi
    show tIfS _ _ _ _ [some (.ref p), some (.int k), some (.int (k + i))] H'
    walk_at "g"
    refine g_row R (by omega) (by omega) fun w hw => ?_
    rw [e0] at hw
    walk_at "g"
    try refine g_ixI hw (by omega) (by omega) ?_
    try walk_at "g"
    rw [show ((k : Int)).toNat = k by omega]
    refine ifN (fun h0 => ?_) (fun h0 => ?_)
    · walk_at "g"
      exact q2 (k + i) (by omega) hi h0
    · walk_at "g"
      refine ⟨⟨_, rfl⟩, rfl, fun j h1 h2 => ?_⟩
      by_cases e : j = k + i
      · subst e
        exact h0
      · exact hall j h1 (by omega)
  · rintro σ H' ⟨⟨v, rfl⟩, rfl, hall⟩
    walk_at "g"
    exact q1 fun j h1 h2 => hall j h1 (by omega)

@[irreducible] def sp_det (_ : PySem.W.Frag) (_ : Ads) : Sp := fun vs H Q _ => ∃ (p : Addr) (rows : List (List Int)), vs = [.ref p] ∧ RowsAt H p rows ∧ rows.length ≤ 12 ∧ (∀ a, a < rows.length → (rows.getD a []).length = rows.length) ∧
  (∀ a b, a < rows.length → b < rows.length → (matOf rows a b).natAbs ≤ 2 ^ 100) ∧ ∀ H', Same H H' → Q (.int (det rows.length (matOf rows))) H'
theorem len_det {K : PySem.W.Frag} {G : Ads} {vs H Q E} (h : sp_det K G vs H Q E) : vs.length = 1 := by
  unfold sp_det at h
  obtain ⟨_, _, rfl, _⟩ := h
  rfl
theorem c_det {K : PySem.W.Frag} {G : Ads} {H : Hp} {Q : VK} {E : XK} {p : Addr} {rows : List (List Int)} (R : RowsAt H p rows) (hn : rows.length ≤ 12) (hl : ∀ a, a < rows.length → (rows.getD a []).length = rows.length) (hb : ∀ a b, a < rows.length → b < rows.length → (matOf rows a b).natAbs ≤ 2 ^ 100)
    (q : ∀ H', Same H H' → Q (.int (det rows.length (matOf rows))) H') : sp_det K G [.ref p] H Q E := by
  unfold sp_det
  exact ⟨p, rows, rfl, R, hn, hl, hb, q⟩
/-- an item of an item of a list of rows in the ledger -/
theorem g_rowIx {K : PySem.W.Frag} {B H : Hp} {Q : VK} {D : Addr} {as : List Addr} {rows : List (List Int)} {i : Nat} (led : Led B (rowLed D as rows) H) (e : as.length = rows.length) (h1 : i < rows.length)
    (q : ∀ r, (rowLed D as rows)[i + 1]? = some (r, ilst (rows.getD i [])) → as[i]? = some r → Q (.ref r) H) : rIxL K (.ref D) (.int i) H Q := by
  have ha : i < as.length := by omega
  refine ⟨D, _, (i : Int), .ref as[i], rfl, rfl, SqL.of (led.get 0 rfl), at_of (j := i) (by omega) ?_, q _ ?_ (List.getElem?_eq_getElem ha)⟩
  · rw [List.getElem?_map, List.getElem?_eq_getElem ha]
    rfl
  · rw [List.getD_eq_getElem?_getD, List.getElem?_eq_getElem h1]
    exact zip_at (List.getElem?_eq_getElem ha) (List.getElem?_eq_getElem h1)
def t_det_c3_3 (K : PySem.W.Frag) (G : Ads) (E : XK) : TS :=
  (tSeq (tFor (iRng2 (tCons (tOp mAdd (tVar 4) (tC (.int 1))) (tCons (tCB (mLen K) (tCons (tVar 1) tNil)) tNil))) (gName 7)
    (tFor (iRng2 (tCons (tOp mAdd (tVar 4) (tC (.int 1))) (tCons (tCB (mLen K) (tCons (tVar 1) tNil)) tNil))) (gName 8)
    (tAsg (tOp mFdivX (tOp mSub (tOp mMulW (tOp (rIxL K) (tOp (rIxL K) (tVar 1) (tVar 7)) (tVar 8)) (tOp (rIxL K) (tOp (rIxL K) (tVar 1) (tVar 4)) (tVar 4))) (tOp mMulW (tOp (rIxL K) (tOp (rIxL K) (tVar 1) (tVar 7)) (tVar 4)) (tOp (rIxL K) (tOp (rIxL K) (tVar 1) (tVar 4)) (tVar 8)))) (tVar 3)) (gSub (tOp (rIxL K) (tVar 1) (tVar 7)) (tVar 8) rSetL))))
    (tAsg (tOp (rIxL K) (tOp (rIxL K) (tVar 1) (tVar 4)) (tVar 4)) (gName 3)))
def t_det (K : PySem.W.Frag) (G : Ads) (E : XK) : TS :=
  (tSeq (tAsg (tLc (iList K (tVar 0)) (gName 9) tYes (tCB (mList K) (tCons (tVar 9) tNil)) [9]) (gName 1))
    (tSeq (tAsg (tC (.int 1)) (gName 2))
    (tSeq (tAsg (tC (.int 1)) (gName 3))
    (tSeq (tFor (iRng1 (tCons (tCB (mLen K) (tCons (tVar 1) tNil)) tNil)) (gName 4)
    (tSeq (tAsg (tCall (sp_pick K G) [] E0 (tCons (tVar 1) (tCons (tVar 4) tNil))) (gName 5))
    (tSeq (tIfS (tTest (tOp rIsN (tVar 5) (tC .non)))
    (tRet (tC (.int 0)))
    tNext)
    (tSeq (tIfS (tTest (tOp rNe (tVar 5) (tVar 4)))
    (tSeq (tAsg (tOp (rIxL K) (tVar 1) (tVar 4)) (gName 6))
    (tSeq (tAsg (tOp (rIxL K) (tVar 1) (tVar 5)) (gSub (tVar 1) (tVar 4) rSetL))
    (tSeq (tAsg (tVar 6) (gSub (tVar 1) (tVar 5) rSetL))
    (tAsg (tUn mNeg (tVar 2)) (gName 2)))))
    tNext)
    (t_det_c3_3 K G E)))))
    (tRet (tOp mMulW (tVar 2) (tVar 3)))))))
abbrev N_det : List Str := ["square", "rows", "sign", "ahead", "k", "j", "kept", "i", "m", "row"]

theorem pure_det {K : PySem.W.Frag} {G : Ads} {vs H Q E} (h : sp_det K G vs H Q E) : t_det K G E { nx := fun _ H' => Q .non H', rt := Q } (start N_det vs) H := by
  unfold sp_det at h
  obtain ⟨p, rows, rfl, R, hn, hl, hb, q⟩ := h
  show t_det K G E _ [some (.ref p), none, none, none, none, none, none, none, none, none] H
  unfold t_det
  generalize hM : matOf rows = M0 at hb q
  generalize hN : rows.length = n at hn hl hb q
  walk_at "g"
  refine lcCopyL R (by omega) (fun _ => rfl) (fun _ => rfl) fun D as0 H0 e0 led0 => ?_
  have z0 : Bst n 0 rows M0 M0 1 1 := by
    rw [← hM]
    exact Bst.start hN hl (by rw [hM]; exact hb)
  walk_at "g"
  try refine g_lenR (led0.rowAt e0) ?_
  try walk_at "g"
  rw [show ((List.map V.ref as0).length : Int) = (n : Int) by rw [List.length_map, e0, hN]]
  refine g_rng1 (by omega) (by omega) ?_
  rw [show ((n : Int)).toNat = n by omega]
  refine loopR (fun k σ H' => ∃ (as : List Addr) (rs : List (List Int)) (A : Mat) (sg ah : Int) (v4 v5 v6 v7 v8 : Option V), σ = [some (.ref p), some (.ref D), some (.int sg), some (.int ah), v4, v5, v6, v7, v8, none] ∧ as.length = rs.length ∧ Bst n k rs A M0 sg ah ∧ Led H (rowLed D as rs) H')
    ⟨as0, rows, M0, 1, 1, _, _, _, _, _, rfl, e0, z0, led0⟩ ?_ ?_
  · rintro k σ H1 hk ⟨as, rs, A, sg, ah, v4, v5, v6, v7, v8, rfl, el, st, led⟩
    show tSeq _ _ _ [some (.ref p), some (.ref D), some (.int sg), some (.int ah), some (.int (0 + k)), v5, v6, v7, v8, none] H1
    rw [Int.zero_add]
    have rl := st.len
    walk_at "g"
    refine c_pick (led.rowAt el) (by omega) (by omega) (fun a ha => by rw [st.lens a (by omega)]; exact hk) (fun hz => ?_) (fun j kj hj hne => ?_)
    · walk_at "g"
      have := st.none hk fun j h1 h2 => hz j h1 (by omega)
      have q1 := q H1 led.same
      rw [this] at q1
      exact q1
    walk_at "g"
    -- behind the exchange
    have next : ∀ (H2 : Hp) (as : List Addr) (rs : List (List Int)) (A : Mat) (sg : Int) (v6 : Option V), as.length = rs.length → Bst n k rs A M0 sg ah → matOf rs k k ≠ 0 → Led H (rowLed D as rs) H2 →
        t_det_c3_3 K G E { nx := fun σ H' => ∃ (as : List Addr) (rs : List (List Int)) (A : Mat) (sg ah : Int) (v4 v5 v6 v7 v8 : Option V), σ = [some (.ref p), some (.ref D), some (.int sg), some (.int ah), v4, v5, v6, v7, v8, none] ∧ as.length = rs.length ∧ Bst n (k + 1) rs A M0 sg ah ∧ Led H (rowLed D as rs) H', rt := Q }
          [some (.ref p), some (.ref D), some (.int sg), some (.int ah), some (.int k), some (.int j), v6, v7, v8, none] H2 := by
      intro H2 as rs A sg v6 el st h0 led
      have rl := st.len
      have hh := st.head hk
      unfold t_det_c3_3
      walk_at "g"
      try refine g_lenR (led.rowAt el) ?_
      try walk_at "g"
      rw [show ((List.map V.ref as).length : Int) = (n : Int) by rw [List.length_map, el, rl]]
      refine g_rng2 (by omega) (by omega) (by omega) (by omega) ?_
      refine loopR (fun i σ H3 => ∃ (v7 v8 : Option V) (R : List (List Int)), σ = [some (.ref p), some (.ref D), some (.int sg), some (.int ah), some (.int k), some (.int j), v6, v7, v8, none] ∧ as.length = R.length ∧ Mid n k (k + 1 + i) (k + 1) rs R A ∧ Led H (rowLed D as R) H3)
        ⟨_, _, rs, rfl, el, Mid.start rl st.lens, led⟩ ?_ ?_
      · rintro i σ H3 hi ⟨v7, v8, R, rfl, el3, md, led3⟩
        have hi : k + 1 + i < n := by omega
        have rl3 := md.len
        show tFor _ _ _ _ [some (.ref p), some (.ref D), some (.int sg), some (.int ah), some (.int k), some (.int j), v6, some (.int (k + 1 + i)), v8, none] H3
        rw [show (k : Int) + 1 + i = ((k + 1 + i : Nat) : Int) by omega]
        walk_at "g"
        try refine g_lenR (led3.rowAt el3) ?_
        try walk_at "g"
        rw [show ((List.map V.ref as).length : Int) = (n : Int) by rw [List.length_map, el3, rl3]]
        refine g_rng2 (by omega) (by omega) (by omega) (by omega) ?_
        refine loopR (fun m σ H3 => ∃ (v8 : Option V) (R : List (List Int)), σ = [some (.ref p), some (.ref D), some (.int sg), some (.int ah), some (.int k), some (.int j), v6, some (.int (k + 1 + i : Nat)), v8, none] ∧ as.length = R.length ∧ Mid n k (k + 1 + i) (k + 1 + m) rs R A ∧ Led H (rowLed D as R) H3)
          ⟨_, R, rfl, el3, md, led3⟩ ?_ ?_
        · rintro m σ H4 hm ⟨v8, R, rfl, el4, md, led4⟩
          have hm : k + 1 + m < n := by omega
          have rl4 := md.len
          show tAsg _ _ _ [some (.ref p), some (.ref D), some (.int sg), some (.int ah), some (.int k), some (.int j), v6, some (.int (k + 1 + i : Nat)), some (.int (k + 1 + m)), none] H4
          rw [show (k : Int) + 1 + m = ((k + 1 + m : Nat) : Int) by omega]
          generalize hI : k + 1 + i = I at *
          generalize hJ : k + 1 + m = J at *
          have same : ∀ a b, a < n → b < n → ¬ (k < a ∧ k < b ∧ (a < I ∨ (a = I ∧ b < J))) → matOf R a b = matOf rs a b := fun a b ha hb c => by rw [md.ent a b ha hb, if_neg c]
          have xIJ := same I J (by omega) (by omega) (by omega)
          have xkk := same k k (by omega) (by omega) (by omega)
          have xIk := same I k (by omega) (by omega) (by omega)
          have xkJ := same k J (by omega) (by omega) (by omega)
          have b1 : (matOf R I J).natAbs < 2 ^ 1230 := by rw [xIJ, st.ent I J (by omega) (by omega) (by omega) (by omega)]; exact sub_lt hn st.bnd (by omega) (by omega)
          have b2 : (matOf R k k).natAbs < 2 ^ 1230 := by rw [xkk, st.ent k k (by omega) (by omega) (by omega) (by omega)]; exact sub_lt hn st.bnd (by omega) (by omega)
          have b3 : (matOf R I k).natAbs < 2 ^ 1230 := by rw [xIk, st.ent I k (by omega) (by omega) (by omega) (by omega)]; exact sub_lt hn st.bnd (by omega) (by omega)
          have b4 : (matOf R k J).natAbs < 2 ^ 1230 := by rw [xkJ, st.ent k J (by omega) (by omega) (by omega) (by omega)]; exact sub_lt hn st.bnd (by omega) (by omega)
          have b5 : ah.natAbs < 2 ^ 1230 := by rw [st.ah]; exact lead_lt hn st.bnd (by omega)
          have res : (matOf R I J * matOf R k k - matOf R I k * matOf R k J).fdiv ah = sub A (k + 1) (I - k - 1) (J - k - 1) := by
            rw [xIJ, xkk, xIk, xkJ]
            exact st.step (by omega) (by omega) (by omega) (by omega)
          have lI := md.lens I (by omega)
          have lk := md.lens k (by omega)
          have put := md.put (x := sub A (k + 1) (I - k - 1) (J - k - 1)) (by omega) (by omega) (by omega) (by omega) rfl
          walk_at "g"
          refine g_rowIx led4 el4 (by omega) fun r1 p1 _ => ?_
          walk_at "g"
          refine g_ixI (led4.sq _ p1) (by omega) (by omega) ?_
          walk_at "g"
          refine g_rowIx led4 el4 (by omega) fun r2 p2 _ => ?_
          walk_at "g"
          refine g_ixI (led4.sq _ p2) (by omega) (by omega) ?_
          refine g_mulW b1 b2 (by decide) (by decide) (by decide) ?_
          walk_at "g"
          refine g_rowIx led4 el4 (by omega) fun r3 p3 _ => ?_
          walk_at "g"
          refine g_ixI (led4.sq _ p3) (by omega) (by omega) ?_
          walk_at "g"
          refine g_rowIx led4 el4 (by omega) fun r4 p4 _ => ?_
          walk_at "g"
          refine g_ixI (led4.sq _ p4) (by omega) (by omega) ?_
          refine g_mulW b3 b4 (by decide) (by decide) (by decide) ?_
          walk_at "g"
          refine g_fdivX st.ahead0 b5 (by decide) (by decide) ?_
          refine g_sub ?_
          walk_at "g"
          refine g_rowIx led4 el4 (by omega) fun r5 p5 e5 => ?_
          walk_at "g"
          refine g_setL led4 _ p5 (by omega) (by omega) fun H5 led5 => ?_
          rw [rowLed_set e5 el4] at led5
          have res2 := res
          unfold matOf at res2
          rw [show ((J : Int)).toNat = J by omega, show ((k : Int)).toNat = k by omega, res2] at led5
          refine ⟨_, _, rfl, by rw [List.length_set]; exact el4, ?_, led5⟩
          rw [show k + 1 + (m + 1) = J + 1 by omega]
          exact put
        · rintro σ H4 ⟨v8, R, rfl, el4, md, led4⟩
          refine ⟨_, _, R, rfl, el4, ?_, led4⟩
          rw [show k + 1 + ((n : Int) - ((k : Int) + 1)).toNat = n by omega] at md
          exact md.row
      · rintro σ H3 ⟨v7, v8, R, rfl, el3, md, led3⟩
        rw [show k + 1 + ((n : Int) - ((k : Int) + 1)).toNat = n by omega] at md
        have rl3 := md.len
        have lk := md.lens k hk
        have nx := md.done st hk h0
        have xkk : matOf R k k = matOf rs k k := by rw [md.ent k k hk hk, if_neg (by omega)]
        walk_at "g"
        refine g_rowIx led3 el3 (by omega) fun r1 p1 _ => ?_
        walk_at "g"
        refine g_ixI (led3.sq _ p1) (by omega) (by omega) ?_
        walk_at "g"
        refine ⟨as, R, A, sg, _, _, _, _, _, _, rfl, el3, ?_, led3⟩
        show Bst n (k + 1) R A M0 sg (matOf R k k)
        rw [xkk]
        exact nx
    refine ifN (fun hjk => ?_) (fun hjk => ?_)
    · walk_at "g"
      refine g_rowIx led el (by omega) fun r1 p1 e1 => ?_
      walk_at "g"
      refine g_rowIx led el (by omega) fun r2 p2 e2 => ?_
      walk_at "g"
      refine g_setV led 0 rfl (by omega) (by rw [List.length_map]; omega) fun H2 led2 => ?_
      walk_at "g"
      refine g_setV led2 0 rfl (by omega) (by rw [List.length_set, List.length_map]; omega) fun H3 led3 => ?_
      have x1 : as.getD k 0 = r1 := by rw [List.getD_eq_getElem?_getD, e1]; rfl
      have x2 : as.getD j 0 = r2 := by rw [List.getD_eq_getElem?_getD, e2]; rfl
      have eq : ((as.map V.ref).set ((k : Int)).toNat (V.ref r2)).set ((j : Int)).toNat (V.ref r1) = (swapL as k j 0).map V.ref := by
        unfold swapL
        rw [x1, x2, List.map_set, List.map_set, show ((k : Int)).toNat = k by omega, show ((j : Int)).toNat = j by omega]
      have led4 : Led H ((D, HO.lst ((swapL as k j 0).map V.ref)) :: (rowLed D as rs).tail) H3 := by
        rw [← eq]
        exact led3
      have led5 := led_swap led4 el (by omega) (by omega) (show j ≠ k by omega)
      have h0 : matOf (swapL rs k j []) k k ≠ 0 := by
        unfold matOf
        rw [swapL_get (by omega) (by omega), if_neg (by omega), if_pos rfl]
        exact hne
      walk_at "g"
      exact next H3 (swapL as k j 0) (swapL rs k j []) (swapR A k j) (-sg) _ (by rw [swapL_len, swapL_len]; exact el) (st.swap hk kj (by omega) (by omega)) h0 led5
    · walk_at "g"
      have : j = k := by omega
      subst this
      exact next H1 as rs A sg _ el st hne led
  · rintro σ H1 ⟨as, rs, A, sg, ah, v4, v5, v6, v7, v8, rfl, el, st, led⟩
    walk_at "g"
    have hs : sg.natAbs < 2 ^ 1 := by rcases st.sg with z | z <;> rw [z] <;> decide
    have ha : ah.natAbs < 2 ^ 1230 := by rw [st.ah]; exact lead_lt hn st.bnd (Nat.le_refl n)
    refine g_mulW hs ha (by decide) (by decide) (by decide) ?_
    have q1 := q H1 led.same
    rw [st.fin] at q1
    exact q1

@[irreducible] def sp_grid (_ : PySem.W.Frag) (G : Ads) : Sp := fun vs H Q _ => ∃ (b dx r t l s : Addr) (tk : Int) (rows : List (List Int)), vs = [.ref b] ∧ H b = some (.ins G.Board dx (bf r t l s tk)) ∧ RowsAt H r rows ∧ OkRows rows ∧
  ∀ (D : Addr) (as : List Addr) (H' : Hp), as.length = rows.length → Led H (rowLed D as (gridOf rows)) H' → Q (.ref D) H'
theorem len_grid {K : PySem.W.Frag} {G : Ads} {vs H Q E} (h : sp_grid K G vs H Q E) : vs.length = 1 := by
  unfold sp_grid at h
  obtain ⟨_, _, _, _, _, _, _, _, rfl, _⟩ := h
  rfl
theorem c_grid {K : PySem.W.Frag} {G : Ads} {H : Hp} {Q : VK} {E : XK} {b dx r t l s : Addr} {tk : Int} {rows : List (List Int)} (e : H b = some (.ins G.Board dx (bf r t l s tk))) (R : RowsAt H r rows) (ok : OkRows rows)
    (q : ∀ (D : Addr) (as : List Addr) (H' : Hp), as.length = rows.length → Led H (rowLed D as (gridOf rows)) H' → Q (.ref D) H') : sp_grid K G [.ref b] H Q E := by
  unfold sp_grid
  exact ⟨b, dx, r, t, l, s, tk, rows, rfl, e, R, ok, q⟩
def t_grid_c1_2 (K : PySem.W.Frag) (G : Ads) (E : XK) : TS :=
  (tDrop (tBM K "list" rAppend (tVar 1) (tCons (tVar 3) tNil)))
def t_grid (K : PySem.W.Frag) (G : Ads) (E : XK) : TS :=
  (tSeq (tAsg (tLst tNil) (gName 1))
    (tSeq (tFor (iRng1 (tCons (tCB (mLen K) (tCons (tFld K (tVar 0) "rows") tNil)) tNil)) (gName 2)
    (tSeq (tAsg (tLc (iList K (tFld K (tVar 0) "rows")) (gName 5) tYes (tC (.int 0)) [5]) (gName 3))
    (tSeq (tFor (iList K (tOp (rIxL K) (tFld K (tVar 0) "rows") (tVar 2))) (gName 4)
    (tIfS (tTest (tOp rNe (tVar 4) (tVar 2)))
    (tSeq (tAsg (tOp mAdd (tOp (rIxL K) (tVar 3) (tVar 2)) (tC (.int 1))) (gSub (tVar 3) (tVar 2) rSetL))
    (tIfS (tTest (tOp rNe (tVar 4) (tC (.int (-1)))))
    (tAsg (tOp mSub (tOp (rIxL K) (tVar 3) (tVar 4)) (tC (.int 1))) (gSub (tVar 3) (tVar 4) rSetL))
    tNext))
    tNext))
    (t_grid_c1_2 K G E))))
    (tRet (tVar 1))))
abbrev N_grid : List Str := ["board", "found", "at", "row", "gone", "other"]

theorem pure_grid {K : PySem.W.Frag} {G : Ads} {vs H Q E} (bd : BdOk K G) (h : sp_grid K G vs H Q E) : t_grid K G E { nx := fun _ H' => Q .non H', rt := Q } (start N_grid vs) H := by
  unfold sp_grid at h
  obtain ⟨b, dx, r, t, l, s, tk, rows, rfl, e, R, ok, q⟩ := h
  show t_grid K G E _ [some (.ref b), none, none, none, none, none] H
  unfold t_grid
  have hn := ok.2.1
  walk_at "g"
  refine ⟨by show 0 ≤ sizeLine; decide, fun D nD => ?_⟩
  have led0 : Led H (rowLed D [] []) (upd H D (.lst [])) := (Led.nil H).alloc nD _
  walk_at "g"
  refine g_bfld (led0.same _ _ e) bd.cl bd.n_rows bf_rows ?_
  walk_at "g"
  refine loopR (fun k σ H' => (∃ v2 v3 v4, σ = [some (.ref b), some (.ref D), v2, v3, v4, none]) ∧ ∃ (as : List Addr) (sq : List (List Int)), as.length = sq.length ∧ sq.length = k ∧ (∀ j : Nat, j < k → sq.getD j [] = gridRow rows.length j (rows.getD j [])) ∧ Led H (rowLed D as sq) H')
    ⟨⟨_, _, _, rfl⟩, [], [], rfl, rfl, fun j hj => by omega, led0⟩ ?_ ?_
  · rintro k σ H' hk ⟨⟨v2, v3, v4, rfl⟩, as, sq, e1, e2, hrow, led⟩
    have hk : k < rows.length := by simpa using hk
    have e0 : (0 + (k : Int)).toNat = k := by omega
    show tSeq _ _ _ [some (.ref b), some (.ref D), some (.int (0 + k)), v3, v4, none] H'
    walk_at "g"
    refine g_bfld (led.same _ _ e) bd.cl bd.n_rows bf_rows ?_
    walk_at "g"
    try refine g_lstwR (led.ra R) ?_
    try walk_at "g"
    refine lcRows0 (led.ra R) (by omega) (fun _ => rfl) fun N H1 nN s1 e1' => ?_
    have l1 : Led H' [(N, ilst (List.replicate rows.length 0))] H1 := (Led.nil H').add s1 nN e1'
    have R1 := (led.ra R).mono s1
    walk_at "g"
    refine g_bfld (s1 _ _ (led.same _ _ e)) bd.cl bd.n_rows bf_rows ?_
    walk_at "g"
    refine g_rowB s1 (led.ra R) (by omega) (by omega) fun w hwB => ?_
    rw [e0] at hwB
    have hw := s1.seq hwB
    walk_at "g"
    refine loopI (ns := rows.getD k []) (fun j σ H2 => (∃ v4, σ = [some (.ref b), some (.ref D), some (.int (0 + k)), some (.ref N), v4, none]) ∧ Led H' [(N, ilst (gridRow rows.length k ((rows.getD k []).take j)))] H2)
      ⟨⟨_, rfl⟩, by rw [List.take_zero, gridRow_nil]; exact l1⟩ (fun j σ H2 _ ⟨_, l2⟩ => l2.base hwB) ?_ ?_
    · rintro j σ H2 hj ⟨⟨v4, rfl⟩, l2⟩
      have tk1 : (rows.getD k []).take (j + 1) = (rows.getD k []).take j ++ [(rows.getD k []).getD j 0] := take_getD hj
      have hr := ok.exit hk hj
      generalize (rows.getD k []).getD j 0 = g at tk1 hr
      generalize (rows.getD k []).take j = xs at tk1 l2
      show tIfS _ _ _ _ [some (.ref b), some (.ref D), some (.int (0 + k)), some (.ref N), some (.int g), none] H2
      rw [tk1]
      walk_at "g"
      refine ifN (fun hg => ?_) (fun hg => ?_)
      · walk_at "g"
        refine g_ixI (l2.sq 0 rfl) (by omega) (by rw [gridRow_len]; omega) ?_
        walk_at "g"
        rw [e0]
        refine g_setL l2 0 rfl (by omega) (by rw [gridRow_len]; omega) fun H3 l3 => ?_
        rw [e0] at l3
        walk_at "g"
        refine ifN (fun hg2 => ?_) (fun hg2 => ?_)
        · walk_at "g"
          refine g_ixI (l3.sq 0 rfl) (by omega) (by rw [List.length_set, gridRow_len]; omega) ?_
          walk_at "g"
          refine g_setL l3 0 rfl (by omega) (by rw [List.length_set, gridRow_len]; omega) fun H4 l4 => ?_
          refine ⟨⟨_, rfl⟩, ?_⟩
          rw [gridRow_site hk (by omega) (by omega) (by omega)]
          exact l4
        · walk_at "g"
          refine ⟨⟨_, rfl⟩, ?_⟩
          rw [hg2, gridRow_pit hk]
          exact l3
      · walk_at "g"
        refine ⟨⟨_, rfl⟩, ?_⟩
        rw [gridRow_self (by omega)]
        exact l2
    · rintro σ H2 ⟨⟨v4, rfl⟩, l2⟩
      rw [List.take_length] at l2
      have l3 := led.add l2.same nN (l2.get 0 rfl)
      unfold t_grid_c1_2
      walk_at "g"
      try refine g_ty (SqL.of (l3.get 0 rfl)) ?_
      walk_at "g"
      refine g_app l3 0 rfl (by rw [List.length_map]; omega) fun H3 l4 => ?_
      rw [rowLed_push e1] at l4
      refine ⟨⟨_, _, _, rfl⟩, as ++ [N], sq ++ [gridRow rows.length k (rows.getD k [])], by simp [e1], by simp [e2], fun j hj => ?_, l4⟩
      by_cases z : j < sq.length
      · rw [List.getD_eq_getElem?_getD, List.getElem?_append_left z, ← List.getD_eq_getElem?_getD]
        exact hrow j (by omega)
      · have : j = sq.length := by omega
        subst this
        rw [List.getD_eq_getElem?_getD, List.getElem?_append_right (Nat.le_refl _), Nat.sub_self, e2]
        rfl
  · rintro σ H' ⟨⟨v2, v3, v4, rfl⟩, as, sq, e1, e2, hrow, led⟩
    have e2 : sq.length = rows.length := by omega
    walk_at "g"
    have : sq = gridOf rows := rows_ext (by rw [gridOf_len]; omega) fun j hj => by rw [gridOf_get (by omega)]; exact hrow j (by omega)
    rw [this] at led
    exact q D as H' (by omega) led

@[irreducible] def sp_trees (_ : PySem.W.Frag) (G : Ads) : Sp := fun vs H Q _ => ∃ (b dx r t l s : Addr) (tk : Int) (rows : List (List Int)), vs = [.ref b] ∧ H b = some (.ins G.Board dx (bf r t l s tk)) ∧ RowsAt H r rows ∧ OkRows rows ∧
  ∀ H', Same H H' → Q (.int (det rows.length (gridM rows))) H'
theorem len_trees {K : PySem.W.Frag} {G : Ads} {vs H Q E} (h : sp_trees K G vs H Q E) : vs.length = 1 := by
  unfold sp_trees at h
  obtain ⟨_, _, _, _, _, _, _, _, rfl, _⟩ := h
  rfl
theorem c_trees {K : PySem.W.Frag} {G : Ads} {H : Hp} {Q : VK} {E : XK} {b dx r t l s : Addr} {tk : Int} {rows : List (List Int)} (e : H b = some (.ins G.Board dx (bf r t l s tk))) (R : RowsAt H r rows) (ok : OkRows rows)
    (q : ∀ H', Same H H' → Q (.int (det rows.length (gridM rows))) H') : sp_trees K G [.ref b] H Q E := by
  unfold sp_trees
  exact ⟨b, dx, r, t, l, s, tk, rows, rfl, e, R, ok, q⟩
theorem grid_sq2 {rows : List (List Int)} {a : Nat} (ha : a < (gridOf rows).length) : ((gridOf rows).getD a []).length = (gridOf rows).length := by
  rw [gridOf_len] at ha ⊢
  rw [gridOf_get ha, gridRow_len]
def t_trees (K : PySem.W.Frag) (G : Ads) (E : XK) : TS :=
  (tRet (tCall (sp_det K G) [] E0 (tCons (tCall (sp_grid K G) [] E0 (tCons (tVar 0) tNil)) tNil)))
abbrev N_trees : List Str := ["board"]

theorem pure_trees {K : PySem.W.Frag} {G : Ads} {vs H Q E} (bd : BdOk K G) (h : sp_trees K G vs H Q E) : t_trees K G E { nx := fun _ H' => Q .non H', rt := Q } (start N_trees vs) H := by
  unfold sp_trees at h
  obtain ⟨b, dx, r, t, l, s, tk, rows, rfl, e, R, ok, q⟩ := h
  show t_trees K G E _ [some (.ref b)] H
  unfold t_trees
  have hn := ok.2.1
  have gl := gridOf_len rows
  walk_at "g"
  refine c_grid e R ok fun D as H2 el led2 => ?_
  have el2 : as.length = (gridOf rows).length := by omega
  walk_at "g"
  refine c_det (led2.rowAt el2) (by omega) (fun x hx => grid_sq2 hx) (fun x y hx hy => gridM_abs ok (by omega) (by omega)) fun H3 s3 => ?_
  rw [gl]
  exact q H3 (led2.same.trans s3)

@[irreducible] def sp_whole (_ : PySem.W.Frag) (_ : Ads) : Sp := fun vs H Q _ => ∃ i : Int, vs = [.int i] ∧ Q (.bl true) H
theorem len_whole {K : PySem.W.Frag} {G : Ads} {vs H Q E} (h : sp_whole K G vs H Q E) : vs.length = 1 := by
  unfold sp_whole at h
  obtain ⟨_, rfl, _⟩ := h
  rfl
theorem c_whole {K : PySem.W.Frag} {G : Ads} {H : Hp} {Q : VK} {E : XK} {i : Int} (q : Q (.bl true) H) : sp_whole K G [.int i] H Q E := by
  unfold sp_whole
  exact ⟨i, rfl, q⟩
def t_whole (K : PySem.W.Frag) (G : Ads) (E : XK) : TS :=
  (tRet (tAndV (tCB (rIsi K) (tCons (tVar 0) (tCons (tC (.ty "int")) tNil))) (tNotV (tCB (rIsi K) (tCons (tVar 0) (tCons (tC (.ty "bool")) tNil))))))
abbrev N_whole : List Str := ["found"]

theorem pure_whole {K : PySem.W.Frag} {G : Ads} {vs H Q E} (h : sp_whole K G vs H Q E) : t_whole K G E { nx := fun _ H' => Q .non H', rt := Q } (start N_whole vs) H := by
  unfold sp_whole at h
  obtain ⟨i, rfl, q⟩ := h
  show t_whole K G E _ [some (.int i)] H
  unfold t_whole
  walk_at "g"
  exact q

@[irreducible] def sp_row (K : PySem.W.Frag) (_ : Ads) : Sp := fun vs H Q _ => ∃ (p q : Addr) (ns : List Int), vs = [.ref p, .ref q] ∧ H p = some (ilst ns) ∧ SqL K H q (ns.map V.int) ∧ ns.length ≤ 100000 ∧ Q (.bl true) H
theorem len_row {K : PySem.W.Frag} {G : Ads} {vs H Q E} (h : sp_row K G vs H Q E) : vs.length = 2 := by
  unfold sp_row at h
  obtain ⟨_, _, _, rfl, _⟩ := h
  rfl
theorem c_row {K : PySem.W.Frag} {G : Ads} {H : Hp} {Q : VK} {E : XK} {p q : Addr} {ns : List Int} (e : H p = some (ilst ns)) (s : SqL K H q (ns.map V.int)) (hl : ns.length ≤ 100000) (h : Q (.bl true) H) : sp_row K G [.ref p, .ref q] H Q E := by
  unfold sp_row
  exact ⟨p, q, ns, rfl, e, s, hl, h⟩
def t_row (K : PySem.W.Frag) (G : Ads) (E : XK) : TS :=
  (tSeq (tIfS (tOr (tNot (tB (tCB (rIsi K) (tCons (tVar 0) (tCons (tC (.ty "list")) tNil))))) (tTest (tOp rNe (tCB (mLen K) (tCons (tVar 0) tNil)) (tCB (mLen K) (tCons (tVar 1) tNil)))))
    (tRet (tC (.bl false)))
    tNext)
    (tSeq (tFor (iRng1 (tCons (tCB (mLen K) (tCons (tVar 1) tNil)) tNil)) (gName 2)
    (tIfS (tOr (tNot (tB (tCall (sp_whole K G) [] E0 (tCons (tOp (rIxL K) (tVar 0) (tVar 2)) tNil)))) (tTest (tOp rNe (tOp (rIxL K) (tVar 0) (tVar 2)) (tOp (rIxL K) (tVar 1) (tVar 2)))))
    (tRet (tC (.bl false)))
    tNext))
    (tRet (tC (.bl true)))))
abbrev N_row : List Str := ["found", "due", "k"]

theorem pure_row {K : PySem.W.Frag} {G : Ads} {vs H Q E} (h : sp_row K G vs H Q E) : t_row K G E { nx := fun _ H' => Q .non H', rt := Q } (start N_row vs) H := by
  unfold sp_row at h
  obtain ⟨p, q, ns, rfl, e, s, hl, h⟩ := h
  show t_row K G E _ [some (.ref p), some (.ref q), none] H
  unfold t_row
  have s1 : SqL K H p (ns.map V.int) := SqL.of e
  walk_at "g"
  try refine isi_ll e ?_
  walk_at "g"
  try refine g_lenI s1 ?_
  try refine g_lenI s ?_
  walk_at "g"
  try refine ifNf rfl ?_
  walk_at "g"
  try refine g_lenI s ?_
  walk_at "g"
  refine loopR (fun k σ H' => (∃ v, σ = [some (.ref p), some (.ref q), v]) ∧ H' = H) ⟨⟨_, rfl⟩, rfl⟩ ?_ ?_
  · rintro k σ H' hk ⟨⟨v, rfl⟩, rfl⟩
    have hk : k < ns.length := by simpa using hk
    show tIfS _ _ _ _ [some (.ref p), some (.ref q), some (.int (0 + k))] H'
    walk_at "g"
    try refine g_ixI s1 (by omega) (by omega) ?_
    refine c_whole ?_
    walk_at "g"
    try refine g_ixI s1 (by omega) (by omega) ?_
    try refine g_ixI s (by omega) (by omega) ?_
    walk_at "g"
    try refine ifNf rfl ?_
    walk_at "g"
    exact ⟨⟨_, rfl⟩, rfl⟩
  · rintro σ H' ⟨⟨v, rfl⟩, rfl⟩
    walk_at "g"
    exact h

@[irreducible] def sp_stands (K : PySem.W.Frag) (G : Ads) : Sp := fun vs H Q _ => ∃ (b dx r t l s p tp lp cp : Addr) (rows : List (List Int)) (turns loads steps : List Int) (taken : Int), vs = [.ref b, .ref p, .ref tp, .ref lp, .ref cp] ∧
  BdAt G.Board H b dx r t l s rows turns loads steps taken ∧ RowsAt H p rows ∧ SqL K H tp (turns.map V.int) ∧ SqL K H lp ((loads ++ [taken]).map V.int) ∧ SqL K H cp (steps.map V.int) ∧ rows.length ≤ 1000 ∧ (∀ k : Nat, k < rows.length → (rows.getD k []).length ≤ 1000) ∧
  turns.length ≤ 1000 ∧ loads.length ≤ 1000 ∧ steps.length ≤ 1000 ∧ ∀ H', Same H H' → Q (.bl true) H'
theorem len_stands {K : PySem.W.Frag} {G : Ads} {vs H Q E} (h : sp_stands K G vs H Q E) : vs.length = 5 := by
  unfold sp_stands at h
  obtain ⟨_, _, _, _, _, _, _, _, _, _, _, _, _, _, _, rfl, _⟩ := h
  rfl
theorem c_stands {K : PySem.W.Frag} {G : Ads} {H : Hp} {Q : VK} {E : XK} {b dx r t l s p tp lp cp : Addr} {rows : List (List Int)} {S : Sta} (X : BdAt G.Board H b dx r t l s rows S.turns S.loads S.steps S.taken) (R : RowsAt H p rows) (h1 : SqL K H tp (S.turns.map V.int))
    (h2 : SqL K H lp ((S.loads ++ [S.taken]).map V.int)) (h3 : SqL K H cp (S.steps.map V.int)) (ok : OkRows rows) (sk : SOk rows S) (q : ∀ H', Same H H' → Q (.bl true) H') : sp_stands K G [.ref b, .ref p, .ref tp, .ref lp, .ref cp] H Q E := by
  unfold sp_stands
  have hn := ok.2.1
  exact ⟨b, dx, r, t, l, s, p, tp, lp, cp, rows, S.turns, S.loads, S.steps, S.taken, rfl, X, R, h1, h2, h3, by omega, fun k hk => by have := (ok.row hk).2.1; omega, by rw [sk.tk.1]; omega, by rw [sk.ll]; omega, by rw [sk.ls]; omega, q⟩
def t_stands (K : PySem.W.Frag) (G : Ads) (E : XK) : TS :=
  (tSeq (tIfS (tOr (tNot (tB (tCB (rIsi K) (tCons (tFld K (tVar 0) "rows") (tCons (tC (.ty "list")) tNil))))) (tTest (tOp rNe (tCB (mLen K) (tCons (tFld K (tVar 0) "rows") tNil)) (tCB (mLen K) (tCons (tVar 1) tNil)))))
    (tRet (tC (.bl false)))
    tNext)
    (tSeq (tFor (iRng1 (tCons (tCB (mLen K) (tCons (tVar 1) tNil)) tNil)) (gName 5)
    (tIfS (tNot (tB (tCall (sp_row K G) [] E0 (tCons (tOp (rIxL K) (tFld K (tVar 0) "rows") (tVar 5)) (tCons (tOp (rIxL K) (tVar 1) (tVar 5)) tNil)))))
    (tRet (tC (.bl false)))
    tNext))
    (tSeq (tIfS (tOr (tNot (tB (tCall (sp_row K G) [] E0 (tCons (tFld K (tVar 0) "turns") (tCons (tVar 2) tNil))))) (tNot (tB (tCall (sp_row K G) [] E0 (tCons (tFld K (tVar 0) "loads") (tCons (tSl (rSlL K) (tVar 3) tNoPart (tPart (tUn mNeg (tC (.int 1))))) tNil))))))
    (tRet (tC (.bl false)))
    tNext)
    (tSeq (tIfS (tOr (tNot (tB (tCall (sp_whole K G) [] E0 (tCons (tFld K (tVar 0) "taken") tNil)))) (tTest (tOp rNe (tFld K (tVar 0) "taken") (tOp (rIxL K) (tVar 3) (tUn mNeg (tC (.int 1)))))))
    (tRet (tC (.bl false)))
    tNext)
    (tRet (tCall (sp_row K G) [] E0 (tCons (tFld K (tVar 0) "steps") (tCons (tVar 4) tNil))))))))
abbrev N_stands : List Str := ["board", "rows", "turns", "lying", "counts", "k"]

theorem pure_stands {K : PySem.W.Frag} {G : Ads} {vs H Q E} (bd : BdOk K G) (h : sp_stands K G vs H Q E) : t_stands K G E { nx := fun _ H' => Q .non H', rt := Q } (start N_stands vs) H := by
  unfold sp_stands at h
  obtain ⟨b, dx, r, t, l, s, p, tp, lp, cp, rows, turns, loads, steps, taken, rfl, X, R, h1, h2, h3, hn, hn2, l1, l2, l3, q⟩ := h
  show t_stands K G E _ [some (.ref b), some (.ref p), some (.ref tp), some (.ref lp), some (.ref cp), none] H
  unfold t_stands
  have hr : RowsAt H r rows := X.rws
  walk_at "g"
  refine g_bfld X.ins bd.cl bd.n_rows bf_rows ?_
  obtain ⟨as, ea, _⟩ := X.rws
  walk_at "g"
  try refine isi_ll ea ?_
  walk_at "g"
  refine g_bfld X.ins bd.cl bd.n_rows bf_rows ?_
  walk_at "g"
  try refine g_lenR hr ?_
  try refine g_lenR R ?_
  walk_at "g"
  try refine ifNf rfl ?_
  walk_at "g"
  try refine g_lenR R ?_
  walk_at "g"
  refine loopR (fun k σ H' => (∃ v, σ = [some (.ref b), some (.ref p), some (.ref tp), some (.ref lp), some (.ref cp), v]) ∧ H' = H) ⟨⟨_, rfl⟩, rfl⟩ ?_ ?_
  · rintro k σ H' hk ⟨⟨v, rfl⟩, rfl⟩
    have hk : k < rows.length := by simpa using hk
    show tIfS _ _ _ _ [some (.ref b), some (.ref p), some (.ref tp), some (.ref lp), some (.ref cp), some (.int (0 + k))] H'
    walk_at "g"
    refine g_bfld X.ins bd.cl bd.n_rows bf_rows ?_
    walk_at "g"
    refine g_rowL hr (by omega) (by omega) fun r1 e1 => ?_
    walk_at "g"
    refine g_row R (by omega) (by omega) fun r2 e2 => ?_
    walk_at "g"
    refine c_row e1 e2 (by have := hn2 (0 + (k : Int)).toNat (by omega); omega) ?_
    walk_at "g"
    exact ⟨⟨_, rfl⟩, rfl⟩
  · rintro σ H' ⟨⟨v, rfl⟩, rfl⟩
    walk_at "g"
    refine g_bfld X.ins bd.cl bd.n_turns bf_turns ?_
    walk_at "g"
    refine c_row X.tns h1 (by omega) ?_
    walk_at "g"
    refine g_bfld X.ins bd.cl bd.n_loads bf_loads ?_
    walk_at "g"
    refine g_slInit h2 fun c nc => ?_
    have sm := same_upd (H := H') (o := ilst loads) nc
    have X' := X.mono sm
    walk_at "g"
    refine c_row X'.lds (SqL.of upd_same) (by omega) ?_
    walk_at "g"
    refine g_bfld X'.ins bd.cl bd.n_taken bf_taken ?_
    walk_at "g"
    refine c_whole ?_
    walk_at "g"
    refine g_bfld X'.ins bd.cl bd.n_taken bf_taken ?_
    walk_at "g"
    try refine g_ixM (sm.seq h2) (by decide) (by rw [List.length_append]; simp; omega) ?_
    have e : (loads ++ [taken]).getD (((loads ++ [taken]).length : Int) + -1).toNat 0 = taken := by
      have e0 : (((loads ++ [taken]).length : Int) + -1).toNat = loads.length := by
        rw [List.length_append]
        show (((loads.length + 1 : Nat) : Int) + -1).toNat = loads.length
        omega
      rw [e0, List.getD_eq_getElem?_getD, List.getElem?_append_right (Nat.le_refl _), Nat.sub_self]
      rfl
    rw [e]
    walk_at "g"
    try refine ifNf rfl ?_
    walk_at "g"
    refine g_bfld X'.ins bd.cl bd.n_steps bf_steps ?_
    walk_at "g"
    refine c_row X'.sts (sm.seq h3) (by omega) ?_
    walk_at "g"
    exact q _ sm

def t_law_k17_c10 (K : PySem.W.Frag) (G : Ads) (E : XK) : TS :=
  (tSeq (tFor (iRng1 (tCons (tC (.int 2)) tNil)) (gName 10)
    (tSeq (tAsg (tCall (sp_trees K G) [] E0 (tCons (tVar 9) tNil)) (gName 11))
    (tSeq (tIfS (tOr (tNot (tB (tCall (sp_whole K G) [] E0 (tCons (tVar 11) tNil)))) (tOr (tTest (tOp rNe (tVar 11) (tVar 3))) (tTest (tOp rNe (tCall (sp_trees K G) [] E0 (tCons (tMake G.Board (sp_Board_init K G) [] E0 (tCons (tLst (tCons (tLst (tCons (tUn mNeg (tC (.int 1))) (tCons (tUn mNeg (tC (.int 1))) (tCons (tC (.int 0)) tNil)))) tNil)) tNil)) tNil)) (tC (.int 2))))))
    (tRet (tC (.bl false)))
    tNext)
    (tSeq (tAsg (tCall (sp_drawn K G) [] E0 (tCons (tVar 0) (tCons (tOp mAdd (tC (.int 600)) (tVar 10)) (tCons (tCB (mLen K) (tCons (tVar 2) tNil)) tNil)))) (gName 12))
    (tSeq (tDrop (tMeth G.Board "load" (sp_Board_load K G) [] E0 (tVar 9) (tCons (tVar 12) (tCons (tOp mAdd (tC (.int 1)) (tVar 10)) tNil))))
    (tAsg (tOp mAdd (tOp mAdd (tOp (rIxL K) (tVar 8) (tVar 12)) (tC (.int 1))) (tVar 10)) (gSub (tVar 8) (tVar 12) rSetL)))))))
    (tRet (tCall (sp_stands K G) [] E0 (tCons (tVar 9) (tCons (tVar 2) (tCons (tVar 6) (tCons (tVar 8) (tCons (tVar 7) tNil))))))))
def t_law_k17_c6 (K : PySem.W.Frag) (G : Ads) (E : XK) : TS :=
  (tSeq (tAsg (tCall (sp_turns_by K G) [] E0 (tCons (tVar 0) (tCons (tVar 2) tNil))) (gName 6))
    (tSeq (tAsg (tLc (iList K (tVar 2)) (gName 5) tYes (tC (.int 0)) [5]) (gName 7))
    (tSeq (tAsg (tOp rCat (tLc (iList K (tVar 2)) (gName 5) tYes (tC (.int 0)) [5]) (tLst (tCons (tC (.int 0)) tNil))) (gName 8))
    (tSeq (tAsg (tCall (sp_board K G) [] E0 (tCons (tVar 2) (tCons (tVar 6) (tCons (tVar 7) tNil)))) (gName 9))
    (t_law_k17_c10 K G E)))))
def t_law_k17_c4 (K : PySem.W.Frag) (G : Ads) (E : XK) : TS :=
  (tSeq (tAsg (tC (.int 1)) (gName 3))
    (tSeq (tIfS (tTest (tOp rEq (tVar 1) (tC (.int 3))))
    (tSeq (tAsg (tCall (sp_odometer K G) [] E0 (tCons (tVar 2) tNil)) (gName 3))
    (tSeq (tAsg (tCall (sp_down_by_k17 K G) [] E0 (tCons (tVar 0) tNil)) (gName 4))
    (tSeq (tFor (iList K (tVar 4)) (gName 5)
    (tAsg (tOp mMul (tVar 3) (tCB (mLen K) (tCons (tVar 5) tNil))) (gName 3)))
    (tAsg (tOp rCat (tVar 4) (tLc (iList K (tVar 2)) (gName 5) tYes (tLc (iList K (tVar 5)) (gName 13) tYes (tCall (sp_moved K G) [] E0 (tCons (tVar 13) (tCons (tCB (mLen K) (tCons (tVar 4) tNil)) tNil))) [13]) [5])) (gName 2)))))
    (tAsg (tCall (sp_odometer K G) [] E0 (tCons (tVar 2) tNil)) (gName 3)))
    (t_law_k17_c6 K G E)))
def t_law_k17_c3 (K : PySem.W.Frag) (G : Ads) (E : XK) : TS :=
  (tSeq (tIfS (tTest (tOp rEq (tVar 1) (tC (.int 2))))
    (tAsg (tCall (sp_two_by K G) [] E0 (tCons (tVar 0) tNil)) (gName 2))
    tNext)
    (t_law_k17_c4 K G E))
def t_law_k17 (K : PySem.W.Frag) (G : Ads) (E : XK) : TS :=
  (tSeq (tAsg (tCall (sp_drawn K G) [] E0 (tCons (tVar 0) (tCons (tC (.int 500)) (tCons (tC (.int 4)) tNil)))) (gName 1))
    (tSeq (tAsg (tCall (sp_any_by K G) [] E0 (tCons (tVar 0) (tCons (tC (.int 4)) (tCons (tC (.int 3)) tNil)))) (gName 2))
    (tSeq (tIfS (tTest (tOp rEq (tVar 1) (tC (.int 1))))
    (tAsg (tCall (sp_small_by K G) [] E0 (tCons (tVar 0) (tCons (tC (.int 4)) tNil))) (gName 2))
    tNext)
    (t_law_k17_c3 K G E))))
abbrev N_law_k17 : List Str := ["script", "way", "rows", "due", "low", "row", "turns", "noughts", "lying", "board", "lap", "found", "at", "gone"]

theorem pure_law_k17 {K : PySem.W.Frag} {G : Ads} {vs H Q E} (h : spLaw K vs H Q E) : t_law_k17 K G E { nx := fun _ H' => Q .non H', rt := Q } (start N_law_k17 vs) H := by
  obtain ⟨a, ns, rfl, hS, _, q⟩ := h
  show t_law_k17 K G E _ [some (.ref a), none, none, none, none, none, none, none, none, none, none, none, none, none] H
  -- from the turns on
  have fin : ∀ (way : Int) (p : Addr) (rows : List (List Int)) (v4 v5 : Option V) (H1 : Hp), OkRows rows → RowsAt H1 p rows → Same H H1 →
      t_law_k17_c6 K G E { nx := fun _ H' => Q .non H', rt := Q } [some (.ref a), some (.int way), some (.ref p), some (.int (det rows.length (gridM rows))), v4, v5, none, none, none, none, none, none, none, none] H1 := by
    intro way p rows v4 v5 H1 ok R1 s1
    have hn := ok.2.1
    have hn0 := ok.1
    have S1 := s1.seq hS
    unfold t_law_k17_c6
    generalize hd : det rows.length (gridM rows) = due
    walk_at "g"
    refine c_turns_by S1 R1 ok fun tp turns H2 tk nD s2 e2 => ?_
    have led2 : Led H1 [(tp, ilst turns)] H2 := (Led.nil H1).add s2 nD e2
    walk_at "g"
    refine lcRows0 (led2.ra R1) (by omega) (fun _ => rfl) fun z H3 nz s3 e3 => ?_
    generalize hz : List.replicate rows.length (0 : Int) = zs at e3
    have hzs : zs.length = rows.length := by rw [← hz]; simp
    have zs0 : ∀ x, x ∈ zs → 0 ≤ x := by rw [← hz]; exact fun x hx => by rw [(List.mem_replicate.mp hx).2]; decide
    have zsum : zs.sum = 0 := by rw [← hz]; simp
    have led3 := led2.add s3 nz e3
    walk_at "g"
    refine lcRows0 (led3.ra R1) (by omega) (fun _ => rfl) fun y H5 ny s5 e5 => ?_
    rw [hz] at e5
    have led5 := led3.add s5 ny e5
    walk_at "g"
    refine ⟨by show 1 ≤ sizeLine; decide, fun w nw => ?_⟩
    have led6 := led5.alloc nw (.lst [V.int 0])
    refine g_catI (ns := zs) (ms := [0]) (led6.get 2 rfl) (led6.get 3 rfl) (by rw [hzs]; show rows.length + 1 ≤ 100000; omega) fun ly nly => ?_
    have led7 := led6.alloc nly (ilst (zs ++ [0]))
    walk_at "g"
    refine c_board (led7.ra R1) ok tk (led7.sq 0 rfl) (led7.sq 1 rfl) hzs zs0 (by omega) fun b dx r t l s H4 N4 => ?_
    rw [hz] at N4
    obtain ⟨B, sB, hr, led4⟩ := led7.board N4
    have RB := R1.mono sB
    have SB := sB.seq S1
    have led4 : Led B [(tp, ilst turns), (z, ilst zs), (y, ilst zs), (w, .lst [V.int 0]), (ly, ilst (zs ++ [0])), (b, .ins G.Board dx (bf r t l s 0)), (t, ilst turns), (l, ilst zs), (s, ilst zs)] H4 := led4
    unfold t_law_k17_c10
    walk_at "g"
    refine loopR (fun k σ H' => (∃ v10 v11 v12, σ = [some (.ref a), some (.int way), some (.ref p), some (.int due), v4, v5, some (.ref tp), some (.ref z), some (.ref ly), some (.ref b), v10, v11, v12, none]) ∧ ∃ ls : List Int, ls.length = rows.length ∧ ls.sum ≤ 10 * k ∧
      Led B [(tp, ilst turns), (z, ilst zs), (y, ilst zs), (w, .lst [V.int 0]), (ly, ilst (ls ++ [0])), (b, .ins G.Board dx (bf r t l s 0)), (t, ilst turns), (l, ilst ls), (s, ilst zs)] H') ⟨⟨_, _, _, rfl⟩, zs, hzs, by omega, led4⟩ ?_ ?_
    · rintro k σ H' hk ⟨⟨v10, v11, v12, rfl⟩, ls, hls, hsum, led⟩
      have hk : k < 2 := by simpa using hk
      show tSeq _ _ _ [some (.ref a), some (.int way), some (.ref p), some (.int due), v4, v5, some (.ref tp), some (.ref z), some (.ref ly), some (.ref b), some (.int (0 + k)), v11, v12, none] H'
      walk_at "g"
      refine c_trees (led.get 5 rfl) (led.ra hr) ok fun H10 s10 => ?_
      rw [hd]
      walk_at "g"
      refine c_whole ?_
      walk_at "g"
      try refine ifNf rfl ?_
      walk_at "g"
      refine ⟨by show 3 ≤ sizeLine; decide, fun m1 nm1 => ?_⟩
      walk_at "g"
      refine ⟨by show 1 ≤ sizeLine; decide, fun m2 nm2 => ?_⟩
      obtain ⟨sr, Rr⟩ := laidRow1 (row := [-1, -1, 0]) nm1 nm2
      walk_at "g"
      refine c_Board Rr (by decide) (fun row h => by rw [List.mem_singleton.mp h]; decide) (fun h => by simp at h) (fun _ _ h => absurd one_ok h) fun _ b2 dx2 r2 t2 l2 s2' H12 N12 => ?_
      walk_at "g"
      refine c_trees N12.at_.ins N12.at_.rws one_ok fun H13 s13 => ?_
      rw [one_det]
      walk_at "g"
      have led2 := led.ext (s10.trans (sr.trans (N12.same.trans s13)))
      have led2 : Led B [(tp, ilst turns), (z, ilst zs), (y, ilst zs), (w, .lst [V.int 0]), (ly, ilst (ls ++ [0])), (b, .ins G.Board dx (bf r t l s 0)), (t, ilst turns), (l, ilst ls), (s, ilst zs)] H13 := led2
      walk_at "g"
      try refine g_lenR (led2.ra RB) ?_
      try walk_at "g"
      refine c_drawn (led2.base SB) (by omega) (by omega) (by omega) fun at_ a0 a1 => ?_
      walk_at "g"
      refine g_self (led2.get 5 rfl) bm_load ?_
      walk_at "g"
      refine c_load led2 (i := 5) ⟨rfl, rfl, rfl, rfl, hr⟩ hls a0 a1 (by omega) fun H16 led3 => ?_
      have led3 : Led B [(tp, ilst turns), (z, ilst zs), (y, ilst zs), (w, .lst [V.int 0]), (ly, ilst (ls ++ [0])), (b, .ins G.Board dx (bf r t l s 0)), (t, ilst turns), (l, ilst (ls.set at_.toNat (ls.getD at_.toNat 0 + (1 + (0 + (k : Int)))))), (s, ilst zs)] H16 := led3
      have ll1 : (ls ++ [(0 : Int)]).length = rows.length + 1 := by rw [List.length_append, hls]; rfl
      walk_at "g"
      try refine g_ixI (led3.sq 4 rfl) a0 (by omega) ?_
      try walk_at "g"
      refine g_setL led3 4 rfl a0 (by omega) fun H17 led4 => ?_
      have eq1 : (ls ++ [(0 : Int)]).set at_.toNat ((ls ++ [(0 : Int)]).getD at_.toNat 0 + 1 + (0 + (k : Int))) = ls.set at_.toNat (ls.getD at_.toNat 0 + (1 + (0 + (k : Int)))) ++ [0] := by
        rw [List.set_append_left _ _ (by omega), List.getD_eq_getElem?_getD, List.getElem?_append_left (by omega), ← List.getD_eq_getElem?_getD, Int.add_assoc]
      rw [eq1] at led4
      refine ⟨⟨_, _, _, rfl⟩, _, by rw [List.length_set]; exact hls, ?_, led4⟩
      rw [sum_setD (by omega)]
      omega
    · rintro σ H' ⟨⟨v10, v11, v12, rfl⟩, ls, hls, hsum, led⟩
      walk_at "g"
      refine c_stands (S := ⟨turns, ls, zs, 0⟩) (led.bd (i := 5) ⟨rfl, rfl, rfl, rfl, hr⟩) (led.ra RB) (led.sq 0 rfl) (led.sq 4 rfl) (led.sq 1 rfl) ok ⟨tk, hls, hzs⟩ fun H14 s14 => ?_
      exact q H14
  -- from the rows on
  have mid : ∀ (way : Int) (p : Addr) (rows : List (List Int)) (H1 : Hp), OkRows rows → (way = 3 → rows.length ≤ 4) → RowsAt H1 p rows → Same H H1 →
      t_law_k17_c4 K G E { nx := fun _ H' => Q .non H', rt := Q } [some (.ref a), some (.int way), some (.ref p), none, none, none, none, none, none, none, none, none, none, none] H1 := by
    intro way p rows H1 ok h4 R1 s1
    have hn := ok.2.1
    have S1 := s1.seq hS
    unfold t_law_k17_c4
    walk_at "g"
    refine ifP (fun hw => ?_) (fun hw => ?_)
    · have h4 := h4 hw
      walk_at "g"
      refine c_odometer R1 ok fun H2 s2 => ?_
      have R2 := R1.mono s2
      walk_at "g"
      refine c_down_by_k17 (s2.seq S1) fun lp low H3 okl dn l5 l8 s3 n3 => ?_
      have RL := n3.at_
      have R3 := R2.mono s3
      walk_at "g"
      try refine g_lstwR RL ?_
      try walk_at "g"
      refine loopRows (fun k σ H' => (∃ v5, σ = [some (.ref a), some (.int way), some (.ref p), some (.int (det rows.length (gridM rows) * prodN k (lensN low))), some (.ref lp), v5, none, none, none, none, none, none, none, none]) ∧ H' = H3)
        ⟨⟨_, by show _ = [_, _, _, some (V.int (det rows.length (gridM rows) * 1)), _, _, _, _, _, _, _, _, _, _]; rw [Int.mul_one]; rfl⟩, rfl⟩ RL (fun k σ H' ⟨_, e⟩ => by rw [e]; exact Same.refl _) ?_ ?_
      · rintro k r σ H' hk ⟨⟨v5, rfl⟩, rfl⟩ hr
        have lr := (okl.row hk).2.1
        have ep : det rows.length (gridM rows) * prodN (k + 1) (lensN low) = det rows.length (gridM rows) * prodN k (lensN low) * ((low.getD k []).length : Int) := by
          rw [prodN_back, ← Int.mul_assoc]
          rfl
        rw [ep]
        show tAsg _ _ _ [some (.ref a), some (.int way), some (.ref p), some (.int (det rows.length (gridM rows) * prodN k (lensN low))), some (.ref lp), some (.ref r), none, none, none, none, none, none, none, none] H'
        generalize det rows.length (gridM rows) * prodN k (lensN low) = acc
        walk_at "g"
        try refine g_lenI hr ?_
        try walk_at "g"
        try refine g_mulR (by omega) ?_
        try walk_at "g"
        exact ⟨⟨_, rfl⟩, rfl⟩
      · rintro σ H' ⟨⟨v5, rfl⟩, rfl⟩
        rw [Int.mul_comm, ← onto_det (rows := rows) okl dn]
        walk_at "g"
        try refine g_lstwR R3 ?_
        try walk_at "g"
        refine g_lcLift R3 RL (by omega) (fun i hi => by have := (ok.row hi).2.1; omega) (fun _ => rfl) (fun _ _ => rfl) (fun _ => rfl) (fun _ _ => rfl) (fun _ _ => rfl) fun D H5 s5 n5 => ?_
        walk_at "g"
        refine g_catRows (RL.mono s5) n5.at_ (by rw [liftRows_len]; omega) fun c H6 s6 R6 => ?_
        walk_at "g"
        exact fin way c _ _ _ H6 (onto_ok okl ok (by omega)) R6 (s1.trans (s2.trans (s3.trans (s5.trans s6))))
    · walk_at "g"
      refine c_odometer R1 ok fun H2 s2 => ?_
      walk_at "g"
      exact fin way p rows _ _ H2 ok (R1.mono s2) (s1.trans s2)
  have two : ∀ (way : Int) (p : Addr) (rows : List (List Int)) (H1 : Hp), OkRows rows → rows.length ≤ 4 → RowsAt H1 p rows → Same H H1 →
      t_law_k17_c3 K G E { nx := fun _ H' => Q .non H', rt := Q } [some (.ref a), some (.int way), some (.ref p), none, none, none, none, none, none, none, none, none, none, none] H1 := by
    intro way p rows H1 ok h4 R1 s1
    unfold t_law_k17_c3
    walk_at "g"
    refine ifP (fun hw => ?_) (fun hw => ?_)
    · walk_at "g"
      refine c_two_by (s1.seq hS) fun p2 rows2 H2 ok2 s2 n2 => ?_
      walk_at "g"
      exact mid way p2 rows2 H2 ok2 (fun h => by omega) n2.at_ (s1.trans s2)
    · walk_at "g"
      exact mid way p rows H1 ok (fun _ => h4) R1 s1
  unfold t_law_k17
  walk_at "g"
  refine c_drawn hS (by decide) (by decide) (by decide) fun way w0 w1 => ?_
  walk_at "g"
  refine c_any_by hS (by decide) (by decide) (by decide) (by decide) fun p rows H1 ok h4 _ s1 n1 => ?_
  walk_at "g"
  refine ifP (fun hw => ?_) (fun hw => ?_)
  · walk_at "g"
    refine c_small_by (s1.seq hS) (by decide) (by decide) fun p2 rows2 H2 sh h42 _ s2 n2 => ?_
    walk_at "g"
    exact two way p2 rows2 H2 sh.ok (by omega) n2.at_ (s1.trans s2)
  · walk_at "g"
    exact two way p rows H1 ok (by omega) n1.at_ s1

/-! ### the text by places -/
def top (i : Nat) : Stmt := PySem.Challenge.pw_marblerun_k17_whole_trees_counted.main.body.getD i (.Pass ⟨0, 0, 0, 0⟩)
abbrev s_drawn : Stmt := (top 20)
theorem sc_drawn : FnScope N_drawn ["script", "k", "many"] (defScope s_drawn) := ⟨rfl, rfl, rfl, by decide +kernel, rfl, by decide +kernel, by decide +kernel⟩
abbrev s_any_by : Stmt := (top 21)
theorem sc_any_by : FnScope N_any_by ["script", "most", "wide"] (defScope s_any_by) := ⟨rfl, rfl, rfl, by decide +kernel, rfl, by decide +kernel, by decide +kernel⟩
abbrev s_other : Stmt := (top 22)
theorem sc_other : FnScope N_other ["gone", "many"] (defScope s_other) := ⟨rfl, rfl, rfl, by decide +kernel, rfl, by decide +kernel, by decide +kernel⟩
abbrev s_small_by : Stmt := (top 23)
theorem sc_small_by : FnScope N_small_by ["script", "most"] (defScope s_small_by) := ⟨rfl, rfl, rfl, by decide +kernel, rfl, by decide +kernel, by decide +kernel⟩
abbrev s_two_by : Stmt := (top 31)
theorem sc_two_by : FnScope N_two_by ["script"] (defScope s_two_by) := ⟨rfl, rfl, rfl, by decide +kernel, rfl, by decide +kernel, by decide +kernel⟩
abbrev s_treed : Stmt := (top 29)
theorem sc_treed : FnScope N_treed ["rows", "turns"] (defScope s_treed) := ⟨rfl, rfl, rfl, by decide +kernel, rfl, by decide +kernel, by decide +kernel⟩
abbrev s_odometer : Stmt := (top 30)
theorem sc_odometer : FnScope N_odometer ["rows"] (defScope s_odometer) := ⟨rfl, rfl, rfl, by decide +kernel, rfl, by decide +kernel, by decide +kernel⟩
abbrev s_down_by_k17 : Stmt := (top 32)
theorem sc_down_by_k17 : FnScope N_down_by_k17 ["script"] (defScope s_down_by_k17) := ⟨rfl, rfl, rfl, by decide +kernel, rfl, by decide +kernel, by decide +kernel⟩
abbrev s_moved : Stmt := (top 33)
theorem sc_moved : FnScope N_moved ["gone", "many"] (defScope s_moved) := ⟨rfl, rfl, rfl, by decide +kernel, rfl, by decide +kernel, by decide +kernel⟩
abbrev s_turns_by : Stmt := (top 24)
theorem sc_turns_by : FnScope N_turns_by ["script", "rows"] (defScope s_turns_by) := ⟨rfl, rfl, rfl, by decide +kernel, rfl, by decide +kernel, by decide +kernel⟩
abbrev s_checked : Stmt := (top 12)
theorem sc_checked : FnScope N_checked ["rows"] (defScope s_checked) := ⟨rfl, rfl, rfl, by decide +kernel, rfl, by decide +kernel, by decide +kernel⟩
abbrev s_Board_init : Stmt := (inClass (top 13) 0)
theorem sc_Board_init : FnScope N_Board_init ["self", "rows"] (defScope s_Board_init) := ⟨rfl, rfl, rfl, by decide +kernel, rfl, by decide +kernel, by decide +kernel⟩
abbrev s_Board_has_site : Stmt := (inClass (top 13) 1)
theorem sc_Board_has_site : FnScope N_Board_has_site ["self", "at"] (defScope s_Board_has_site) := ⟨rfl, rfl, rfl, by decide +kernel, rfl, by decide +kernel, by decide +kernel⟩
abbrev s_Board_turn_to : Stmt := (inClass (top 13) 2)
theorem sc_Board_turn_to : FnScope N_Board_turn_to ["self", "at", "place"] (defScope s_Board_turn_to) := ⟨rfl, rfl, rfl, by decide +kernel, rfl, by decide +kernel, by decide +kernel⟩
abbrev s_Board_load : Stmt := (inClass (top 13) 3)
theorem sc_Board_load : FnScope N_Board_load ["self", "at", "many"] (defScope s_Board_load) := ⟨rfl, rfl, rfl, by decide +kernel, rfl, by decide +kernel, by decide +kernel⟩
abbrev s_board : Stmt := (top 25)
theorem sc_board : FnScope N_board ["rows", "turns", "loads"] (defScope s_board) := ⟨rfl, rfl, rfl, by decide +kernel, rfl, by decide +kernel, by decide +kernel⟩
abbrev s_pick : Stmt := (top 16)
theorem sc_pick : FnScope N_pick ["rows", "k"] (defScope s_pick) := ⟨rfl, rfl, rfl, by decide +kernel, rfl, by decide +kernel, by decide +kernel⟩
abbrev s_det : Stmt := (top 17)
theorem sc_det : FnScope N_det ["square"] (defScope s_det) := ⟨rfl, rfl, rfl, by decide +kernel, rfl, by decide +kernel, by decide +kernel⟩
abbrev s_grid : Stmt := (top 15)
theorem sc_grid : FnScope N_grid ["board"] (defScope s_grid) := ⟨rfl, rfl, rfl, by decide +kernel, rfl, by decide +kernel, by decide +kernel⟩
abbrev s_trees : Stmt := (top 18)
theorem sc_trees : FnScope N_trees ["board"] (defScope s_trees) := ⟨rfl, rfl, rfl, by decide +kernel, rfl, by decide +kernel, by decide +kernel⟩
abbrev s_whole : Stmt := (top 26)
theorem sc_whole : FnScope N_whole ["found"] (defScope s_whole) := ⟨rfl, rfl, rfl, by decide +kernel, rfl, by decide +kernel, by decide +kernel⟩
abbrev s_row : Stmt := (top 27)
theorem sc_row : FnScope N_row ["found", "due"] (defScope s_row) := ⟨rfl, rfl, rfl, by decide +kernel, rfl, by decide +kernel, by decide +kernel⟩
abbrev s_stands : Stmt := (top 28)
theorem sc_stands : FnScope N_stands ["board", "rows", "turns", "lying", "counts"] (defScope s_stands) := ⟨rfl, rfl, rfl, by decide +kernel, rfl, by decide +kernel, by decide +kernel⟩
abbrev s_law_k17 : Stmt := (top 34)
theorem sc_law_k17 : FnScope N_law_k17 ["script"] (defScope s_law_k17) := ⟨rfl, rfl, rfl, by decide +kernel, rfl, by decide +kernel, by decide +kernel⟩
/-- what the top has written -/
structure Txt (K : PySem.W.Frag) (mg : Str → Option Value) where
  G : Ads
  f_drawn : Addr
  d_drawn : FuncData
  F_drawn : Fun K "_law_drawn" "_law_drawn" s_drawn f_drawn d_drawn
  b_drawn : Binds K d_drawn ["script", "k", "many"] []
  g_drawn : mg "_law_drawn" = some (.ref f_drawn)
  f_any_by : Addr
  d_any_by : FuncData
  F_any_by : Fun K "_law_any_by" "_law_any_by" s_any_by f_any_by d_any_by
  b_any_by : Binds K d_any_by ["script", "most", "wide"] []
  g_any_by : mg "_law_any_by" = some (.ref f_any_by)
  f_other : Addr
  d_other : FuncData
  F_other : Fun K "_law_other" "_law_other" s_other f_other d_other
  b_other : Binds K d_other ["gone", "many"] []
  g_other : mg "_law_other" = some (.ref f_other)
  f_small_by : Addr
  d_small_by : FuncData
  F_small_by : Fun K "_law_small_by" "_law_small_by" s_small_by f_small_by d_small_by
  b_small_by : Binds K d_small_by ["script", "most"] []
  g_small_by : mg "_law_small_by" = some (.ref f_small_by)
  f_two_by : Addr
  d_two_by : FuncData
  F_two_by : Fun K "_law_two_by" "_law_two_by" s_two_by f_two_by d_two_by
  b_two_by : Binds K d_two_by ["script"] []
  g_two_by : mg "_law_two_by" = some (.ref f_two_by)
  f_treed : Addr
  d_treed : FuncData
  F_treed : Fun K "_law_treed" "_law_treed" s_treed f_treed d_treed
  b_treed : Binds K d_treed ["rows", "turns"] []
  g_treed : mg "_law_treed" = some (.ref f_treed)
  f_odometer : Addr
  d_odometer : FuncData
  F_odometer : Fun K "_law_odometer" "_law_odometer" s_odometer f_odometer d_odometer
  b_odometer : Binds K d_odometer ["rows"] []
  g_odometer : mg "_law_odometer" = some (.ref f_odometer)
  f_down_by_k17 : Addr
  d_down_by_k17 : FuncData
  F_down_by_k17 : Fun K "_law_down_by" "_law_down_by" s_down_by_k17 f_down_by_k17 d_down_by_k17
  b_down_by_k17 : Binds K d_down_by_k17 ["script"] []
  g_down_by_k17 : mg "_law_down_by" = some (.ref f_down_by_k17)
  f_moved : Addr
  d_moved : FuncData
  F_moved : Fun K "_law_moved" "_law_moved" s_moved f_moved d_moved
  b_moved : Binds K d_moved ["gone", "many"] []
  g_moved : mg "_law_moved" = some (.ref f_moved)
  f_turns_by : Addr
  d_turns_by : FuncData
  F_turns_by : Fun K "_law_turns_by" "_law_turns_by" s_turns_by f_turns_by d_turns_by
  b_turns_by : Binds K d_turns_by ["script", "rows"] []
  g_turns_by : mg "_law_turns_by" = some (.ref f_turns_by)
  f_checked : Addr
  d_checked : FuncData
  F_checked : Fun K "checked" "checked" s_checked f_checked d_checked
  b_checked : Binds K d_checked ["rows"] []
  g_checked : mg "checked" = some (.ref f_checked)
  f_Board_init : Addr
  d_Board_init : FuncData
  F_Board_init : Fun K "__init__" "Board.__init__" s_Board_init f_Board_init d_Board_init
  b_Board_init : Binds K d_Board_init ["self", "rows"] []
  mk_Board : Mk K G.Board f_Board_init
  f_Board_has_site : Addr
  d_Board_has_site : FuncData
  F_Board_has_site : Fun K "has_site" "Board.has_site" s_Board_has_site f_Board_has_site d_Board_has_site
  b_Board_has_site : Binds K d_Board_has_site ["self", "at"] []
  m_Board_has_site : Meth K G.Board "has_site" f_Board_has_site
  f_Board_turn_to : Addr
  d_Board_turn_to : FuncData
  F_Board_turn_to : Fun K "turn_to" "Board.turn_to" s_Board_turn_to f_Board_turn_to d_Board_turn_to
  b_Board_turn_to : Binds K d_Board_turn_to ["self", "at", "place"] []
  m_Board_turn_to : Meth K G.Board "turn_to" f_Board_turn_to
  f_Board_load : Addr
  d_Board_load : FuncData
  F_Board_load : Fun K "load" "Board.load" s_Board_load f_Board_load d_Board_load
  b_Board_load : Binds K d_Board_load ["self", "at", "many"] []
  m_Board_load : Meth K G.Board "load" f_Board_load
  f_board : Addr
  d_board : FuncData
  F_board : Fun K "_law_board" "_law_board" s_board f_board d_board
  b_board : Binds K d_board ["rows", "turns", "loads"] []
  g_board : mg "_law_board" = some (.ref f_board)
  f_pick : Addr
  d_pick : FuncData
  F_pick : Fun K "pick" "pick" s_pick f_pick d_pick
  b_pick : Binds K d_pick ["rows", "k"] []
  g_pick : mg "pick" = some (.ref f_pick)
  f_det : Addr
  d_det : FuncData
  F_det : Fun K "det" "det" s_det f_det d_det
  b_det : Binds K d_det ["square"] []
  g_det : mg "det" = some (.ref f_det)
  f_grid : Addr
  d_grid : FuncData
  F_grid : Fun K "grid" "grid" s_grid f_grid d_grid
  b_grid : Binds K d_grid ["board"] []
  g_grid : mg "grid" = some (.ref f_grid)
  f_trees : Addr
  d_trees : FuncData
  F_trees : Fun K "trees" "trees" s_trees f_trees d_trees
  b_trees : Binds K d_trees ["board"] []
  g_trees : mg "trees" = some (.ref f_trees)
  f_whole : Addr
  d_whole : FuncData
  F_whole : Fun K "_law_whole" "_law_whole" s_whole f_whole d_whole
  b_whole : Binds K d_whole ["found"] []
  g_whole : mg "_law_whole" = some (.ref f_whole)
  f_row : Addr
  d_row : FuncData
  F_row : Fun K "_law_row" "_law_row" s_row f_row d_row
  b_row : Binds K d_row ["found", "due"] []
  g_row : mg "_law_row" = some (.ref f_row)
  f_stands : Addr
  d_stands : FuncData
  F_stands : Fun K "_law_stands" "_law_stands" s_stands f_stands d_stands
  b_stands : Binds K d_stands ["board", "rows", "turns", "lying", "counts"] []
  g_stands : mg "_law_stands" = some (.ref f_stands)
  f_law_k17 : Addr
  d_law_k17 : FuncData
  F_law_k17 : Fun K "law" "law" s_law_k17 f_law_k17 d_law_k17
  b_law_k17 : Binds K d_law_k17 ["script"] []
  cl_Board : Cls K G.Board
  bd : BdOk K G
  g_Board : mg "Board" = some (.ref G.Board)
  tk_MOST_SITES : Tok
  g_MOST_SITES : mg "MOST_SITES" = some (.int 12 tk_MOST_SITES)
  tk_MOST_EXITS : Tok
  g_MOST_EXITS : mg "MOST_EXITS" = some (.int 8 tk_MOST_EXITS)
  tk_PIT : Tok
  g_PIT : mg "PIT" = some (.int (-1) tk_PIT)
  tk_MOST_MARBLES : Tok
  g_MOST_MARBLES : mg "MOST_MARBLES" = some (.int 400 tk_MOST_MARBLES)
  n_len : mg "len" = none
  n_range : mg "range" = none
  n_reversed : mg "reversed" = none
  n_list : mg "list" = none
  n_sum : mg "sum" = none
  n_int : mg "int" = none
  n_isinstance : mg "isinstance" = none
  n_bool : mg "bool" = none
  g_NoSite : mg "NoSite" = some (.ref G.NoSite)
  x_NoSite : PySem.W.excIn K G.NoSite [.type "ValueError", .type "Exception", .type "BaseException", .type "object"] "ValueError.__new__" = true
  k_NoSite : PySem.W.keepIn K (.ref G.NoSite) = true
  b_NoSite : PySem.W.subIn K (.ref G.NoSite) (.type "BaseException") = some true
  t_NoSite : PySem.W.typeIn K (.ref G.NoSite) = some (.type "type")
  g_NoExit : mg "NoExit" = some (.ref G.NoExit)
  x_NoExit : PySem.W.excIn K G.NoExit [.type "ValueError", .type "Exception", .type "BaseException", .type "object"] "ValueError.__new__" = true
  k_NoExit : PySem.W.keepIn K (.ref G.NoExit) = true
  b_NoExit : PySem.W.subIn K (.ref G.NoExit) (.type "BaseException") = some true
  t_NoExit : PySem.W.typeIn K (.ref G.NoExit) = some (.type "type")
  g_NoPlace : mg "NoPlace" = some (.ref G.NoPlace)
  x_NoPlace : PySem.W.excIn K G.NoPlace [.type "ValueError", .type "Exception", .type "BaseException", .type "object"] "ValueError.__new__" = true
  k_NoPlace : PySem.W.keepIn K (.ref G.NoPlace) = true
  b_NoPlace : PySem.W.subIn K (.ref G.NoPlace) (.type "BaseException") = some true
  t_NoPlace : PySem.W.typeIn K (.ref G.NoPlace) = some (.type "type")
  g_TooMany : mg "TooMany" = some (.ref G.TooMany)
  x_TooMany : PySem.W.excIn K G.TooMany [.type "ValueError", .type "Exception", .type "BaseException", .type "object"] "ValueError.__new__" = true
  k_TooMany : PySem.W.keepIn K (.ref G.TooMany) = true
  b_TooMany : PySem.W.subIn K (.ref G.TooMany) (.type "BaseException") = some true
  t_TooMany : PySem.W.typeIn K (.ref G.TooMany) = some (.type "type")
section
variable {P : Program} {w : World} {K : PySem.W.Frag} {mg : Str → Option Value} {base : Heap}
theorem ok_drawn (T : Txt K mg) : FnOk P w K mg base CX0 1 T.f_drawn T.d_drawn ["script", "k", "many"] (sp_drawn K T.G) := by
  refine T.F_drawn.ok sc_drawn (fun vs H Q E h => len_drawn h) (fun cdv A outer s H vs Q E hr h => ⟨t_drawn K T.G E, ?_, pure_drawn  h⟩)
  exact (pss_cons (ps_set (i := 3) sc_drawn.nd rfl (by first | exact Or.inl rfl | exact Or.inr rfl) pe_int)
    (pss_cons (ps_if (pt_cmpR op_gt (pe_callB call_len_seq (by rfl) T.n_len bt_len (pa_cons (pv 0) pa_nil)) pe_int (nomark _))
    (pss_one (ps_set (i := 3) sc_drawn.nd rfl (by first | exact Or.inl rfl | exact Or.inr rfl) (pe_ix ix_list (pv 0) (pe_op op_mod (pv 1) (pe_callB call_len_seq (by rfl) T.n_len bt_len (pa_cons (pv 0) pa_nil))) (fun _ _ => rfl))))
    pss_nil)
    (pss_cons (ps_set (i := 4) sc_drawn.nd rfl (by first | exact Or.inl rfl | exact Or.inr rfl) (pe_op op_add (pe_op op_add (pe_op op_mul (pv 3) (pe_op op_add pe_int (pe_op op_mul pe_int (pe_op op_mod (pv 1) pe_int)))) (pe_op op_mul (pe_op op_mul (pe_op op_add (pv 1) pe_int) (pe_op op_add (pv 1) pe_int)) pe_int)) (pe_callB call_len_seq (by rfl) T.n_len bt_len (pa_cons (pv 0) pa_nil))))
    (pss_one (ps_ret (pe_op op_mod (pe_op op_fdiv (pe_op op_mod (pv 4) pe_int) pe_int) (pv 2)))))))
theorem ok_any_by (T : Txt K mg) : FnOk P w K mg base CX0 2 T.f_any_by T.d_any_by ["script", "most", "wide"] (sp_any_by K T.G) := by
  refine T.F_any_by.ok sc_any_by (fun vs H Q E h => len_any_by h) (fun cdv A outer s H vs Q E hr h => ⟨t_any_by K T.G E, ?_, pure_any_by  h⟩)
  exact (pss_cons (ps_set (i := 3) sc_any_by.nd rfl (by first | exact Or.inl rfl | exact Or.inr rfl) (pe_op op_add pe_int (pe_call (ok_drawn T) (hr.mono (by decide)) (by rfl) T.g_drawn T.F_drawn.kp T.b_drawn .nil pass0 (pa_cons (pv 0) (pa_cons pe_int (pa_cons (pv 1) pa_nil))))))
    (pss_cons (ps_set (i := 4) sc_any_by.nd rfl (by first | exact Or.inl rfl | exact Or.inr rfl) (pe_lst pa_nil))
    (pss_cons (ps_for PassesOwn.never rfl (pi_range1 (by rfl) T.n_range (pa_cons (pv 3) pa_nil)) (pg_name (i := 5) sc_any_by.nd rfl (by first | exact Or.inl rfl | exact Or.inr rfl))
    (pss_cons (ps_set (i := 6) sc_any_by.nd rfl (by first | exact Or.inl rfl | exact Or.inr rfl) (pe_op op_add pe_int (pe_op op_mul pe_int (pv 5))))
    (pss_cons (ps_set (i := 7) sc_any_by.nd rfl (by first | exact Or.inl rfl | exact Or.inr rfl) (pe_op op_add pe_int (pe_call (ok_drawn T) (hr.mono (by decide)) (by rfl) T.g_drawn T.F_drawn.kp T.b_drawn .nil pass0 (pa_cons (pv 0) (pa_cons (pv 6) (pa_cons (pv 2) pa_nil))))))
    (pss_cons (ps_setLc (i := 8) (own := [("j", 9)]) (g := (gName 9)) (tt := tYes) rfl sc_any_by.nd rfl rfl (sw_true rfl rfl rfl (by decide +kernel)) (pi_range1 (by rfl) T.n_range (pa_cons (pv 7) pa_nil)) (blkOk_by (own := [("j", 9)]) (N := N_any_by) (by kernel_rfl))
      (fun _ _ _ _ _ => (pg_name (i := 9) sc_any_by.nd rfl (by first | exact Or.inl rfl | exact Or.inr rfl))) (fun _ _ _ _ _ => pts_nil) (fun _ _ _ _ _ => (pe_call (ok_drawn T) (hr.mono (by decide)) (by rfl) T.g_drawn T.F_drawn.kp T.b_drawn .nil pass0 (pa_cons (pv 0) (pa_cons (pe_op op_add (pe_op op_add (pv 6) pe_int) (pv 9)) (pa_cons (pv 3) pa_nil))))))
    (pss_cons (ps_if (pt_cmpR op_eq (pe_call (ok_drawn T) (hr.mono (by decide)) (by rfl) T.g_drawn T.F_drawn.kp T.b_drawn .nil pass0 (pa_cons (pv 0) (pa_cons (pe_op op_add (pv 6) pe_int) (pa_cons pe_int pa_nil)))) pe_int (nomark _))
    (pss_one (ps_asg (pe_un un_neg pe_int) (pg_sub (pv 8) (pe_call (ok_drawn T) (hr.mono (by decide)) (by rfl) T.g_drawn T.F_drawn.kp T.b_drawn .nil pass0 (pa_cons (pv 0) (pa_cons (pe_op op_add (pv 6) pe_int) (pa_cons (pv 7) pa_nil)))) set_list)))
    pss_nil)
    (pss_one (ps_expr (pe_bm PySem.F.plainAttrs_list PySem.F.slot_list_append PySem.F.type_list_append mt_append (pv 4) (pa_cons (pv 8) pa_nil)))))))))
    (pss_one (ps_ret (pv 4))))))
theorem ok_other (T : Txt K mg) : FnOk P w K mg base CX0 1 T.f_other T.d_other ["gone", "many"] (sp_other K T.G) := by
  refine T.F_other.ok sc_other (fun vs H Q E h => len_other h) (fun cdv A outer s H vs Q E hr h => ⟨t_other K T.G E, ?_, pure_other  h⟩)
  exact (pss_cons (ps_if (pt_cmpR op_lt (pv 0) pe_int (nomark _))
    (pss_one (ps_ret (pv 0)))
    pss_nil)
    (pss_one (ps_ret (pe_op op_sub (pe_op op_sub (pv 1) pe_int) (pv 0)))))
theorem ok_small_by (T : Txt K mg) : FnOk P w K mg base CX0 2 T.f_small_by T.d_small_by ["script", "most"] (sp_small_by K T.G) := by
  refine T.F_small_by.ok sc_small_by (fun vs H Q E h => len_small_by h) (fun cdv A outer s H vs Q E hr h => ⟨t_small_by K T.G E, ?_, pure_small_by  h⟩)
  exact (pss_cons (ps_set (i := 2) sc_small_by.nd rfl (by first | exact Or.inl rfl | exact Or.inr rfl) (pe_op op_add pe_int (pe_call (ok_drawn T) (hr.mono (by decide)) (by rfl) T.g_drawn T.F_drawn.kp T.b_drawn .nil pass0 (pa_cons (pv 0) (pa_cons pe_int (pa_cons (pv 1) pa_nil))))))
    (pss_cons (ps_set (i := 3) sc_small_by.nd rfl (by first | exact Or.inl rfl | exact Or.inr rfl) (pe_lst pa_nil))
    (pss_cons (ps_for PassesOwn.never rfl (pi_range1 (by rfl) T.n_range (pa_cons (pv 2) pa_nil)) (pg_name (i := 4) sc_small_by.nd rfl (by first | exact Or.inl rfl | exact Or.inr rfl))
    (pss_cons (ps_set (i := 5) sc_small_by.nd rfl (by first | exact Or.inl rfl | exact Or.inr rfl) (pe_op op_add pe_int (pe_op op_mul pe_int (pv 4))))
    (pss_cons (ps_set (i := 6) sc_small_by.nd rfl (by first | exact Or.inl rfl | exact Or.inr rfl) (pe_op op_add pe_int (pe_call (ok_drawn T) (hr.mono (by decide)) (by rfl) T.g_drawn T.F_drawn.kp T.b_drawn .nil pass0 (pa_cons (pv 0) (pa_cons (pv 5) (pa_cons pe_int pa_nil))))))
    (pss_cons (ps_setLc (i := 7) (own := [("j", 8)]) (g := (gName 8)) (tt := tYes) rfl sc_small_by.nd rfl rfl (sw_true rfl rfl rfl (by decide +kernel)) (pi_range1 (by rfl) T.n_range (pa_cons (pv 6) pa_nil)) (blkOk_by (own := [("j", 8)]) (N := N_small_by) (by kernel_rfl))
      (fun _ _ _ _ _ => (pg_name (i := 8) sc_small_by.nd rfl (by first | exact Or.inl rfl | exact Or.inr rfl))) (fun _ _ _ _ _ => pts_nil) (fun _ _ _ _ _ => (pe_op op_sub (pe_call (ok_drawn T) (hr.mono (by decide)) (by rfl) T.g_drawn T.F_drawn.kp T.b_drawn .nil pass0 (pa_cons (pv 0) (pa_cons (pe_op op_add (pe_op op_add (pv 5) pe_int) (pv 8)) (pa_cons (pe_op op_add (pv 2) pe_int) pa_nil)))) pe_int)))
    (pss_cons (ps_asg (pe_op op_sub (pe_call (ok_drawn T) (hr.mono (by decide)) (by rfl) T.g_drawn T.F_drawn.kp T.b_drawn .nil pass0 (pa_cons (pv 0) (pa_cons (pe_op op_add (pv 5) pe_int) (pa_cons (pe_op op_add (pv 4) pe_int) pa_nil)))) pe_int) (pg_sub (pv 7) (pe_call (ok_drawn T) (hr.mono (by decide)) (by rfl) T.g_drawn T.F_drawn.kp T.b_drawn .nil pass0 (pa_cons (pv 0) (pa_cons (pe_op op_add (pv 5) pe_int) (pa_cons (pv 6) pa_nil)))) set_list))
    (pss_one (ps_expr (pe_bm PySem.F.plainAttrs_list PySem.F.slot_list_append PySem.F.type_list_append mt_append (pv 3) (pa_cons (pv 7) pa_nil)))))))))
    (pss_cons (ps_if (pt_cmpR op_eq (pe_call (ok_drawn T) (hr.mono (by decide)) (by rfl) T.g_drawn T.F_drawn.kp T.b_drawn .nil pass0 (pa_cons (pv 0) (pa_cons pe_int (pa_cons pe_int pa_nil)))) pe_int (nomark _))
    (pss_one (ps_setLc (i := 3) (own := [("row", 7)]) (g := (gName 7)) (tt := tYes) rfl sc_small_by.nd rfl rfl (sw_true rfl rfl rfl (by decide +kernel)) (pi_reversed (by rfl) T.n_reversed (pa_cons (pv 3) pa_nil)) (blkOk_by (own := [("row", 7)]) (N := N_small_by) (by kernel_rfl))
      (fun _ _ _ _ _ => (pg_name (i := 7) sc_small_by.nd rfl (by first | exact Or.inl rfl | exact Or.inr rfl))) (fun _ _ _ _ _ => pts_nil) (fun _ _ _ _ _ => (pe_lc (own := [("gone", 9)]) (g := (gName 9)) (tt := tYes) rfl sc_small_by.nd (pi_list (pv 7)) (blkOk_by (own := [("gone", 9)]) (N := N_small_by) (by kernel_rfl))
      (fun _ _ _ _ _ => (pg_name (i := 9) sc_small_by.nd rfl (by first | exact Or.inl rfl | exact Or.inr rfl))) (fun _ _ _ _ _ => pts_nil) (fun _ _ _ _ _ => (pe_call (ok_other T) (hr.mono (by decide)) (by rfl) T.g_other T.F_other.kp T.b_other .nil pass0 (pa_cons (pv 9) (pa_cons (pv 2) pa_nil))))))))
    pss_nil)
    (pss_one (ps_ret (pv 3)))))))
theorem ok_two_by (T : Txt K mg) : FnOk P w K mg base CX0 2 T.f_two_by T.d_two_by ["script"] (sp_two_by K T.G) := by
  refine T.F_two_by.ok sc_two_by (fun vs H Q E h => len_two_by h) (fun cdv A outer s H vs Q E hr h => ⟨t_two_by K T.G E, ?_, pure_two_by  h⟩)
  exact (pss_cons (ps_set (i := 1) sc_two_by.nd rfl (by first | exact Or.inl rfl | exact Or.inr rfl) (pe_op op_add pe_int (pe_call (ok_drawn T) (hr.mono (by decide)) (by rfl) T.g_drawn T.F_drawn.kp T.b_drawn .nil pass0 (pa_cons (pv 0) (pa_cons pe_int (pa_cons pe_int pa_nil))))))
    (pss_cons (ps_set (i := 2) sc_two_by.nd rfl (by first | exact Or.inl rfl | exact Or.inr rfl) (pe_lst pa_nil))
    (pss_cons (ps_for PassesOwn.never rfl (pi_range1 (by rfl) T.n_range (pa_cons (pv 1) pa_nil)) (pg_name (i := 3) sc_two_by.nd rfl (by first | exact Or.inl rfl | exact Or.inr rfl))
    (pss_cons (ps_set (i := 4) sc_two_by.nd rfl (by first | exact Or.inl rfl | exact Or.inr rfl) (pe_lst (pa_cons (pe_op op_sub (pe_call (ok_drawn T) (hr.mono (by decide)) (by rfl) T.g_drawn T.F_drawn.kp T.b_drawn .nil pass0 (pa_cons (pv 0) (pa_cons (pe_op op_add pe_int (pv 3)) (pa_cons (pe_op op_add (pv 3) pe_int) pa_nil)))) pe_int) pa_nil)))
    (pss_cons (ps_expr (pe_bm PySem.F.plainAttrs_list PySem.F.slot_list_insert PySem.F.type_list_insert mt_insert (pv 4) (pa_cons (pe_call (ok_drawn T) (hr.mono (by decide)) (by rfl) T.g_drawn T.F_drawn.kp T.b_drawn .nil pass0 (pa_cons (pv 0) (pa_cons (pe_op op_add pe_int (pv 3)) (pa_cons pe_int pa_nil)))) (pa_cons (pe_op op_sub (pe_call (ok_drawn T) (hr.mono (by decide)) (by rfl) T.g_drawn T.F_drawn.kp T.b_drawn .nil pass0 (pa_cons (pv 0) (pa_cons (pe_op op_add pe_int (pv 3)) (pa_cons (pe_op op_add (pv 1) pe_int) pa_nil)))) pe_int) pa_nil))))
    (pss_one (ps_expr (pe_bm PySem.F.plainAttrs_list PySem.F.slot_list_append PySem.F.type_list_append mt_append (pv 2) (pa_cons (pv 4) pa_nil)))))))
    (pss_cons (ps_if (pt_cmpR op_eq (pe_call (ok_drawn T) (hr.mono (by decide)) (by rfl) T.g_drawn T.F_drawn.kp T.b_drawn .nil pass0 (pa_cons (pv 0) (pa_cons pe_int (pa_cons pe_int pa_nil)))) pe_int (nomark _))
    (pss_one (ps_setLc (i := 2) (own := [("row", 4)]) (g := (gName 4)) (tt := tYes) rfl sc_two_by.nd rfl rfl (sw_true rfl rfl rfl (by decide +kernel)) (pi_reversed (by rfl) T.n_reversed (pa_cons (pv 2) pa_nil)) (blkOk_by (own := [("row", 4)]) (N := N_two_by) (by kernel_rfl))
      (fun _ _ _ _ _ => (pg_name (i := 4) sc_two_by.nd rfl (by first | exact Or.inl rfl | exact Or.inr rfl))) (fun _ _ _ _ _ => pts_nil) (fun _ _ _ _ _ => (pe_lc (own := [("gone", 5)]) (g := (gName 5)) (tt := tYes) rfl sc_two_by.nd (pi_list (pv 4)) (blkOk_by (own := [("gone", 5)]) (N := N_two_by) (by kernel_rfl))
      (fun _ _ _ _ _ => (pg_name (i := 5) sc_two_by.nd rfl (by first | exact Or.inl rfl | exact Or.inr rfl))) (fun _ _ _ _ _ => pts_nil) (fun _ _ _ _ _ => (pe_call (ok_other T) (hr.mono (by decide)) (by rfl) T.g_other T.F_other.kp T.b_other .nil pass0 (pa_cons (pv 5) (pa_cons (pv 1) pa_nil))))))))
    pss_nil)
    (pss_one (ps_ret (pv 2)))))))
theorem ok_treed (T : Txt K mg) : FnOk P w K mg base CX0 1 T.f_treed T.d_treed ["rows", "turns"] (sp_treed K T.G) := by
  refine T.F_treed.ok sc_treed (fun vs H Q E h => len_treed h) (fun cdv A outer s H vs Q E hr h => ⟨t_treed K T.G E, ?_, pure_treed  h⟩)
  exact (pss_cons (ps_for PassesOwn.never rfl (pi_range1 (by rfl) T.n_range (pa_cons (pe_callB call_len_seq (by rfl) T.n_len bt_len (pa_cons (pv 0) pa_nil)) pa_nil)) (pg_name (i := 2) sc_treed.nd rfl (by first | exact Or.inl rfl | exact Or.inr rfl))
    (pss_cons (ps_set (i := 3) sc_treed.nd rfl (by first | exact Or.inl rfl | exact Or.inr rfl) (pv 2))
    (pss_cons (ps_for PassesOwn.never rfl (pi_range1 (by rfl) T.n_range (pa_cons (pe_callB call_len_seq (by rfl) T.n_len bt_len (pa_cons (pv 0) pa_nil)) pa_nil)) (pg_name (i := 4) sc_treed.nd rfl (by first | exact Or.inl rfl | exact Or.inr rfl))
    (pss_one (ps_if (pt_cmpR op_ge (pv 3) pe_int (nomark _))
    (pss_one (ps_set (i := 3) sc_treed.nd rfl (by first | exact Or.inl rfl | exact Or.inr rfl) (pe_ix ix_list (pe_ix ix_list (pv 0) (pv 3) (fun _ _ => rfl)) (pe_op op_sub (pe_ix ix_list (pv 1) (pv 3) (fun _ _ => rfl)) pe_int) (fun _ _ => rfl))))
    pss_nil)))
    (pss_one (ps_if (pt_cmpR op_ge (pv 3) pe_int (nomark _))
    (pss_one (ps_ret pe_bl))
    pss_nil)))))
    (pss_one (ps_ret pe_bl)))
theorem ok_odometer (T : Txt K mg) : FnOk P w K mg base CX0 2 T.f_odometer T.d_odometer ["rows"] (sp_odometer K T.G) := by
  refine T.F_odometer.ok sc_odometer (fun vs H Q E h => len_odometer h) (fun cdv A outer s H vs Q E hr h => ⟨t_odometer K T.G E, ?_, pure_odometer  h⟩)
  exact (pss_cons (ps_setLc (i := 1) (own := [("row", 4)]) (g := (gName 4)) (tt := tYes) rfl sc_odometer.nd rfl rfl (sw_true rfl rfl rfl (by decide +kernel)) (pi_list (pv 0)) (blkOk_by (own := [("row", 4)]) (N := N_odometer) (by kernel_rfl))
      (fun _ _ _ _ _ => (pg_name (i := 4) sc_odometer.nd rfl (by first | exact Or.inl rfl | exact Or.inr rfl))) (fun _ _ _ _ _ => pts_nil) (fun _ _ _ _ _ => pe_int))
    (pss_cons (ps_set (i := 2) sc_odometer.nd rfl (by first | exact Or.inl rfl | exact Or.inr rfl) pe_int)
    (pss_cons (ps_set (i := 3) sc_odometer.nd rfl (by first | exact Or.inl rfl | exact Or.inr rfl) pe_int)
    (pss_cons (ps_while PassesOwn.never (pt_cmpR op_lt (pv 3) (pe_callB call_len_seq (by rfl) T.n_len bt_len (pa_cons (pv 0) pa_nil)) (nomark _))
    (pss_cons (ps_if (PW.pt (pw_and (pt_cmpR op_eq (pv 3) pe_int (nomark _)) (pw_and1 (pt_val (pe_call (ok_treed T) (hr.mono (by decide)) (by rfl) T.g_treed T.F_treed.kp T.b_treed .nil pass0 (pa_cons (pv 0) (pa_cons (pv 1) pa_nil)))))))
    (pss_one (ps_set (i := 2) sc_odometer.nd rfl (by first | exact Or.inl rfl | exact Or.inr rfl) (pe_op op_add (pv 2) pe_int)))
    pss_nil)
    (pss_cons (ps_asg (pe_op op_add (pe_ix ix_list (pv 1) (pv 3) (fun _ _ => rfl)) pe_int) (pg_sub (pv 1) (pv 3) set_list))
    (pss_one (ps_if (pt_cmpR op_lt (pe_ix ix_list (pv 1) (pv 3) (fun _ _ => rfl)) (pe_callB call_len_seq (by rfl) T.n_len bt_len (pa_cons (pe_ix ix_list (pv 0) (pv 3) (fun _ _ => rfl)) pa_nil)) (nomark _))
    (pss_one (ps_set (i := 3) sc_odometer.nd rfl (by first | exact Or.inl rfl | exact Or.inr rfl) pe_int))
    (pss_cons (ps_asg pe_int (pg_sub (pv 1) (pv 3) set_list))
    (pss_one (ps_set (i := 3) sc_odometer.nd rfl (by first | exact Or.inl rfl | exact Or.inr rfl) (pe_op op_add (pv 3) pe_int)))))))))
    (pss_one (ps_ret (pv 2)))))))
theorem ok_down_by_k17 (T : Txt K mg) : FnOk P w K mg base CX0 2 T.f_down_by_k17 T.d_down_by_k17 ["script"] (sp_down_by_k17 K T.G) := by
  refine T.F_down_by_k17.ok sc_down_by_k17 (fun vs H Q E h => len_down_by_k17 h) (fun cdv A outer s H vs Q E hr h => ⟨t_down_by_k17 K T.G E, ?_, pure_down_by_k17  h⟩)
  exact (pss_cons (ps_set (i := 1) sc_down_by_k17.nd rfl (by first | exact Or.inl rfl | exact Or.inr rfl) (pe_lst pa_nil))
    (pss_cons (ps_for PassesOwn.never rfl (pi_range1 (by rfl) T.n_range (pa_cons (pe_op op_add pe_int (pe_call (ok_drawn T) (hr.mono (by decide)) (by rfl) T.g_drawn T.F_drawn.kp T.b_drawn .nil pass0 (pa_cons (pv 0) (pa_cons pe_int (pa_cons pe_int pa_nil))))) pa_nil)) (pg_name (i := 2) sc_down_by_k17.nd rfl (by first | exact Or.inl rfl | exact Or.inr rfl))
    (pss_cons (ps_set (i := 3) sc_down_by_k17.nd rfl (by first | exact Or.inl rfl | exact Or.inr rfl) (pe_op op_add pe_int (pe_call (ok_drawn T) (hr.mono (by decide)) (by rfl) T.g_drawn T.F_drawn.kp T.b_drawn .nil pass0 (pa_cons (pv 0) (pa_cons (pe_op op_add pe_int (pv 2)) (pa_cons pe_int pa_nil))))))
    (pss_one (ps_expr (pe_bm PySem.F.plainAttrs_list PySem.F.slot_list_append PySem.F.type_list_append mt_append (pv 1) (pa_cons (pe_lc (own := [("j", 4)]) (g := (gName 4)) (tt := tYes) rfl sc_down_by_k17.nd (pi_range1 (by rfl) T.n_range (pa_cons (pv 3) pa_nil)) (blkOk_by (own := [("j", 4)]) (N := N_down_by_k17) (by kernel_rfl))
      (fun _ _ _ _ _ => (pg_name (i := 4) sc_down_by_k17.nd rfl (by first | exact Or.inl rfl | exact Or.inr rfl))) (fun _ _ _ _ _ => pts_nil) (fun _ _ _ _ _ => (pe_op op_sub (pe_call (ok_drawn T) (hr.mono (by decide)) (by rfl) T.g_drawn T.F_drawn.kp T.b_drawn .nil pass0 (pa_cons (pv 0) (pa_cons (pe_op op_add (pe_op op_add pe_int (pe_op op_mul pe_int (pv 2))) (pv 4)) (pa_cons (pe_op op_add (pv 2) pe_int) pa_nil)))) pe_int))) pa_nil))))))
    (pss_one (ps_ret (pv 1)))))
theorem ok_moved (T : Txt K mg) : FnOk P w K mg base CX0 1 T.f_moved T.d_moved ["gone", "many"] (sp_moved K T.G) := by
  refine T.F_moved.ok sc_moved (fun vs H Q E h => len_moved h) (fun cdv A outer s H vs Q E hr h => ⟨t_moved K T.G E, ?_, pure_moved  h⟩)
  exact (pss_cons (ps_if (pt_cmpR op_lt (pv 0) pe_int (nomark _))
    (pss_one (ps_ret (pv 0)))
    pss_nil)
    (pss_one (ps_ret (pe_op op_add (pv 0) (pv 1)))))
theorem ok_turns_by (T : Txt K mg) : FnOk P w K mg base CX0 2 T.f_turns_by T.d_turns_by ["script", "rows"] (sp_turns_by K T.G) := by
  refine T.F_turns_by.ok sc_turns_by (fun vs H Q E h => len_turns_by h) (fun cdv A outer s H vs Q E hr h => ⟨t_turns_by K T.G E, ?_, pure_turns_by  h⟩)
  exact (pss_one (ps_ret (pe_lc (own := [("k", 2)]) (g := (gName 2)) (tt := tYes) rfl sc_turns_by.nd (pi_range1 (by rfl) T.n_range (pa_cons (pe_callB call_len_seq (by rfl) T.n_len bt_len (pa_cons (pv 1) pa_nil)) pa_nil)) (blkOk_by (own := [("k", 2)]) (N := N_turns_by) (by kernel_rfl))
      (fun _ _ _ _ _ => (pg_name (i := 2) sc_turns_by.nd rfl (by first | exact Or.inl rfl | exact Or.inr rfl))) (fun _ _ _ _ _ => pts_nil) (fun _ _ _ _ _ => (pe_call (ok_drawn T) (hr.mono (by decide)) (by rfl) T.g_drawn T.F_drawn.kp T.b_drawn .nil pass0 (pa_cons (pv 0) (pa_cons (pe_op op_add pe_int (pv 2)) (pa_cons (pe_callB call_len_seq (by rfl) T.n_len bt_len (pa_cons (pe_ix ix_list (pv 1) (pv 2) (fun _ _ => rfl)) pa_nil)) pa_nil))))))))
theorem ok_checked (T : Txt K mg) : FnOk P w K mg base (L2.CX P w) 1 T.f_checked T.d_checked ["rows"] (sp_checked K T.G) := by
  refine T.F_checked.okX sc_checked (fun vs H Q E h => len_checked h) (fun cdv A outer s H vs Q E hr h => ⟨t_checked K T.G E, ?_, pure_checked  h⟩)
  exact (pss_cons (ps_if (PW.pt (pw_or (pt_cmpR op_lt (pe_callB call_len_seq (by rfl) T.n_len bt_len (pa_cons (pv 0) pa_nil)) pe_int (nomark _)) (pw_or1 (pt_cmpR op_gt (pe_callB call_len_seq (by rfl) T.n_len bt_len (pa_cons (pv 0) pa_nil)) (pe_glob (v := .int 12) (by rfl) T.g_MOST_SITES ⟨_, rfl⟩) (nomark _)))))
    (pss_one (ps_raise rfl (takes_of rfl rfl rfl rfl) (pmk_own PySem.F.excBase_ValueError T.x_NoSite T.g_NoSite T.k_NoSite (raises_own T.b_NoSite T.t_NoSite) (by rfl))))
    pss_nil)
    (pss_cons (ps_for (passes_of rfl) rfl (pi_list (pv 0)) (pg_name (i := 1) sc_checked.nd rfl (by first | exact Or.inl rfl | exact Or.inr rfl))
    (pss_cons (ps_if (PW.pt (pw_or (pt_cmpR op_lt (pe_callB call_len_seq (by rfl) T.n_len bt_len (pa_cons (pv 1) pa_nil)) pe_int (nomark _)) (pw_or1 (pt_cmpR op_gt (pe_callB call_len_seq (by rfl) T.n_len bt_len (pa_cons (pv 1) pa_nil)) (pe_glob (v := .int 8) (by rfl) T.g_MOST_EXITS ⟨_, rfl⟩) (nomark _)))))
    (pss_one (ps_raise rfl (takes_of rfl rfl rfl rfl) (pmk_own PySem.F.excBase_ValueError T.x_NoExit T.g_NoExit T.k_NoExit (raises_own T.b_NoExit T.t_NoExit) (by rfl))))
    pss_nil)
    (pss_one (ps_for (passes_of rfl) rfl (pi_list (pv 1)) (pg_name (i := 2) sc_checked.nd rfl (by first | exact Or.inl rfl | exact Or.inr rfl))
    (pss_one (ps_if (PW.pt (pw_or (pt_cmpR op_lt (pv 2) (pe_glob (v := .int (-1)) (by rfl) T.g_PIT ⟨_, rfl⟩) (nomark _)) (pw_or1 (pt_cmpR op_ge (pv 2) (pe_callB call_len_seq (by rfl) T.n_len bt_len (pa_cons (pv 0) pa_nil)) (nomark _)))))
    (pss_one (ps_raise rfl (takes_of rfl rfl rfl rfl) (pmk_own PySem.F.excBase_ValueError T.x_NoExit T.g_NoExit T.k_NoExit (raises_own T.b_NoExit T.t_NoExit) (by rfl))))
    pss_nil))))))
    (pss_one (ps_ret (pe_lc (own := [("row", 1)]) (g := (gName 1)) (tt := tYes) rfl sc_checked.nd (pi_list (pv 0)) (blkOk_by (own := [("row", 1)]) (N := N_checked) (by kernel_rfl))
      (fun _ _ _ _ _ => (pg_name (i := 1) sc_checked.nd rfl (by first | exact Or.inl rfl | exact Or.inr rfl))) (fun _ _ _ _ _ => pts_nil) (fun _ _ _ _ _ => (pe_callTy call_list_of (by rfl) T.n_list bt_list (pa_cons (pv 1) pa_nil))))))))
theorem ok_Board_init (T : Txt K mg) : FnOk P w K mg base (L2.CX P w) 2 T.f_Board_init T.d_Board_init ["self", "rows"] (sp_Board_init K T.G) := by
  refine T.F_Board_init.okX sc_Board_init (fun vs H Q E h => len_Board_init h) (fun cdv A outer s H vs Q E hr h => ⟨t_Board_init K T.G E, ?_, pure_Board_init T.bd h⟩)
  exact (pss_cons (ps_fld (pv 0) (pe_call (ok_checked T) (hr.mono (by decide)) (by rfl) T.g_checked T.F_checked.kp T.b_checked .nil (passes_call (takes_of rfl rfl rfl rfl) fun _ _ _ _ z => z) (pa_cons (pv 1) pa_nil)) rfl)
    (pss_cons (ps_fld (pv 0) (pe_lc (own := [("row", 2)]) (g := (gName 2)) (tt := tYes) rfl sc_Board_init.nd (pi_list (pv 1)) (blkOk_by (own := [("row", 2)]) (N := N_Board_init) (by kernel_rfl))
      (fun _ _ _ _ _ => (pg_name (i := 2) sc_Board_init.nd rfl (by first | exact Or.inl rfl | exact Or.inr rfl))) (fun _ _ _ _ _ => pts_nil) (fun _ _ _ _ _ => pe_int)) rfl)
    (pss_cons (ps_fld (pv 0) (pe_lc (own := [("row", 2)]) (g := (gName 2)) (tt := tYes) rfl sc_Board_init.nd (pi_list (pv 1)) (blkOk_by (own := [("row", 2)]) (N := N_Board_init) (by kernel_rfl))
      (fun _ _ _ _ _ => (pg_name (i := 2) sc_Board_init.nd rfl (by first | exact Or.inl rfl | exact Or.inr rfl))) (fun _ _ _ _ _ => pts_nil) (fun _ _ _ _ _ => pe_int)) rfl)
    (pss_cons (ps_fld (pv 0) (pe_lc (own := [("row", 2)]) (g := (gName 2)) (tt := tYes) rfl sc_Board_init.nd (pi_list (pv 1)) (blkOk_by (own := [("row", 2)]) (N := N_Board_init) (by kernel_rfl))
      (fun _ _ _ _ _ => (pg_name (i := 2) sc_Board_init.nd rfl (by first | exact Or.inl rfl | exact Or.inr rfl))) (fun _ _ _ _ _ => pts_nil) (fun _ _ _ _ _ => pe_int)) rfl)
    (pss_one (ps_fld (pv 0) pe_int rfl))))))
theorem ok_Board_has_site (T : Txt K mg) : FnOk P w K mg base CX0 1 T.f_Board_has_site T.d_Board_has_site ["self", "at"] (sp_Board_has_site K T.G) := by
  refine T.F_Board_has_site.ok sc_Board_has_site (fun vs H Q E h => len_Board_has_site h) (fun cdv A outer s H vs Q E hr h => ⟨t_Board_has_site K T.G E, ?_, pure_Board_has_site T.bd h⟩)
  exact (pss_one (ps_ret (pe_and (pe_cmpR op_le pe_int (pv 1) (nomark _)) (pe_one (pe_cmpR op_lt (pv 1) (pe_callB call_len_seq (by rfl) T.n_len bt_len (pa_cons (pe_fld (pv 0) rfl) pa_nil)) (nomark _))))))
theorem ok_Board_turn_to (T : Txt K mg) : FnOk P w K mg base (L2.CX P w) 2 T.f_Board_turn_to T.d_Board_turn_to ["self", "at", "place"] (sp_Board_turn_to K T.G) := by
  refine T.F_Board_turn_to.okX sc_Board_turn_to (fun vs H Q E h => len_Board_turn_to h) (fun cdv A outer s H vs Q E hr h => ⟨t_Board_turn_to K T.G E, ?_, pure_Board_turn_to T.bd h⟩)
  exact (pss_cons (ps_if (pt_not (pt_val (pe_meth (pv 0) T.cl_Board T.m_Board_has_site (ok_Board_has_site T) (hr.mono (by decide)) T.b_Board_has_site .nil pass0 (pa_cons (pv 1) pa_nil))))
    (pss_one (ps_raise rfl (takes_of rfl rfl rfl rfl) (pmk_own PySem.F.excBase_ValueError T.x_NoSite T.g_NoSite T.k_NoSite (raises_own T.b_NoSite T.t_NoSite) (by rfl))))
    pss_nil)
    (pss_cons (ps_if (PW.pt (pw_or (pt_cmpR op_lt (pv 2) pe_int (nomark _)) (pw_or1 (pt_cmpR op_ge (pv 2) (pe_callB call_len_seq (by rfl) T.n_len bt_len (pa_cons (pe_ix ix_list (pe_fld (pv 0) rfl) (pv 1) (fun _ _ => rfl)) pa_nil)) (nomark _)))))
    (pss_one (ps_raise rfl (takes_of rfl rfl rfl rfl) (pmk_own PySem.F.excBase_ValueError T.x_NoPlace T.g_NoPlace T.k_NoPlace (raises_own T.b_NoPlace T.t_NoPlace) (by rfl))))
    pss_nil)
    (pss_one (ps_asg (pv 2) (pg_sub (pe_fld (pv 0) rfl) (pv 1) set_list)))))
theorem ok_Board_load (T : Txt K mg) : FnOk P w K mg base (L2.CX P w) 2 T.f_Board_load T.d_Board_load ["self", "at", "many"] (sp_Board_load K T.G) := by
  refine T.F_Board_load.okX sc_Board_load (fun vs H Q E h => len_Board_load h) (fun cdv A outer s H vs Q E hr h => ⟨t_Board_load K T.G E, ?_, pure_Board_load T.bd h⟩)
  exact (pss_cons (ps_if (pt_not (pt_val (pe_meth (pv 0) T.cl_Board T.m_Board_has_site (ok_Board_has_site T) (hr.mono (by decide)) T.b_Board_has_site .nil pass0 (pa_cons (pv 1) pa_nil))))
    (pss_one (ps_raise rfl (takes_of rfl rfl rfl rfl) (pmk_own PySem.F.excBase_ValueError T.x_NoSite T.g_NoSite T.k_NoSite (raises_own T.b_NoSite T.t_NoSite) (by rfl))))
    pss_nil)
    (pss_cons (ps_if (pt_cmpR op_gt (pe_op op_add (pe_callB (cr_sum rfl) (by rfl) T.n_sum bt_sum (pa_cons (pe_fld (pv 0) rfl) pa_nil)) (pv 2)) (pe_glob (v := .int 400) (by rfl) T.g_MOST_MARBLES ⟨_, rfl⟩) (nomark _))
    (pss_one (ps_raise rfl (takes_of rfl rfl rfl rfl) (pmk_own PySem.F.excBase_ValueError T.x_TooMany T.g_TooMany T.k_TooMany (raises_own T.b_TooMany T.t_TooMany) (by rfl))))
    pss_nil)
    (pss_one (ps_asg (pe_op op_add (pe_ix ix_list (pe_fld (pv 0) rfl) (pv 1) (fun _ _ => rfl)) (pv 2)) (pg_sub (pe_fld (pv 0) rfl) (pv 1) set_list)))))
theorem ok_board (T : Txt K mg) : FnOk P w K mg base CX0 4 T.f_board T.d_board ["rows", "turns", "loads"] (sp_board K T.G) := by
  refine T.F_board.ok sc_board (fun vs H Q E h => len_board h) (fun cdv A outer s H vs Q E hr h => ⟨t_board K T.G E, ?_, pure_board  h⟩)
  exact (pss_cons (ps_set (i := 3) sc_board.nd rfl (by first | exact Or.inl rfl | exact Or.inr rfl) (pe_make T.mk_Board (ok_Board_init T) (hr.mono (by decide)) (by rfl) T.g_Board T.b_Board_init .nil passL (pa_cons (pe_lc (own := [("row", 5)]) (g := (gName 5)) (tt := tYes) rfl sc_board.nd (pi_list (pv 0)) (blkOk_by (own := [("row", 5)]) (N := N_board) (by kernel_rfl))
      (fun _ _ _ _ _ => (pg_name (i := 5) sc_board.nd rfl (by first | exact Or.inl rfl | exact Or.inr rfl))) (fun _ _ _ _ _ => pts_nil) (fun _ _ _ _ _ => (pe_callTy call_list_of (by rfl) T.n_list bt_list (pa_cons (pv 5) pa_nil)))) pa_nil)))
    (pss_cons (ps_for PassesOwn.never rfl (pi_range1 (by rfl) T.n_range (pa_cons (pe_callB call_len_seq (by rfl) T.n_len bt_len (pa_cons (pv 0) pa_nil)) pa_nil)) (pg_name (i := 4) sc_board.nd rfl (by first | exact Or.inl rfl | exact Or.inr rfl))
    (pss_cons (ps_expr (pe_meth (pv 3) T.cl_Board T.m_Board_turn_to (ok_Board_turn_to T) (hr.mono (by decide)) T.b_Board_turn_to .nil passL (pa_cons (pv 4) (pa_cons (pe_ix ix_list (pv 1) (pv 4) (fun _ _ => rfl)) pa_nil))))
    (pss_one (ps_expr (pe_meth (pv 3) T.cl_Board T.m_Board_load (ok_Board_load T) (hr.mono (by decide)) T.b_Board_load .nil passL (pa_cons (pv 4) (pa_cons (pe_ix ix_list (pv 2) (pv 4) (fun _ _ => rfl)) pa_nil)))))))
    (pss_one (ps_ret (pv 3)))))
theorem ok_pick (T : Txt K mg) : FnOk P w K mg base CX0 1 T.f_pick T.d_pick ["rows", "k"] (sp_pick K T.G) := by
  refine T.F_pick.ok sc_pick (fun vs H Q E h => len_pick h) (fun cdv A outer s H vs Q E hr h => ⟨t_pick K T.G E, ?_, pure_pick  h⟩)
  exact (pss_cons (ps_for PassesOwn.never rfl (pi_range2 (by rfl) T.n_range (pa_cons (pv 1) (pa_cons (pe_callB call_len_seq (by rfl) T.n_len bt_len (pa_cons (pv 0) pa_nil)) pa_nil))) (pg_name (i := 2) sc_pick.nd rfl (by first | exact Or.inl rfl | exact Or.inr rfl))
    (pss_one (ps_if (pt_cmpR op_ne (pe_ix ix_list (pe_ix ix_list (pv 0) (pv 2) (fun _ _ => rfl)) (pv 1) (fun _ _ => rfl)) pe_int (nomark _))
    (pss_one (ps_ret (pv 2)))
    pss_nil)))
    (pss_one (ps_ret pe_non)))
theorem ok_det (T : Txt K mg) : FnOk P w K mg base CX0 2 T.f_det T.d_det ["square"] (sp_det K T.G) := by
  refine T.F_det.ok sc_det (fun vs H Q E h => len_det h) (fun cdv A outer s H vs Q E hr h => ⟨t_det K T.G E, ?_, pure_det  h⟩)
  exact (pss_cons (ps_setLc (i := 1) (own := [("row", 9)]) (g := (gName 9)) (tt := tYes) rfl sc_det.nd rfl rfl (sw_true rfl rfl rfl (by decide +kernel)) (pi_list (pv 0)) (blkOk_by (own := [("row", 9)]) (N := N_det) (by kernel_rfl))
      (fun _ _ _ _ _ => (pg_name (i := 9) sc_det.nd rfl (by first | exact Or.inl rfl | exact Or.inr rfl))) (fun _ _ _ _ _ => pts_nil) (fun _ _ _ _ _ => (pe_callTy call_list_of (by rfl) T.n_list bt_list (pa_cons (pv 9) pa_nil))))
    (pss_cons (ps_set (i := 2) sc_det.nd rfl (by first | exact Or.inl rfl | exact Or.inr rfl) pe_int)
    (pss_cons (ps_set (i := 3) sc_det.nd rfl (by first | exact Or.inl rfl | exact Or.inr rfl) pe_int)
    (pss_cons (ps_for PassesOwn.never rfl (pi_range1 (by rfl) T.n_range (pa_cons (pe_callB call_len_seq (by rfl) T.n_len bt_len (pa_cons (pv 1) pa_nil)) pa_nil)) (pg_name (i := 4) sc_det.nd rfl (by first | exact Or.inl rfl | exact Or.inr rfl))
    (pss_cons (ps_set (i := 5) sc_det.nd rfl (by first | exact Or.inl rfl | exact Or.inr rfl) (pe_call (ok_pick T) (hr.mono (by decide)) (by rfl) T.g_pick T.F_pick.kp T.b_pick .nil pass0 (pa_cons (pv 1) (pa_cons (pv 4) pa_nil))))
    (pss_cons (ps_if (pt_cmpR op_isN (pv 5) pe_non (nomark _))
    (pss_one (ps_ret pe_int))
    pss_nil)
    (pss_cons (ps_if (pt_cmpR op_ne (pv 5) (pv 4) (nomark _))
    (pss_cons (ps_set (i := 6) sc_det.nd rfl (by first | exact Or.inl rfl | exact Or.inr rfl) (pe_ix ix_list (pv 1) (pv 4) (fun _ _ => rfl)))
    (pss_cons (ps_asg (pe_ix ix_list (pv 1) (pv 5) (fun _ _ => rfl)) (pg_sub (pv 1) (pv 4) set_list))
    (pss_cons (ps_asg (pv 6) (pg_sub (pv 1) (pv 5) set_list))
    (pss_one (ps_set (i := 2) sc_det.nd rfl (by first | exact Or.inl rfl | exact Or.inr rfl) (pe_un un_neg (pv 2)))))))
    pss_nil)
    (pss_cons (ps_for PassesOwn.never rfl (pi_range2 (by rfl) T.n_range (pa_cons (pe_op op_add (pv 4) pe_int) (pa_cons (pe_callB call_len_seq (by rfl) T.n_len bt_len (pa_cons (pv 1) pa_nil)) pa_nil))) (pg_name (i := 7) sc_det.nd rfl (by first | exact Or.inl rfl | exact Or.inr rfl))
    (pss_one (ps_for PassesOwn.never rfl (pi_range2 (by rfl) T.n_range (pa_cons (pe_op op_add (pv 4) pe_int) (pa_cons (pe_callB call_len_seq (by rfl) T.n_len bt_len (pa_cons (pv 1) pa_nil)) pa_nil))) (pg_name (i := 8) sc_det.nd rfl (by first | exact Or.inl rfl | exact Or.inr rfl))
    (pss_one (ps_asg (pe_op op_fdivX (pe_op op_sub (pe_op op_mulW (pe_ix ix_list (pe_ix ix_list (pv 1) (pv 7) (fun _ _ => rfl)) (pv 8) (fun _ _ => rfl)) (pe_ix ix_list (pe_ix ix_list (pv 1) (pv 4) (fun _ _ => rfl)) (pv 4) (fun _ _ => rfl))) (pe_op op_mulW (pe_ix ix_list (pe_ix ix_list (pv 1) (pv 7) (fun _ _ => rfl)) (pv 4) (fun _ _ => rfl)) (pe_ix ix_list (pe_ix ix_list (pv 1) (pv 4) (fun _ _ => rfl)) (pv 8) (fun _ _ => rfl)))) (pv 3)) (pg_sub (pe_ix ix_list (pv 1) (pv 7) (fun _ _ => rfl)) (pv 8) set_list))))))
    (pss_one (ps_set (i := 3) sc_det.nd rfl (by first | exact Or.inl rfl | exact Or.inr rfl) (pe_ix ix_list (pe_ix ix_list (pv 1) (pv 4) (fun _ _ => rfl)) (pv 4) (fun _ _ => rfl)))))))))
    (pss_one (ps_ret (pe_op op_mulW (pv 2) (pv 3))))))))
theorem ok_grid (T : Txt K mg) : FnOk P w K mg base CX0 1 T.f_grid T.d_grid ["board"] (sp_grid K T.G) := by
  refine T.F_grid.ok sc_grid (fun vs H Q E h => len_grid h) (fun cdv A outer s H vs Q E hr h => ⟨t_grid K T.G E, ?_, pure_grid T.bd h⟩)
  exact (pss_cons (ps_set (i := 1) sc_grid.nd rfl (by first | exact Or.inl rfl | exact Or.inr rfl) (pe_lst pa_nil))
    (pss_cons (ps_for PassesOwn.never rfl (pi_range1 (by rfl) T.n_range (pa_cons (pe_callB call_len_seq (by rfl) T.n_len bt_len (pa_cons (pe_fld (pv 0) rfl) pa_nil)) pa_nil)) (pg_name (i := 2) sc_grid.nd rfl (by first | exact Or.inl rfl | exact Or.inr rfl))
    (pss_cons (ps_setLc (i := 3) (own := [("other", 5)]) (g := (gName 5)) (tt := tYes) rfl sc_grid.nd rfl rfl (sw_true rfl rfl rfl (by decide +kernel)) (pi_list (pe_fld (pv 0) rfl)) (blkOk_by (own := [("other", 5)]) (N := N_grid) (by kernel_rfl))
      (fun _ _ _ _ _ => (pg_name (i := 5) sc_grid.nd rfl (by first | exact Or.inl rfl | exact Or.inr rfl))) (fun _ _ _ _ _ => pts_nil) (fun _ _ _ _ _ => pe_int))
    (pss_cons (ps_for PassesOwn.never rfl (pi_list (pe_ix ix_list (pe_fld (pv 0) rfl) (pv 2) (fun _ _ => rfl))) (pg_name (i := 4) sc_grid.nd rfl (by first | exact Or.inl rfl | exact Or.inr rfl))
    (pss_one (ps_if (pt_cmpR op_ne (pv 4) (pv 2) (nomark _))
    (pss_cons (ps_asg (pe_op op_add (pe_ix ix_list (pv 3) (pv 2) (fun _ _ => rfl)) pe_int) (pg_sub (pv 3) (pv 2) set_list))
    (pss_one (ps_if (pt_cmpR op_ne (pv 4) (pe_glob (v := .int (-1)) (by rfl) T.g_PIT ⟨_, rfl⟩) (nomark _))
    (pss_one (ps_asg (pe_op op_sub (pe_ix ix_list (pv 3) (pv 4) (fun _ _ => rfl)) pe_int) (pg_sub (pv 3) (pv 4) set_list)))
    pss_nil)))
    pss_nil)))
    (pss_one (ps_expr (pe_bm PySem.F.plainAttrs_list PySem.F.slot_list_append PySem.F.type_list_append mt_append (pv 1) (pa_cons (pv 3) pa_nil)))))))
    (pss_one (ps_ret (pv 1)))))
theorem ok_trees (T : Txt K mg) : FnOk P w K mg base CX0 3 T.f_trees T.d_trees ["board"] (sp_trees K T.G) := by
  refine T.F_trees.ok sc_trees (fun vs H Q E h => len_trees h) (fun cdv A outer s H vs Q E hr h => ⟨t_trees K T.G E, ?_, pure_trees T.bd h⟩)
  exact (pss_one (ps_ret (pe_call (ok_det T) (hr.mono (by decide)) (by rfl) T.g_det T.F_det.kp T.b_det .nil pass0 (pa_cons (pe_call (ok_grid T) (hr.mono (by decide)) (by rfl) T.g_grid T.F_grid.kp T.b_grid .nil pass0 (pa_cons (pv 0) pa_nil)) pa_nil))))
theorem ok_whole (T : Txt K mg) : FnOk P w K mg base CX0 1 T.f_whole T.d_whole ["found"] (sp_whole K T.G) := by
  refine T.F_whole.ok sc_whole (fun vs H Q E h => len_whole h) (fun cdv A outer s H vs Q E hr h => ⟨t_whole K T.G E, ?_, pure_whole  h⟩)
  exact (pss_one (ps_ret (pe_and (pe_callB call_isi (by rfl) T.n_isinstance bt_isinstance (pa_cons (pv 0) (pa_cons (pe_bltn (v := .ty "int") (by rfl) T.n_int bt_int rfl) pa_nil))) (pe_one (pe_not (pe_callB call_isi (by rfl) T.n_isinstance bt_isinstance (pa_cons (pv 0) (pa_cons (pe_bltn (v := .ty "bool") (by rfl) T.n_bool bt_bool rfl) pa_nil))))))))
theorem ok_row (T : Txt K mg) : FnOk P w K mg base CX0 2 T.f_row T.d_row ["found", "due"] (sp_row K T.G) := by
  refine T.F_row.ok sc_row (fun vs H Q E h => len_row h) (fun cdv A outer s H vs Q E hr h => ⟨t_row K T.G E, ?_, pure_row  h⟩)
  exact (pss_cons (ps_if (PW.pt (pw_or (pt_not (pt_val (pe_callB call_isi (by rfl) T.n_isinstance bt_isinstance (pa_cons (pv 0) (pa_cons (pe_bltn (v := .ty "list") (by rfl) T.n_list bt_list rfl) pa_nil))))) (pw_or1 (pt_cmpR op_ne (pe_callB call_len_seq (by rfl) T.n_len bt_len (pa_cons (pv 0) pa_nil)) (pe_callB call_len_seq (by rfl) T.n_len bt_len (pa_cons (pv 1) pa_nil)) (nomark _)))))
    (pss_one (ps_ret pe_bl))
    pss_nil)
    (pss_cons (ps_for PassesOwn.never rfl (pi_range1 (by rfl) T.n_range (pa_cons (pe_callB call_len_seq (by rfl) T.n_len bt_len (pa_cons (pv 1) pa_nil)) pa_nil)) (pg_name (i := 2) sc_row.nd rfl (by first | exact Or.inl rfl | exact Or.inr rfl))
    (pss_one (ps_if (PW.pt (pw_or (pt_not (pt_val (pe_call (ok_whole T) (hr.mono (by decide)) (by rfl) T.g_whole T.F_whole.kp T.b_whole .nil pass0 (pa_cons (pe_ix ix_list (pv 0) (pv 2) (fun _ _ => rfl)) pa_nil)))) (pw_or1 (pt_cmpR op_ne (pe_ix ix_list (pv 0) (pv 2) (fun _ _ => rfl)) (pe_ix ix_list (pv 1) (pv 2) (fun _ _ => rfl)) (nomark _)))))
    (pss_one (ps_ret pe_bl))
    pss_nil)))
    (pss_one (ps_ret pe_bl))))
theorem ok_stands (T : Txt K mg) : FnOk P w K mg base CX0 3 T.f_stands T.d_stands ["board", "rows", "turns", "lying", "counts"] (sp_stands K T.G) := by
  refine T.F_stands.ok sc_stands (fun vs H Q E h => len_stands h) (fun cdv A outer s H vs Q E hr h => ⟨t_stands K T.G E, ?_, pure_stands T.bd h⟩)
  exact (pss_cons (ps_if (PW.pt (pw_or (pt_not (pt_val (pe_callB call_isi (by rfl) T.n_isinstance bt_isinstance (pa_cons (pe_fld (pv 0) rfl) (pa_cons (pe_bltn (v := .ty "list") (by rfl) T.n_list bt_list rfl) pa_nil))))) (pw_or1 (pt_cmpR op_ne (pe_callB call_len_seq (by rfl) T.n_len bt_len (pa_cons (pe_fld (pv 0) rfl) pa_nil)) (pe_callB call_len_seq (by rfl) T.n_len bt_len (pa_cons (pv 1) pa_nil)) (nomark _)))))
    (pss_one (ps_ret pe_bl))
    pss_nil)
    (pss_cons (ps_for PassesOwn.never rfl (pi_range1 (by rfl) T.n_range (pa_cons (pe_callB call_len_seq (by rfl) T.n_len bt_len (pa_cons (pv 1) pa_nil)) pa_nil)) (pg_name (i := 5) sc_stands.nd rfl (by first | exact Or.inl rfl | exact Or.inr rfl))
    (pss_one (ps_if (pt_not (pt_val (pe_call (ok_row T) (hr.mono (by decide)) (by rfl) T.g_row T.F_row.kp T.b_row .nil pass0 (pa_cons (pe_ix ix_list (pe_fld (pv 0) rfl) (pv 5) (fun _ _ => rfl)) (pa_cons (pe_ix ix_list (pv 1) (pv 5) (fun _ _ => rfl)) pa_nil)))))
    (pss_one (ps_ret pe_bl))
    pss_nil)))
    (pss_cons (ps_if (PW.pt (pw_or (pt_not (pt_val (pe_call (ok_row T) (hr.mono (by decide)) (by rfl) T.g_row T.F_row.kp T.b_row .nil pass0 (pa_cons (pe_fld (pv 0) rfl) (pa_cons (pv 2) pa_nil))))) (pw_or1 (pt_not (pt_val (pe_call (ok_row T) (hr.mono (by decide)) (by rfl) T.g_row T.F_row.kp T.b_row .nil pass0 (pa_cons (pe_fld (pv 0) rfl) (pa_cons (pe_slice sl_list (pv 3) po_none (po_some (pe_un un_neg pe_int))) pa_nil))))))))
    (pss_one (ps_ret pe_bl))
    pss_nil)
    (pss_cons (ps_if (PW.pt (pw_or (pt_not (pt_val (pe_call (ok_whole T) (hr.mono (by decide)) (by rfl) T.g_whole T.F_whole.kp T.b_whole .nil pass0 (pa_cons (pe_fld (pv 0) rfl) pa_nil)))) (pw_or1 (pt_cmpR op_ne (pe_fld (pv 0) rfl) (pe_ix ix_list (pv 3) (pe_un un_neg pe_int) (fun _ _ => rfl)) (nomark _)))))
    (pss_one (ps_ret pe_bl))
    pss_nil)
    (pss_one (ps_ret (pe_call (ok_row T) (hr.mono (by decide)) (by rfl) T.g_row T.F_row.kp T.b_row .nil pass0 (pa_cons (pe_fld (pv 0) rfl) (pa_cons (pv 4) pa_nil)))))))))
theorem ok_law_k17 (T : Txt K mg) : FnOk P w K mg base CX0 5 T.f_law_k17 T.d_law_k17 ["script"] (spLaw K) := by
  refine T.F_law_k17.ok sc_law_k17 (fun vs H Q E h => lenLaw h) (fun cdv A outer s H vs Q E hr h => ⟨t_law_k17 K T.G E, ?_, pure_law_k17  h⟩)
  exact (pss_cons (ps_set (i := 1) sc_law_k17.nd rfl (by first | exact Or.inl rfl | exact Or.inr rfl) (pe_call (ok_drawn T) (hr.mono (by decide)) (by rfl) T.g_drawn T.F_drawn.kp T.b_drawn .nil pass0 (pa_cons (pv 0) (pa_cons pe_int (pa_cons pe_int pa_nil)))))
    (pss_cons (ps_set (i := 2) sc_law_k17.nd rfl (by first | exact Or.inl rfl | exact Or.inr rfl) (pe_call (ok_any_by T) (hr.mono (by decide)) (by rfl) T.g_any_by T.F_any_by.kp T.b_any_by .nil pass0 (pa_cons (pv 0) (pa_cons pe_int (pa_cons pe_int pa_nil)))))
    (pss_cons (ps_if (pt_cmpR op_eq (pv 1) pe_int (nomark _))
    (pss_one (ps_set (i := 2) sc_law_k17.nd rfl (by first | exact Or.inl rfl | exact Or.inr rfl) (pe_call (ok_small_by T) (hr.mono (by decide)) (by rfl) T.g_small_by T.F_small_by.kp T.b_small_by .nil pass0 (pa_cons (pv 0) (pa_cons pe_int pa_nil)))))
    pss_nil)
    (pss_cons (ps_if (pt_cmpR op_eq (pv 1) pe_int (nomark _))
    (pss_one (ps_set (i := 2) sc_law_k17.nd rfl (by first | exact Or.inl rfl | exact Or.inr rfl) (pe_call (ok_two_by T) (hr.mono (by decide)) (by rfl) T.g_two_by T.F_two_by.kp T.b_two_by .nil pass0 (pa_cons (pv 0) pa_nil))))
    pss_nil)
    (pss_cons (ps_set (i := 3) sc_law_k17.nd rfl (by first | exact Or.inl rfl | exact Or.inr rfl) pe_int)
    (pss_cons (ps_if (pt_cmpR op_eq (pv 1) pe_int (nomark _))
    (pss_cons (ps_set (i := 3) sc_law_k17.nd rfl (by first | exact Or.inl rfl | exact Or.inr rfl) (pe_call (ok_odometer T) (hr.mono (by decide)) (by rfl) T.g_odometer T.F_odometer.kp T.b_odometer .nil pass0 (pa_cons (pv 2) pa_nil)))
    (pss_cons (ps_set (i := 4) sc_law_k17.nd rfl (by first | exact Or.inl rfl | exact Or.inr rfl) (pe_call (ok_down_by_k17 T) (hr.mono (by decide)) (by rfl) T.g_down_by_k17 T.F_down_by_k17.kp T.b_down_by_k17 .nil pass0 (pa_cons (pv 0) pa_nil)))
    (pss_cons (ps_for PassesOwn.never rfl (pi_list (pv 4)) (pg_name (i := 5) sc_law_k17.nd rfl (by first | exact Or.inl rfl | exact Or.inr rfl))
    (pss_one (ps_set (i := 3) sc_law_k17.nd rfl (by first | exact Or.inl rfl | exact Or.inr rfl) (pe_op op_mul (pv 3) (pe_callB call_len_seq (by rfl) T.n_len bt_len (pa_cons (pv 5) pa_nil))))))
    (pss_one (ps_set (i := 2) sc_law_k17.nd rfl (by first | exact Or.inl rfl | exact Or.inr rfl) (pe_op op_cat (pv 4) (pe_lc (own := [("row", 5)]) (g := (gName 5)) (tt := tYes) rfl sc_law_k17.nd (pi_list (pv 2)) (blkOk_by (own := [("row", 5)]) (N := N_law_k17) (by kernel_rfl))
      (fun _ _ _ _ _ => (pg_name (i := 5) sc_law_k17.nd rfl (by first | exact Or.inl rfl | exact Or.inr rfl))) (fun _ _ _ _ _ => pts_nil) (fun _ _ _ _ _ => (pe_lc (own := [("gone", 13)]) (g := (gName 13)) (tt := tYes) rfl sc_law_k17.nd (pi_list (pv 5)) (blkOk_by (own := [("gone", 13)]) (N := N_law_k17) (by kernel_rfl))
      (fun _ _ _ _ _ => (pg_name (i := 13) sc_law_k17.nd rfl (by first | exact Or.inl rfl | exact Or.inr rfl))) (fun _ _ _ _ _ => pts_nil) (fun _ _ _ _ _ => (pe_call (ok_moved T) (hr.mono (by decide)) (by rfl) T.g_moved T.F_moved.kp T.b_moved .nil pass0 (pa_cons (pv 13) (pa_cons (pe_callB call_len_seq (by rfl) T.n_len bt_len (pa_cons (pv 4) pa_nil)) pa_nil)))))))))))))
    (pss_one (ps_set (i := 3) sc_law_k17.nd rfl (by first | exact Or.inl rfl | exact Or.inr rfl) (pe_call (ok_odometer T) (hr.mono (by decide)) (by rfl) T.g_odometer T.F_odometer.kp T.b_odometer .nil pass0 (pa_cons (pv 2) pa_nil)))))
    (pss_cons (ps_set (i := 6) sc_law_k17.nd rfl (by first | exact Or.inl rfl | exact Or.inr rfl) (pe_call (ok_turns_by T) (hr.mono (by decide)) (by rfl) T.g_turns_by T.F_turns_by.kp T.b_turns_by .nil pass0 (pa_cons (pv 0) (pa_cons (pv 2) pa_nil))))
    (pss_cons (ps_setLc (i := 7) (own := [("row", 5)]) (g := (gName 5)) (tt := tYes) rfl sc_law_k17.nd rfl rfl (sw_true rfl rfl rfl (by decide +kernel)) (pi_list (pv 2)) (blkOk_by (own := [("row", 5)]) (N := N_law_k17) (by kernel_rfl))
      (fun _ _ _ _ _ => (pg_name (i := 5) sc_law_k17.nd rfl (by first | exact Or.inl rfl | exact Or.inr rfl))) (fun _ _ _ _ _ => pts_nil) (fun _ _ _ _ _ => pe_int))
    (pss_cons (ps_set (i := 8) sc_law_k17.nd rfl (by first | exact Or.inl rfl | exact Or.inr rfl) (pe_op op_cat (pe_lc (own := [("row", 5)]) (g := (gName 5)) (tt := tYes) rfl sc_law_k17.nd (pi_list (pv 2)) (blkOk_by (own := [("row", 5)]) (N := N_law_k17) (by kernel_rfl))
      (fun _ _ _ _ _ => (pg_name (i := 5) sc_law_k17.nd rfl (by first | exact Or.inl rfl | exact Or.inr rfl))) (fun _ _ _ _ _ => pts_nil) (fun _ _ _ _ _ => pe_int)) (pe_lst (pa_cons pe_int pa_nil))))
    (pss_cons (ps_set (i := 9) sc_law_k17.nd rfl (by first | exact Or.inl rfl | exact Or.inr rfl) (pe_call (ok_board T) (hr.mono (by decide)) (by rfl) T.g_board T.F_board.kp T.b_board .nil pass0 (pa_cons (pv 2) (pa_cons (pv 6) (pa_cons (pv 7) pa_nil)))))
    (pss_cons (ps_for PassesOwn.never rfl (pi_range1 (by rfl) T.n_range (pa_cons pe_int pa_nil)) (pg_name (i := 10) sc_law_k17.nd rfl (by first | exact Or.inl rfl | exact Or.inr rfl))
    (pss_cons (ps_set (i := 11) sc_law_k17.nd rfl (by first | exact Or.inl rfl | exact Or.inr rfl) (pe_call (ok_trees T) (hr.mono (by decide)) (by rfl) T.g_trees T.F_trees.kp T.b_trees .nil pass0 (pa_cons (pv 9) pa_nil)))
    (pss_cons (ps_if (PW.pt (pw_or (pt_not (pt_val (pe_call (ok_whole T) (hr.mono (by decide)) (by rfl) T.g_whole T.F_whole.kp T.b_whole .nil pass0 (pa_cons (pv 11) pa_nil)))) (pw_or (pt_cmpR op_ne (pv 11) (pv 3) (nomark _)) (pw_or1 (pt_cmpR op_ne (pe_call (ok_trees T) (hr.mono (by decide)) (by rfl) T.g_trees T.F_trees.kp T.b_trees .nil pass0 (pa_cons (pe_make T.mk_Board (ok_Board_init T) (hr.mono (by decide)) (by rfl) T.g_Board T.b_Board_init .nil passL (pa_cons (pe_lst (pa_cons (pe_lst (pa_cons (pe_un un_neg pe_int) (pa_cons (pe_un un_neg pe_int) (pa_cons pe_int pa_nil)))) pa_nil)) pa_nil)) pa_nil)) pe_int (nomark _))))))
    (pss_one (ps_ret pe_bl))
    pss_nil)
    (pss_cons (ps_set (i := 12) sc_law_k17.nd rfl (by first | exact Or.inl rfl | exact Or.inr rfl) (pe_call (ok_drawn T) (hr.mono (by decide)) (by rfl) T.g_drawn T.F_drawn.kp T.b_drawn .nil pass0 (pa_cons (pv 0) (pa_cons (pe_op op_add pe_int (pv 10)) (pa_cons (pe_callB call_len_seq (by rfl) T.n_len bt_len (pa_cons (pv 2) pa_nil)) pa_nil)))))
    (pss_cons (ps_expr (pe_meth (pv 9) T.cl_Board T.m_Board_load (ok_Board_load T) (hr.mono (by decide)) T.b_Board_load .nil passL (pa_cons (pv 12) (pa_cons (pe_op op_add pe_int (pv 10)) pa_nil))))
    (pss_one (ps_asg (pe_op op_add (pe_op op_add (pe_ix ix_list (pv 8) (pv 12) (fun _ _ => rfl)) pe_int) (pv 10)) (pg_sub (pv 8) (pv 12) set_list))))))))
    (pss_one (ps_ret (pe_call (ok_stands T) (hr.mono (by decide)) (by rfl) T.g_stands T.F_stands.kp T.b_stands .nil pass0 (pa_cons (pv 9) (pa_cons (pv 2) (pa_cons (pv 6) (pa_cons (pv 8) (pa_cons (pv 7) pa_nil)))))))))))))))))))
end
theorem all_mk {l : PySem.W.OpenLaw} {w : World} {K : PySem.W.Frag} {h : Heap} {mg : Str → Option Value} {fa f_drawn f_any_by f_other f_small_by f_two_by f_treed f_odometer f_down_by_k17 f_moved f_turns_by f_checked f_Board_init f_Board_has_site f_Board_turn_to f_Board_load f_board f_pick f_det f_grid f_trees f_whole f_row f_stands f_law_k17 c_Board c_NoSite c_NoExit c_NoPlace c_TooMany : Addr} (X : K.In h) (G : h.Ns mainGlobals mg) (hfa : mg "law" = some (.ref fa))
    {od_drawn an_drawn : Option Addr} {sl_drawn : Array (Option Value)} {oc_drawn kV_drawn dc_drawn pm_drawn cd_drawn ct_drawn : Value}
    {od_any_by an_any_by : Option Addr} {sl_any_by : Array (Option Value)} {oc_any_by kV_any_by dc_any_by pm_any_by cd_any_by ct_any_by : Value}
    {od_other an_other : Option Addr} {sl_other : Array (Option Value)} {oc_other kV_other dc_other pm_other cd_other ct_other : Value}
    {od_small_by an_small_by : Option Addr} {sl_small_by : Array (Option Value)} {oc_small_by kV_small_by dc_small_by pm_small_by cd_small_by ct_small_by : Value}
    {od_two_by an_two_by : Option Addr} {sl_two_by : Array (Option Value)} {oc_two_by kV_two_by dc_two_by pm_two_by cd_two_by ct_two_by : Value}
    {od_treed an_treed : Option Addr} {sl_treed : Array (Option Value)} {oc_treed kV_treed dc_treed pm_treed cd_treed ct_treed : Value}
    {od_odometer an_odometer : Option Addr} {sl_odometer : Array (Option Value)} {oc_odometer kV_odometer dc_odometer pm_odometer cd_odometer ct_odometer : Value}
    {od_down_by_k17 an_down_by_k17 : Option Addr} {sl_down_by_k17 : Array (Option Value)} {oc_down_by_k17 kV_down_by_k17 dc_down_by_k17 pm_down_by_k17 cd_down_by_k17 ct_down_by_k17 : Value}
    {od_moved an_moved : Option Addr} {sl_moved : Array (Option Value)} {oc_moved kV_moved dc_moved pm_moved cd_moved ct_moved : Value}
    {od_turns_by an_turns_by : Option Addr} {sl_turns_by : Array (Option Value)} {oc_turns_by kV_turns_by dc_turns_by pm_turns_by cd_turns_by ct_turns_by : Value}
    {od_checked an_checked : Option Addr} {sl_checked : Array (Option Value)} {oc_checked kV_checked dc_checked pm_checked cd_checked ct_checked : Value}
    {od_Board_init an_Board_init : Option Addr} {sl_Board_init : Array (Option Value)} {oc_Board_init kV_Board_init dc_Board_init pm_Board_init cd_Board_init ct_Board_init : Value}
    {od_Board_has_site an_Board_has_site : Option Addr} {sl_Board_has_site : Array (Option Value)} {oc_Board_has_site kV_Board_has_site dc_Board_has_site pm_Board_has_site cd_Board_has_site ct_Board_has_site : Value}
    {od_Board_turn_to an_Board_turn_to : Option Addr} {sl_Board_turn_to : Array (Option Value)} {oc_Board_turn_to kV_Board_turn_to dc_Board_turn_to pm_Board_turn_to cd_Board_turn_to ct_Board_turn_to : Value}
    {od_Board_load an_Board_load : Option Addr} {sl_Board_load : Array (Option Value)} {oc_Board_load kV_Board_load dc_Board_load pm_Board_load cd_Board_load ct_Board_load : Value}
    {od_board an_board : Option Addr} {sl_board : Array (Option Value)} {oc_board kV_board dc_board pm_board cd_board ct_board : Value}
    {od_pick an_pick : Option Addr} {sl_pick : Array (Option Value)} {oc_pick kV_pick dc_pick pm_pick cd_pick ct_pick : Value}
    {od_det an_det : Option Addr} {sl_det : Array (Option Value)} {oc_det kV_det dc_det pm_det cd_det ct_det : Value}
    {od_grid an_grid : Option Addr} {sl_grid : Array (Option Value)} {oc_grid kV_grid dc_grid pm_grid cd_grid ct_grid : Value}
    {od_trees an_trees : Option Addr} {sl_trees : Array (Option Value)} {oc_trees kV_trees dc_trees pm_trees cd_trees ct_trees : Value}
    {od_whole an_whole : Option Addr} {sl_whole : Array (Option Value)} {oc_whole kV_whole dc_whole pm_whole cd_whole ct_whole : Value}
    {od_row an_row : Option Addr} {sl_row : Array (Option Value)} {oc_row kV_row dc_row pm_row cd_row ct_row : Value}
    {od_stands an_stands : Option Addr} {sl_stands : Array (Option Value)} {oc_stands kV_stands dc_stands pm_stands cd_stands ct_stands : Value}
    {od_law_k17 an_law_k17 : Option Addr} {sl_law_k17 : Array (Option Value)} {oc_law_k17 kV_law_k17 dc_law_k17 pm_law_k17 cd_law_k17 ct_law_k17 : Value}
    {tk_MOST_SITES : Tok}
    {tk_MOST_EXITS : Tok}
    {tk_PIT : Tok}
    {tk_MOST_MARBLES : Tok}
    (a_cBoard : PySem.W.nsIn K mainGlobals "Board" = some (some (.ref c_Board)))
    (a_drawn : PySem.W.nsIn K mainGlobals "_law_drawn" = some (some (.ref f_drawn)))
    (l_drawn : K.lookup f_drawn = some ⟨oc_drawn, od_drawn, .func (PySem.W.fnOf "_law_drawn" "_law_drawn" (defArgs s_drawn) (defBody s_drawn) (defScope s_drawn) .none kV_drawn dc_drawn pm_drawn an_drawn cd_drawn ct_drawn), sl_drawn⟩)
    (c_drawn : PySem.W.codeIn K cd_drawn "_law_drawn" = true)
    (k_drawn : PySem.W.keepIn K (.ref f_drawn) = true)
    (a_any_by : PySem.W.nsIn K mainGlobals "_law_any_by" = some (some (.ref f_any_by)))
    (l_any_by : K.lookup f_any_by = some ⟨oc_any_by, od_any_by, .func (PySem.W.fnOf "_law_any_by" "_law_any_by" (defArgs s_any_by) (defBody s_any_by) (defScope s_any_by) .none kV_any_by dc_any_by pm_any_by an_any_by cd_any_by ct_any_by), sl_any_by⟩)
    (c_any_by : PySem.W.codeIn K cd_any_by "_law_any_by" = true)
    (k_any_by : PySem.W.keepIn K (.ref f_any_by) = true)
    (a_other : PySem.W.nsIn K mainGlobals "_law_other" = some (some (.ref f_other)))
    (l_other : K.lookup f_other = some ⟨oc_other, od_other, .func (PySem.W.fnOf "_law_other" "_law_other" (defArgs s_other) (defBody s_other) (defScope s_other) .none kV_other dc_other pm_other an_other cd_other ct_other), sl_other⟩)
    (c_other : PySem.W.codeIn K cd_other "_law_other" = true)
    (k_other : PySem.W.keepIn K (.ref f_other) = true)
    (a_small_by : PySem.W.nsIn K mainGlobals "_law_small_by" = some (some (.ref f_small_by)))
    (l_small_by : K.lookup f_small_by = some ⟨oc_small_by, od_small_by, .func (PySem.W.fnOf "_law_small_by" "_law_small_by" (defArgs s_small_by) (defBody s_small_by) (defScope s_small_by) .none kV_small_by dc_small_by pm_small_by an_small_by cd_small_by ct_small_by), sl_small_by⟩)
    (c_small_by : PySem.W.codeIn K cd_small_by "_law_small_by" = true)
    (k_small_by : PySem.W.keepIn K (.ref f_small_by) = true)
    (a_two_by : PySem.W.nsIn K mainGlobals "_law_two_by" = some (some (.ref f_two_by)))
    (l_two_by : K.lookup f_two_by = some ⟨oc_two_by, od_two_by, .func (PySem.W.fnOf "_law_two_by" "_law_two_by" (defArgs s_two_by) (defBody s_two_by) (defScope s_two_by) .none kV_two_by dc_two_by pm_two_by an_two_by cd_two_by ct_two_by), sl_two_by⟩)
    (c_two_by : PySem.W.codeIn K cd_two_by "_law_two_by" = true)
    (k_two_by : PySem.W.keepIn K (.ref f_two_by) = true)
    (a_treed : PySem.W.nsIn K mainGlobals "_law_treed" = some (some (.ref f_treed)))
    (l_treed : K.lookup f_treed = some ⟨oc_treed, od_treed, .func (PySem.W.fnOf "_law_treed" "_law_treed" (defArgs s_treed) (defBody s_treed) (defScope s_treed) .none kV_treed dc_treed pm_treed an_treed cd_treed ct_treed), sl_treed⟩)
    (c_treed : PySem.W.codeIn K cd_treed "_law_treed" = true)
    (k_treed : PySem.W.keepIn K (.ref f_treed) = true)
    (a_odometer : PySem.W.nsIn K mainGlobals "_law_odometer" = some (some (.ref f_odometer)))
    (l_odometer : K.lookup f_odometer = some ⟨oc_odometer, od_odometer, .func (PySem.W.fnOf "_law_odometer" "_law_odometer" (defArgs s_odometer) (defBody s_odometer) (defScope s_odometer) .none kV_odometer dc_odometer pm_odometer an_odometer cd_odometer ct_odometer), sl_odometer⟩)
    (c_odometer : PySem.W.codeIn K cd_odometer "_law_odometer" = true)
    (k_odometer : PySem.W.keepIn K (.ref f_odometer) = true)
    (a_down_by_k17 : PySem.W.nsIn K mainGlobals "_law_down_by" = some (some (.ref f_down_by_k17)))
    (l_down_by_k17 : K.lookup f_down_by_k17 = some ⟨oc_down_by_k17, od_down_by_k17, .func (PySem.W.fnOf "_law_down_by" "_law_down_by" (defArgs s_down_by_k17) (defBody s_down_by_k17) (defScope s_down_by_k17) .none kV_down_by_k17 dc_down_by_k17 pm_down_by_k17 an_down_by_k17 cd_down_by_k17 ct_down_by_k17), sl_down_by_k17⟩)
    (c_down_by_k17 : PySem.W.codeIn K cd_down_by_k17 "_law_down_by" = true)
    (k_down_by_k17 : PySem.W.keepIn K (.ref f_down_by_k17) = true)
    (a_moved : PySem.W.nsIn K mainGlobals "_law_moved" = some (some (.ref f_moved)))
    (l_moved : K.lookup f_moved = some ⟨oc_moved, od_moved, .func (PySem.W.fnOf "_law_moved" "_law_moved" (defArgs s_moved) (defBody s_moved) (defScope s_moved) .none kV_moved dc_moved pm_moved an_moved cd_moved ct_moved), sl_moved⟩)
    (c_moved : PySem.W.codeIn K cd_moved "_law_moved" = true)
    (k_moved : PySem.W.keepIn K (.ref f_moved) = true)
    (a_turns_by : PySem.W.nsIn K mainGlobals "_law_turns_by" = some (some (.ref f_turns_by)))
    (l_turns_by : K.lookup f_turns_by = some ⟨oc_turns_by, od_turns_by, .func (PySem.W.fnOf "_law_turns_by" "_law_turns_by" (defArgs s_turns_by) (defBody s_turns_by) (defScope s_turns_by) .none kV_turns_by dc_turns_by pm_turns_by an_turns_by cd_turns_by ct_turns_by), sl_turns_by⟩)
    (c_turns_by : PySem.W.codeIn K cd_turns_by "_law_turns_by" = true)
    (k_turns_by : PySem.W.keepIn K (.ref f_turns_by) = true)
    (a_checked : PySem.W.nsIn K mainGlobals "checked" = some (some (.ref f_checked)))
    (l_checked : K.lookup f_checked = some ⟨oc_checked, od_checked, .func (PySem.W.fnOf "checked" "checked" (defArgs s_checked) (defBody s_checked) (defScope s_checked) .none kV_checked dc_checked pm_checked an_checked cd_checked ct_checked), sl_checked⟩)
    (c_checked : PySem.W.codeIn K cd_checked "checked" = true)
    (k_checked : PySem.W.keepIn K (.ref f_checked) = true)
    (a_Board_init : PySem.W.findIn K (.ref c_Board) "__init__" = some (some (.ref f_Board_init)))
    (i_Board_init : PySem.W.isFn K (.ref f_Board_init) = true)
    (l_Board_init : K.lookup f_Board_init = some ⟨oc_Board_init, od_Board_init, .func (PySem.W.fnOf "__init__" "Board.__init__" (defArgs s_Board_init) (defBody s_Board_init) (defScope s_Board_init) .none kV_Board_init dc_Board_init pm_Board_init an_Board_init cd_Board_init ct_Board_init), sl_Board_init⟩)
    (c_Board_init : PySem.W.codeIn K cd_Board_init "Board.__init__" = true)
    (k_Board_init : PySem.W.keepIn K (.ref f_Board_init) = true)
    (a_Board_has_site : PySem.W.findIn K (.ref c_Board) "has_site" = some (some (.ref f_Board_has_site)))
    (i_Board_has_site : PySem.W.isFn K (.ref f_Board_has_site) = true)
    (l_Board_has_site : K.lookup f_Board_has_site = some ⟨oc_Board_has_site, od_Board_has_site, .func (PySem.W.fnOf "has_site" "Board.has_site" (defArgs s_Board_has_site) (defBody s_Board_has_site) (defScope s_Board_has_site) .none kV_Board_has_site dc_Board_has_site pm_Board_has_site an_Board_has_site cd_Board_has_site ct_Board_has_site), sl_Board_has_site⟩)
    (c_Board_has_site : PySem.W.codeIn K cd_Board_has_site "Board.has_site" = true)
    (k_Board_has_site : PySem.W.keepIn K (.ref f_Board_has_site) = true)
    (a_Board_turn_to : PySem.W.findIn K (.ref c_Board) "turn_to" = some (some (.ref f_Board_turn_to)))
    (i_Board_turn_to : PySem.W.isFn K (.ref f_Board_turn_to) = true)
    (l_Board_turn_to : K.lookup f_Board_turn_to = some ⟨oc_Board_turn_to, od_Board_turn_to, .func (PySem.W.fnOf "turn_to" "Board.turn_to" (defArgs s_Board_turn_to) (defBody s_Board_turn_to) (defScope s_Board_turn_to) .none kV_Board_turn_to dc_Board_turn_to pm_Board_turn_to an_Board_turn_to cd_Board_turn_to ct_Board_turn_to), sl_Board_turn_to⟩)
    (c_Board_turn_to : PySem.W.codeIn K cd_Board_turn_to "Board.turn_to" = true)
    (k_Board_turn_to : PySem.W.keepIn K (.ref f_Board_turn_to) = true)
    (a_Board_load : PySem.W.findIn K (.ref c_Board) "load" = some (some (.ref f_Board_load)))
    (i_Board_load : PySem.W.isFn K (.ref f_Board_load) = true)
    (l_Board_load : K.lookup f_Board_load = some ⟨oc_Board_load, od_Board_load, .func (PySem.W.fnOf "load" "Board.load" (defArgs s_Board_load) (defBody s_Board_load) (defScope s_Board_load) .none kV_Board_load dc_Board_load pm_Board_load an_Board_load cd_Board_load ct_Board_load), sl_Board_load⟩)
    (c_Board_load : PySem.W.codeIn K cd_Board_load "Board.load" = true)
    (k_Board_load : PySem.W.keepIn K (.ref f_Board_load) = true)
    (a_board : PySem.W.nsIn K mainGlobals "_law_board" = some (some (.ref f_board)))
    (l_board : K.lookup f_board = some ⟨oc_board, od_board, .func (PySem.W.fnOf "_law_board" "_law_board" (defArgs s_board) (defBody s_board) (defScope s_board) .none kV_board dc_board pm_board an_board cd_board ct_board), sl_board⟩)
    (c_board : PySem.W.codeIn K cd_board "_law_board" = true)
    (k_board : PySem.W.keepIn K (.ref f_board) = true)
    (a_pick : PySem.W.nsIn K mainGlobals "pick" = some (some (.ref f_pick)))
    (l_pick : K.lookup f_pick = some ⟨oc_pick, od_pick, .func (PySem.W.fnOf "pick" "pick" (defArgs s_pick) (defBody s_pick) (defScope s_pick) .none kV_pick dc_pick pm_pick an_pick cd_pick ct_pick), sl_pick⟩)
    (c_pick : PySem.W.codeIn K cd_pick "pick" = true)
    (k_pick : PySem.W.keepIn K (.ref f_pick) = true)
    (a_det : PySem.W.nsIn K mainGlobals "det" = some (some (.ref f_det)))
    (l_det : K.lookup f_det = some ⟨oc_det, od_det, .func (PySem.W.fnOf "det" "det" (defArgs s_det) (defBody s_det) (defScope s_det) .none kV_det dc_det pm_det an_det cd_det ct_det), sl_det⟩)
    (c_det : PySem.W.codeIn K cd_det "det" = true)
    (k_det : PySem.W.keepIn K (.ref f_det) = true)
    (a_grid : PySem.W.nsIn K mainGlobals "grid" = some (some (.ref f_grid)))
    (l_grid : K.lookup f_grid = some ⟨oc_grid, od_grid, .func (PySem.W.fnOf "grid" "grid" (defArgs s_grid) (defBody s_grid) (defScope s_grid) .none kV_grid dc_grid pm_grid an_grid cd_grid ct_grid), sl_grid⟩)
    (c_grid : PySem.W.codeIn K cd_grid "grid" = true)
    (k_grid : PySem.W.keepIn K (.ref f_grid) = true)
    (a_trees : PySem.W.nsIn K mainGlobals "trees" = some (some (.ref f_trees)))
    (l_trees : K.lookup f_trees = some ⟨oc_trees, od_trees, .func (PySem.W.fnOf "trees" "trees" (defArgs s_trees) (defBody s_trees) (defScope s_trees) .none kV_trees dc_trees pm_trees an_trees cd_trees ct_trees), sl_trees⟩)
    (c_trees : PySem.W.codeIn K cd_trees "trees" = true)
    (k_trees : PySem.W.keepIn K (.ref f_trees) = true)
    (a_whole : PySem.W.nsIn K mainGlobals "_law_whole" = some (some (.ref f_whole)))
    (l_whole : K.lookup f_whole = some ⟨oc_whole, od_whole, .func (PySem.W.fnOf "_law_whole" "_law_whole" (defArgs s_whole) (defBody s_whole) (defScope s_whole) .none kV_whole dc_whole pm_whole an_whole cd_whole ct_whole), sl_whole⟩)
    (c_whole : PySem.W.codeIn K cd_whole "_law_whole" = true)
    (k_whole : PySem.W.keepIn K (.ref f_whole) = true)
    (a_row : PySem.W.nsIn K mainGlobals "_law_row" = some (some (.ref f_row)))
    (l_row : K.lookup f_row = some ⟨oc_row, od_row, .func (PySem.W.fnOf "_law_row" "_law_row" (defArgs s_row) (defBody s_row) (defScope s_row) .none kV_row dc_row pm_row an_row cd_row ct_row), sl_row⟩)
    (c_row : PySem.W.codeIn K cd_row "_law_row" = true)
    (k_row : PySem.W.keepIn K (.ref f_row) = true)
    (a_stands : PySem.W.nsIn K mainGlobals "_law_stands" = some (some (.ref f_stands)))
    (l_stands : K.lookup f_stands = some ⟨oc_stands, od_stands, .func (PySem.W.fnOf "_law_stands" "_law_stands" (defArgs s_stands) (defBody s_stands) (defScope s_stands) .none kV_stands dc_stands pm_stands an_stands cd_stands ct_stands), sl_stands⟩)
    (c_stands : PySem.W.codeIn K cd_stands "_law_stands" = true)
    (k_stands : PySem.W.keepIn K (.ref f_stands) = true)
    (a_law_k17 : PySem.W.nsIn K mainGlobals "law" = some (some (.ref f_law_k17)))
    (l_law_k17 : K.lookup f_law_k17 = some ⟨oc_law_k17, od_law_k17, .func (PySem.W.fnOf "law" "law" (defArgs s_law_k17) (defBody s_law_k17) (defScope s_law_k17) .none kV_law_k17 dc_law_k17 pm_law_k17 an_law_k17 cd_law_k17 ct_law_k17), sl_law_k17⟩)
    (c_law_k17 : PySem.W.codeIn K cd_law_k17 "law" = true)
    (k_law_k17 : PySem.W.keepIn K (.ref f_law_k17) = true)
    (pg_Board : PySem.W.plainGet K c_Board Str.empty = true)
    (hd_Board : PySem.W.hasDictIn K c_Board = true)
    (po_Board : PySem.W.plainOver K c_Board = true)
    (sa_Board : PySem.W.findIn K (.ref c_Board) "__setattr__" = some (some (.builtin "object.__setattr__")))
    (mk_Board : PySem.W.makesIn K c_Board = true)
    (kc_Board : PySem.W.keepIn K (.ref c_Board) = true)
    (na_rows : PySem.W.findIn K (.ref c_Board) "rows" = some none)
    (na_turns : PySem.W.findIn K (.ref c_Board) "turns" = some none)
    (na_loads : PySem.W.findIn K (.ref c_Board) "loads" = some none)
    (na_steps : PySem.W.findIn K (.ref c_Board) "steps" = some none)
    (na_taken : PySem.W.findIn K (.ref c_Board) "taken" = some none)
    (gi_MOST_SITES : PySem.W.nsIn K mainGlobals "MOST_SITES" = some (some (.int 12 tk_MOST_SITES)))
    (gi_MOST_EXITS : PySem.W.nsIn K mainGlobals "MOST_EXITS" = some (some (.int 8 tk_MOST_EXITS)))
    (gi_PIT : PySem.W.nsIn K mainGlobals "PIT" = some (some (.int (-1) tk_PIT)))
    (gi_MOST_MARBLES : PySem.W.nsIn K mainGlobals "MOST_MARBLES" = some (some (.int 400 tk_MOST_MARBLES)))
    (n_len : PySem.W.nsIn K mainGlobals "len" = some none)
    (n_range : PySem.W.nsIn K mainGlobals "range" = some none)
    (n_reversed : PySem.W.nsIn K mainGlobals "reversed" = some none)
    (n_list : PySem.W.nsIn K mainGlobals "list" = some none)
    (n_sum : PySem.W.nsIn K mainGlobals "sum" = some none)
    (n_int : PySem.W.nsIn K mainGlobals "int" = some none)
    (n_isinstance : PySem.W.nsIn K mainGlobals "isinstance" = some none)
    (n_bool : PySem.W.nsIn K mainGlobals "bool" = some none)
    (a_cNoSite : PySem.W.nsIn K mainGlobals "NoSite" = some (some (.ref c_NoSite)))
    (x_NoSite : PySem.W.excIn K c_NoSite [.type "ValueError", .type "Exception", .type "BaseException", .type "object"] "ValueError.__new__" = true)
    (k_NoSite : PySem.W.keepIn K (.ref c_NoSite) = true)
    (b_NoSite : PySem.W.subIn K (.ref c_NoSite) (.type "BaseException") = some true)
    (t_NoSite : PySem.W.typeIn K (.ref c_NoSite) = some (.type "type"))
    (a_cNoExit : PySem.W.nsIn K mainGlobals "NoExit" = some (some (.ref c_NoExit)))
    (x_NoExit : PySem.W.excIn K c_NoExit [.type "ValueError", .type "Exception", .type "BaseException", .type "object"] "ValueError.__new__" = true)
    (k_NoExit : PySem.W.keepIn K (.ref c_NoExit) = true)
    (b_NoExit : PySem.W.subIn K (.ref c_NoExit) (.type "BaseException") = some true)
    (t_NoExit : PySem.W.typeIn K (.ref c_NoExit) = some (.type "type"))
    (a_cNoPlace : PySem.W.nsIn K mainGlobals "NoPlace" = some (some (.ref c_NoPlace)))
    (x_NoPlace : PySem.W.excIn K c_NoPlace [.type "ValueError", .type "Exception", .type "BaseException", .type "object"] "ValueError.__new__" = true)
    (k_NoPlace : PySem.W.keepIn K (.ref c_NoPlace) = true)
    (b_NoPlace : PySem.W.subIn K (.ref c_NoPlace) (.type "BaseException") = some true)
    (t_NoPlace : PySem.W.typeIn K (.ref c_NoPlace) = some (.type "type"))
    (a_cTooMany : PySem.W.nsIn K mainGlobals "TooMany" = some (some (.ref c_TooMany)))
    (x_TooMany : PySem.W.excIn K c_TooMany [.type "ValueError", .type "Exception", .type "BaseException", .type "object"] "ValueError.__new__" = true)
    (k_TooMany : PySem.W.keepIn K (.ref c_TooMany) = true)
    (b_TooMany : PySem.W.subIn K (.ref c_TooMany) (.type "BaseException") = some true)
    (t_TooMany : PySem.W.typeIn K (.ref c_TooMany) = some (.type "type"))
    : ∃ fd : FuncData, (∀ (s : Shared) (v : Value), BindsTo s fd ⟨[v], []⟩ [("script", v)]) ∧ ∀ base : Heap, K.In base → base.Ns mainGlobals mg → FnOk l.prog w K mg base CX0 5 fa fd ["script"] (spLaw K) := by
  have e := hfa.symm.trans (PySem.W.mg_of X G a_law_k17)
  cases e
  let T : Txt K mg := {
    G := ⟨c_Board, 0, c_NoSite, c_NoExit, c_NoPlace, 0, c_TooMany, 0, 0, 0, 0, 0⟩
    f_drawn := f_drawn
    d_drawn := _
    F_drawn := fun_mk (st := s_drawn) l_drawn c_drawn k_drawn
    b_drawn := Fun.binds (ps := ["script", "k", "many"]) (fun_mk (st := s_drawn) l_drawn c_drawn k_drawn) fun _ _ _ _ _ _ us hl => match us, hl with | [_, _, _], _ => rfl
    g_drawn := PySem.W.mg_of X G a_drawn
    f_any_by := f_any_by
    d_any_by := _
    F_any_by := fun_mk (st := s_any_by) l_any_by c_any_by k_any_by
    b_any_by := Fun.binds (ps := ["script", "most", "wide"]) (fun_mk (st := s_any_by) l_any_by c_any_by k_any_by) fun _ _ _ _ _ _ us hl => match us, hl with | [_, _, _], _ => rfl
    g_any_by := PySem.W.mg_of X G a_any_by
    f_other := f_other
    d_other := _
    F_other := fun_mk (st := s_other) l_other c_other k_other
    b_other := Fun.binds (ps := ["gone", "many"]) (fun_mk (st := s_other) l_other c_other k_other) fun _ _ _ _ _ _ us hl => match us, hl with | [_, _], _ => rfl
    g_other := PySem.W.mg_of X G a_other
    f_small_by := f_small_by
    d_small_by := _
    F_small_by := fun_mk (st := s_small_by) l_small_by c_small_by k_small_by
    b_small_by := Fun.binds (ps := ["script", "most"]) (fun_mk (st := s_small_by) l_small_by c_small_by k_small_by) fun _ _ _ _ _ _ us hl => match us, hl with | [_, _], _ => rfl
    g_small_by := PySem.W.mg_of X G a_small_by
    f_two_by := f_two_by
    d_two_by := _
    F_two_by := fun_mk (st := s_two_by) l_two_by c_two_by k_two_by
    b_two_by := Fun.binds (ps := ["script"]) (fun_mk (st := s_two_by) l_two_by c_two_by k_two_by) fun _ _ _ _ _ _ us hl => match us, hl with | [_], _ => rfl
    g_two_by := PySem.W.mg_of X G a_two_by
    f_treed := f_treed
    d_treed := _
    F_treed := fun_mk (st := s_treed) l_treed c_treed k_treed
    b_treed := Fun.binds (ps := ["rows", "turns"]) (fun_mk (st := s_treed) l_treed c_treed k_treed) fun _ _ _ _ _ _ us hl => match us, hl with | [_, _], _ => rfl
    g_treed := PySem.W.mg_of X G a_treed
    f_odometer := f_odometer
    d_odometer := _
    F_odometer := fun_mk (st := s_odometer) l_odometer c_odometer k_odometer
    b_odometer := Fun.binds (ps := ["rows"]) (fun_mk (st := s_odometer) l_odometer c_odometer k_odometer) fun _ _ _ _ _ _ us hl => match us, hl with | [_], _ => rfl
    g_odometer := PySem.W.mg_of X G a_odometer
    f_down_by_k17 := f_down_by_k17
    d_down_by_k17 := _
    F_down_by_k17 := fun_mk (st := s_down_by_k17) l_down_by_k17 c_down_by_k17 k_down_by_k17
    b_down_by_k17 := Fun.binds (ps := ["script"]) (fun_mk (st := s_down_by_k17) l_down_by_k17 c_down_by_k17 k_down_by_k17) fun _ _ _ _ _ _ us hl => match us, hl with | [_], _ => rfl
    g_down_by_k17 := PySem.W.mg_of X G a_down_by_k17
    f_moved := f_moved
    d_moved := _
    F_moved := fun_mk (st := s_moved) l_moved c_moved k_moved
    b_moved := Fun.binds (ps := ["gone", "many"]) (fun_mk (st := s_moved) l_moved c_moved k_moved) fun _ _ _ _ _ _ us hl => match us, hl with | [_, _], _ => rfl
    g_moved := PySem.W.mg_of X G a_moved
    f_turns_by := f_turns_by
    d_turns_by := _
    F_turns_by := fun_mk (st := s_turns_by) l_turns_by c_turns_by k_turns_by
    b_turns_by := Fun.binds (ps := ["script", "rows"]) (fun_mk (st := s_turns_by) l_turns_by c_turns_by k_turns_by) fun _ _ _ _ _ _ us hl => match us, hl with | [_, _], _ => rfl
    g_turns_by := PySem.W.mg_of X G a_turns_by
    f_checked := f_checked
    d_checked := _
    F_checked := fun_mk (st := s_checked) l_checked c_checked k_checked
    b_checked := Fun.binds (ps := ["rows"]) (fun_mk (st := s_checked) l_checked c_checked k_checked) fun _ _ _ _ _ _ us hl => match us, hl with | [_], _ => rfl
    g_checked := PySem.W.mg_of X G a_checked
    f_Board_init := f_Board_init
    d_Board_init := _
    F_Board_init := fun_mk (st := s_Board_init) l_Board_init c_Board_init k_Board_init
    b_Board_init := Fun.binds (ps := ["self", "rows"]) (fun_mk (st := s_Board_init) l_Board_init c_Board_init k_Board_init) fun _ _ _ _ _ _ us hl => match us, hl with | [_, _], _ => rfl
    mk_Board := ⟨mk_Board, a_Board_init, i_Board_init, kc_Board⟩
    f_Board_has_site := f_Board_has_site
    d_Board_has_site := _
    F_Board_has_site := fun_mk (st := s_Board_has_site) l_Board_has_site c_Board_has_site k_Board_has_site
    b_Board_has_site := Fun.binds (ps := ["self", "at"]) (fun_mk (st := s_Board_has_site) l_Board_has_site c_Board_has_site k_Board_has_site) fun _ _ _ _ _ _ us hl => match us, hl with | [_, _], _ => rfl
    m_Board_has_site := ⟨a_Board_has_site, i_Board_has_site, k_Board_has_site⟩
    f_Board_turn_to := f_Board_turn_to
    d_Board_turn_to := _
    F_Board_turn_to := fun_mk (st := s_Board_turn_to) l_Board_turn_to c_Board_turn_to k_Board_turn_to
    b_Board_turn_to := Fun.binds (ps := ["self", "at", "place"]) (fun_mk (st := s_Board_turn_to) l_Board_turn_to c_Board_turn_to k_Board_turn_to) fun _ _ _ _ _ _ us hl => match us, hl with | [_, _, _], _ => rfl
    m_Board_turn_to := ⟨a_Board_turn_to, i_Board_turn_to, k_Board_turn_to⟩
    f_Board_load := f_Board_load
    d_Board_load := _
    F_Board_load := fun_mk (st := s_Board_load) l_Board_load c_Board_load k_Board_load
    b_Board_load := Fun.binds (ps := ["self", "at", "many"]) (fun_mk (st := s_Board_load) l_Board_load c_Board_load k_Board_load) fun _ _ _ _ _ _ us hl => match us, hl with | [_, _, _], _ => rfl
    m_Board_load := ⟨a_Board_load, i_Board_load, k_Board_load⟩
    f_board := f_board
    d_board := _
    F_board := fun_mk (st := s_board) l_board c_board k_board
    b_board := Fun.binds (ps := ["rows", "turns", "loads"]) (fun_mk (st := s_board) l_board c_board k_board) fun _ _ _ _ _ _ us hl => match us, hl with | [_, _, _], _ => rfl
    g_board := PySem.W.mg_of X G a_board
    f_pick := f_pick
    d_pick := _
    F_pick := fun_mk (st := s_pick) l_pick c_pick k_pick
    b_pick := Fun.binds (ps := ["rows", "k"]) (fun_mk (st := s_pick) l_pick c_pick k_pick) fun _ _ _ _ _ _ us hl => match us, hl with | [_, _], _ => rfl
    g_pick := PySem.W.mg_of X G a_pick
    f_det := f_det
    d_det := _
    F_det := fun_mk (st := s_det) l_det c_det k_det
    b_det := Fun.binds (ps := ["square"]) (fun_mk (st := s_det) l_det c_det k_det) fun _ _ _ _ _ _ us hl => match us, hl with | [_], _ => rfl
    g_det := PySem.W.mg_of X G a_det
    f_grid := f_grid
    d_grid := _
    F_grid := fun_mk (st := s_grid) l_grid c_grid k_grid
    b_grid := Fun.binds (ps := ["board"]) (fun_mk (st := s_grid) l_grid c_grid k_grid) fun _ _ _ _ _ _ us hl => match us, hl with | [_], _ => rfl
    g_grid := PySem.W.mg_of X G a_grid
    f_trees := f_trees
    d_trees := _
    F_trees := fun_mk (st := s_trees) l_trees c_trees k_trees
    b_trees := Fun.binds (ps := ["board"]) (fun_mk (st := s_trees) l_trees c_trees k_trees) fun _ _ _ _ _ _ us hl => match us, hl with | [_], _ => rfl
    g_trees := PySem.W.mg_of X G a_trees
    f_whole := f_whole
    d_whole := _
    F_whole := fun_mk (st := s_whole) l_whole c_whole k_whole
    b_whole := Fun.binds (ps := ["found"]) (fun_mk (st := s_whole) l_whole c_whole k_whole) fun _ _ _ _ _ _ us hl => match us, hl with | [_], _ => rfl
    g_whole := PySem.W.mg_of X G a_whole
    f_row := f_row
    d_row := _
    F_row := fun_mk (st := s_row) l_row c_row k_row
    b_row := Fun.binds (ps := ["found", "due"]) (fun_mk (st := s_row) l_row c_row k_row) fun _ _ _ _ _ _ us hl => match us, hl with | [_, _], _ => rfl
    g_row := PySem.W.mg_of X G a_row
    f_stands := f_stands
    d_stands := _
    F_stands := fun_mk (st := s_stands) l_stands c_stands k_stands
    b_stands := Fun.binds (ps := ["board", "rows", "turns", "lying", "counts"]) (fun_mk (st := s_stands) l_stands c_stands k_stands) fun _ _ _ _ _ _ us hl => match us, hl with | [_, _, _, _, _], _ => rfl
    g_stands := PySem.W.mg_of X G a_stands
    f_law_k17 := fa
    d_law_k17 := _
    F_law_k17 := fun_mk (st := s_law_k17) l_law_k17 c_law_k17 k_law_k17
    b_law_k17 := Fun.binds (ps := ["script"]) (fun_mk (st := s_law_k17) l_law_k17 c_law_k17 k_law_k17) fun _ _ _ _ _ _ us hl => match us, hl with | [_], _ => rfl
    cl_Board := ⟨pg_Board, hd_Board, po_Board, sa_Board⟩
    bd := ⟨⟨pg_Board, hd_Board, po_Board, sa_Board⟩, na_rows, na_turns, na_loads, na_steps, na_taken⟩
    g_Board := PySem.W.mg_of X G a_cBoard
    tk_MOST_SITES := tk_MOST_SITES
    g_MOST_SITES := PySem.W.mg_of X G gi_MOST_SITES
    tk_MOST_EXITS := tk_MOST_EXITS
    g_MOST_EXITS := PySem.W.mg_of X G gi_MOST_EXITS
    tk_PIT := tk_PIT
    g_PIT := PySem.W.mg_of X G gi_PIT
    tk_MOST_MARBLES := tk_MOST_MARBLES
    g_MOST_MARBLES := PySem.W.mg_of X G gi_MOST_MARBLES
    n_len := PySem.W.mg_none_of X G n_len
    n_range := PySem.W.mg_none_of X G n_range
    n_reversed := PySem.W.mg_none_of X G n_reversed
    n_list := PySem.W.mg_none_of X G n_list
    n_sum := PySem.W.mg_none_of X G n_sum
    n_int := PySem.W.mg_none_of X G n_int
    n_isinstance := PySem.W.mg_none_of X G n_isinstance
    n_bool := PySem.W.mg_none_of X G n_bool
    g_NoSite := PySem.W.mg_of X G a_cNoSite
    x_NoSite := x_NoSite
    k_NoSite := k_NoSite
    b_NoSite := b_NoSite
    t_NoSite := t_NoSite
    g_NoExit := PySem.W.mg_of X G a_cNoExit
    x_NoExit := x_NoExit
    k_NoExit := k_NoExit
    b_NoExit := b_NoExit
    t_NoExit := t_NoExit
    g_NoPlace := PySem.W.mg_of X G a_cNoPlace
    x_NoPlace := x_NoPlace
    k_NoPlace := k_NoPlace
    b_NoPlace := b_NoPlace
    t_NoPlace := t_NoPlace
    g_TooMany := PySem.W.mg_of X G a_cTooMany
    x_TooMany := x_TooMany
    k_TooMany := k_TooMany
    b_TooMany := b_TooMany
    t_TooMany := t_TooMany
  }
  exact ⟨PySem.W.fnOf "law" "law" (defArgs s_law_k17) (defBody s_law_k17) (defScope s_law_k17) .none kV_law_k17 dc_law_k17 pm_law_k17 an_law_k17 cd_law_k17 ct_law_k17, fun s v => .of_eq rfl, fun base _ _ => ok_law_k17 T⟩
theorem walk {l : PySem.W.OpenLaw} {q : Program} {loose : List Str} {XP : (Str → Option Value) → Heap → Prop} {YP : World → Heap → Prop} {d : DefRec} {K : Params → PySem.W.Frag} (hn : l.most = some 63) (hdf : d.params.defaults = [])
    (hY : ∀ (w : World) (h : Heap), YP w h → (K w.params).In h)
    (F : ∀ (w : World) (mg : Str → Option Value) (fa : Addr) (h : Heap), (K w.params).In h → h.Ns mainGlobals mg → mg d.name = some (.ref fa) →
      ∃ fd : FuncData, (∀ (s : Shared) (u : Value), BindsTo s fd ⟨[u], []⟩ [("script", u)]) ∧ ∀ base : Heap, (K w.params).In base → base.Ns mainGlobals mg → FnOk l.prog w (K w.params) mg base CX0 5 fa fd ["script"] (spLaw (K w.params))) :
    PySem.W.WalkO q loose XP YP l.row.toRowW d [] (fun f vs => PySem.call f vs) :=
  L2.walk_of (n := 63) (k := 5) (x := "script") (CX := fun _ => CX0) (sp := fun w => spLaw (K w.params)) hn (by decide) hdf ⟨rfl, by decide, by decide⟩ hY F (fun _ _ a ns hl _ hS => ⟨a, ns, rfl, hS, hl, fun _ => rfl⟩) fun _ _ _ _ _ z => z
end Mb
open PySem PySem.W PyProof.Rows
set_option maxRecDepth 100000 in
set_option maxHeartbeats 0 in
set_option pp.maxSteps 60 in
theorem PySem.Challenge.cw_marblerun_k17_whole_trees_counted_holds : PySem.Challenge.rw_marblerun_k17_whole_trees_counted.Holds := by
  w_on; o_law; k_head; (case hw => w_witness2)
  k_fill
  refine Mb.walk (l := PySem.Challenge.rw_marblerun_k17_whole_trees_counted) rfl rfl (fun w h Y => PySem.W.kIn_of Y) ?F
  case F =>
    intro w mg fa h KX G hmg
    refine' Mb.all_mk KX G hmg ?a_cBoard ?a_drawn ?l_drawn ?c_drawn ?k_drawn ?a_any_by ?l_any_by ?c_any_by ?k_any_by ?a_other ?l_other ?c_other ?k_other ?a_small_by ?l_small_by ?c_small_by ?k_small_by ?a_two_by ?l_two_by ?c_two_by ?k_two_by ?a_treed ?l_treed ?c_treed ?k_treed ?a_odometer ?l_odometer ?c_odometer ?k_odometer ?a_down_by_k17 ?l_down_by_k17 ?c_down_by_k17 ?k_down_by_k17 ?a_moved ?l_moved ?c_moved ?k_moved ?a_turns_by ?l_turns_by ?c_turns_by ?k_turns_by ?a_checked ?l_checked ?c_checked ?k_checked ?a_Board_init ?i_Board_init ?l_Board_init ?c_Board_init ?k_Board_init ?a_Board_has_site ?i_Board_has_site ?l_Board_has_site ?c_Board_has_site ?k_Board_has_site ?a_Board_turn_to ?i_Board_turn_to ?l_Board_turn_to ?c_Board_turn_to ?k_Board_turn_to ?a_Board_load ?i_Board_load ?l_Board_load ?c_Board_load ?k_Board_load ?a_board ?l_board ?c_board ?k_board ?a_pick ?l_pick ?c_pick ?k_pick ?a_det ?l_det ?c_det ?k_det ?a_grid ?l_grid ?c_grid ?k_grid ?a_trees ?l_trees ?c_trees ?k_trees ?a_whole ?l_whole ?c_whole ?k_whole ?a_row ?l_row ?c_row ?k_row ?a_stands ?l_stands ?c_stands ?k_stands ?a_law_k17 ?l_law_k17 ?c_law_k17 ?k_law_k17 ?pg_Board ?hd_Board ?po_Board ?sa_Board ?mk_Board ?kc_Board ?na_rows ?na_turns ?na_loads ?na_steps ?na_taken ?gi_MOST_SITES ?gi_MOST_EXITS ?gi_PIT ?gi_MOST_MARBLES ?n_len ?n_range ?n_reversed ?n_list ?n_sum ?n_int ?n_isinstance ?n_bool ?a_cNoSite ?x_NoSite ?k_NoSite ?b_NoSite ?t_NoSite ?a_cNoExit ?x_NoExit ?k_NoExit ?b_NoExit ?t_NoExit ?a_cNoPlace ?x_NoPlace ?k_NoPlace ?b_NoPlace ?t_NoPlace ?a_cTooMany ?x_TooMany ?k_TooMany ?b_TooMany ?t_TooMany
    (case a_cBoard => k_is)
    (case a_drawn => k_is)
    (case l_drawn => k_is)
    (case c_drawn => k_is)
    (case k_drawn => k_is)
    (case a_any_by => k_is)
    (case l_any_by => k_is)
    (case c_any_by => k_is)
    (case k_any_by => k_is)
    (case a_other => k_is)
    (case l_other => k_is)
    (case c_other => k_is)
    (case k_other => k_is)
    (case a_small_by => k_is)
    (case l_small_by => k_is)
    (case c_small_by => k_is)
    (case k_small_by => k_is)
    (case a_two_by => k_is)
    (case l_two_by => k_is)
    (case c_two_by => k_is)
    (case k_two_by => k_is)
    (case a_treed => k_is)
    (case l_treed => k_is)
    (case c_treed => k_is)
    (case k_treed => k_is)
    (case a_odometer => k_is)
    (case l_odometer => k_is)
    (case c_odometer => k_is)
    (case k_odometer => k_is)
    (case a_down_by_k17 => k_is)
    (case l_down_by_k17 => k_is)
    (case c_down_by_k17 => k_is)
    (case k_down_by_k17 => k_is)
    (case a_moved => k_is)
    (case l_moved => k_is)
    (case c_moved => k_is)
    (case k_moved => k_is)
    (case a_turns_by => k_is)
    (case l_turns_by => k_is)
    (case c_turns_by => k_is)
    (case k_turns_by => k_is)
    (case a_checked => k_is)
    (case l_checked => k_is)
    (case c_checked => k_is)
    (case k_checked => k_is)
    (case a_Board_init => k_is)
    (case i_Board_init => k_is)
    (case l_Board_init => k_is)
    (case c_Board_init => k_is)
    (case k_Board_init => k_is)
    (case a_Board_has_site => k_is)
    (case i_Board_has_site => k_is)
    (case l_Board_has_site => k_is)
    (case c_Board_has_site => k_is)
    (case k_Board_has_site => k_is)
    (case a_Board_turn_to => k_is)
    (case i_Board_turn_to => k_is)
    (case l_Board_turn_to => k_is)
    (case c_Board_turn_to => k_is)
    (case k_Board_turn_to => k_is)
    (case a_Board_load => k_is)
    (case i_Board_load => k_is)
    (case l_Board_load => k_is)
    (case c_Board_load => k_is)
    (case k_Board_load => k_is)
    (case a_board => k_is)
    (case l_board => k_is)
    (case c_board => k_is)
    (case k_board => k_is)
    (case a_pick => k_is)
    (case l_pick => k_is)
    (case c_pick => k_is)
    (case k_pick => k_is)
    (case a_det => k_is)
    (case l_det => k_is)
    (case c_det => k_is)
    (case k_det => k_is)
    (case a_grid => k_is)
    (case l_grid => k_is)
    (case c_grid => k_is)
    (case k_grid => k_is)
    (case a_trees => k_is)
    (case l_trees => k_is)
    (case c_trees => k_is)
    (case k_trees => k_is)
    (case a_whole => k_is)
    (case l_whole => k_is)
    (case c_whole => k_is)
    (case k_whole => k_is)
    (case a_row => k_is)
    (case l_row => k_is)
    (case c_row => k_is)
    (case k_row => k_is)
    (case a_stands => k_is)
    (case l_stands => k_is)
    (case c_stands => k_is)
    (case k_stands => k_is)
    (case a_law_k17 => k_is)
    (case l_law_k17 => k_is)
    (case c_law_k17 => k_is)
    (case k_law_k17 => k_is)
    (case pg_Board => k_is)
    (case hd_Board => k_is)
    (case po_Board => k_is)
    (case sa_Board => k_is)
    (case mk_Board => k_is)
    (case kc_Board => k_is)
    (case na_rows => k_is)
    (case na_turns => k_is)
    (case na_loads => k_is)
    (case na_steps => k_is)
    (case na_taken => k_is)
    (case gi_MOST_SITES => k_is)
    (case gi_MOST_EXITS => k_is)
    (case gi_PIT => k_is)
    (case gi_MOST_MARBLES => k_is)
    (case n_len => k_is)
    (case n_range => k_is)
    (case n_reversed => k_is)
    (case n_list => k_is)
    (case n_sum => k_is)
    (case n_int => k_is)
    (case n_isinstance => k_is)
    (case n_bool => k_is)
    (case a_cNoSite => k_is)
    (case x_NoSite => k_exc)
    (case k_NoSite => k_is)
    (case b_NoSite => k_is)
    (case t_NoSite => k_is)
    (case a_cNoExit => k_is)
    (case x_NoExit => k_exc)
    (case k_NoExit => k_is)
    (case b_NoExit => k_is)
    (case t_NoExit => k_is)
    (case a_cNoPlace => k_is)
    (case x_NoPlace => k_exc)
    (case k_NoPlace => k_is)
    (case b_NoPlace => k_is)
    (case t_NoPlace => k_is)
    (case a_cTooMany => k_is)
    (case x_TooMany => k_exc)
    (case k_TooMany => k_is)
    (case b_TooMany => k_is)
    (case t_TooMany => k_is)
