import PyProof.Rows.All
import Wide.All
import OpenK.AllK
import Wide.FinOn
import KE.KStateDown
import HandS.ForMost
import HandS.Defaults
import HandS.Head0
import HandS.Head1
import HandS.Head2
import HandS.HeadEnd
import HandS.HeadHook1
import HandS.HeadHook2
import PySem.Challenge.RW_numbertexts_k15_whole_texts_of_numbers
import HandS.Star
import HandS.FStr
import HandS.IntHex
import HandS.StrMore
import HandS.Wide
import HandS.WideBits
import HandS.IsInst
import HandS.Codes
import HandS.Style
import HandS.Zip
import PyProof.RulesMatch
import PyProof.Rows.StrIntSpec
import PyProof.Rows.StrPadFill
import KE.GoesMore
import PyProof.Draws
import PyProof.EnumMake
import HandS.MakeKwOnly
import HandS.TryOnly
/-! text W0 -/
set_option Elab.async false
set_option linter.all false
set_option maxRecDepth 100000
set_option maxHeartbeats 0
namespace NT
open PySem PySem.Spec PyProof.Rows L2
/-! the text by places, its defs as data, the facts that the walk leans on -/
abbrev pw : PySem.Program := PySem.Challenge.pw_numbertexts_k15_whole_texts_of_numbers
def ts (i : Nat) : Stmt := pw.main.body.getD i (.Pass ⟨0, 0, 0, 0⟩)
def dd (i : Nat) (x : Str) (kw : List (Str × He.Dv) := []) : He.DefD := ⟨(x, none), x, x, defArgs (ts i), defBody (ts i), defScope (ts i), [], kw⟩
def fnL0 : List He.DefD := [dd 5 "is_whole", dd 6 "is_between", dd 8 "half_of", dd 9 "count_of", dd 10 "parts_at", dd 11 "value_of", dd 13 "ten", dd 15 "plain_decimal", dd 16 "fraction_of", dd 18 "is_below", dd 19 "exponent_at", dd 20 "position_at", dd 21 "nearest", dd 22 "rounded_by", dd 23 "read_position", dd 24 "read_fraction"]
def fnL1 : List He.DefD := [dd 25 "read", dd 27 "whole_of", dd 28 "first_place", dd 29 "near_multiples", dd 30 "shortest", dd 40 "scan_digits", dd 41 "scan_power", dd 42 "scan_word", dd 43 "scan_decimal", dd 44 "scan_hex", dd 45 "parse_text", dd 46 "read_text", dd 47 "plain_digits", dd 48 "power_digits", dd 49 "number_text" [("style", .str "auto")], dd 50 "hex_text"]
def fnL2 : List He.DefD := [dd 52 "_law_deck", dd 53 "_law_draw", dd 54 "_law_form", dd 55 "_law_format", dd 56 "_law_plain", dd 57 "_law_due", dd 58 "_law_hex", dd 59 "_law_hex_due", dd 60 "_law_text_right", dd 61 "_law_hex_right", dd 62 "_law_exact", dd 63 "_law_decimals_right", dd 64 "_law_middle_right", dd 65 "law"]
def fnL : List He.DefD := fnL0 ++ (fnL1 ++ (fnL2))
def faL0 : List He.Fa := [.glo "is_whole", .glo "is_between", .glo "half_of", .glo "count_of", .glo "parts_at", .glo "value_of", .glo "ten", .glo "plain_decimal", .glo "fraction_of", .glo "is_below", .glo "exponent_at", .glo "position_at", .glo "nearest", .glo "rounded_by", .glo "read_position", .glo "read_fraction"]
def faL1 : List He.Fa := [.glo "read", .glo "whole_of", .glo "first_place", .glo "near_multiples", .glo "shortest", .glo "scan_digits", .glo "scan_power", .glo "scan_word", .glo "scan_decimal", .glo "scan_hex", .glo "parse_text", .glo "read_text", .glo "plain_digits", .glo "power_digits", .glo "number_text", .glo "hex_text"]
def faL2 : List He.Fa := [.glo "_law_deck", .glo "_law_draw", .glo "_law_form", .glo "_law_format", .glo "_law_plain", .glo "_law_due", .glo "_law_hex", .glo "_law_hex_due", .glo "_law_text_right", .glo "_law_hex_right", .glo "_law_exact", .glo "_law_decimals_right", .glo "_law_middle_right", .glo "law", .free "LookupError", .free "ValueError"]
def faL3 : List He.Fa := [.free "abs", .free "bool", .free "divmod", .free "enumerate", .free "int", .free "isinstance", .free "len", .free "max", .free "min", .free "range", .free "str", .free "super", .free "zip", .str "DIGITS" "0123456789", .str "HEX_DIGITS" "0123456789abcdef", .int "MOST_DIGITS" (1300)]
def faL4 : List He.Fa := [.int "MOST_HEX" (300), .int "MOST_POWER" (1200), .int "MOST_HEX_POWER" (1400), .int "LEAST_PLAIN" (-4), .int "FIRST_POWER" (16)]
def faL : List He.Fa := faL0 ++ (faL1 ++ (faL2 ++ (faL3 ++ (faL4))))
def nmL0 : List Str := ["NumberError", "BadText", "NoCode", "is_whole", "is_between", "half_of", "count_of", "parts_at", "value_of", "ten", "plain_decimal", "fraction_of", "is_below", "exponent_at", "position_at", "nearest"]
def nmL1 : List Str := ["rounded_by", "read_position", "read_fraction", "read", "whole_of", "first_place", "near_multiples", "shortest", "DIGITS", "HEX_DIGITS", "MOST_DIGITS", "MOST_HEX", "MOST_POWER", "MOST_HEX_POWER", "LEAST_PLAIN", "FIRST_POWER"]
def nmL2 : List Str := ["scan_digits", "scan_power", "scan_word", "scan_decimal", "scan_hex", "parse_text", "read_text", "plain_digits", "power_digits", "number_text", "hex_text", "_law_deck", "_law_draw", "_law_form", "_law_format", "_law_plain"]
def nmL3 : List Str := ["_law_due", "_law_hex", "_law_hex_due", "_law_text_right", "_law_hex_right", "_law_exact", "_law_decimals_right", "_law_middle_right"]
def nmL : List Str := nmL0 ++ (nmL1 ++ (nmL2 ++ (nmL3)))
end NT
/-! text Hd -/
set_option Elab.async false
set_option linter.all false
set_option maxRecDepth 100000
set_option maxHeartbeats 0
namespace NT
open PySem PySem.Spec PyProof.Rows L2
abbrev rowR : PySem.W.OpenRow := PySem.W.OpenLaw.row PySem.Challenge.rw_numbertexts_k15_whole_texts_of_numbers
def noDig (K : PySem.W.Frag) : Bool := He.eqO (PySem.W.nsIn K cStatics "sys.int_max_str_digits") (some none)
def partK (g : Addr → Option Obj) : PySem.W.Frag := He.frG g (cStatics :: He.asD g 4)
def seenK (g : Addr → Option Obj) : He.AlD × Bool := (He.obsD faL fnL (partK g), noDig (partK g))
def HeadSays (h : Heap) : Prop := ∃ K : PySem.W.Frag, K.In h ∧ He.SaysD faL fnL K ∧ noDig K = true
def hookN : PySem.W.Hook :=
  { α := He.AlD × Bool
    obs := fun s => seenK s.heap.get?
    val := fun _ => (He.valD fnL, true)
    says := fun _ h => HeadSays h
    of := fun _ s e => ⟨partK s.heap.get?, He.frG_in, congrArg Prod.fst e, congrArg Prod.snd e⟩
    keeps := fun _ _ _ x k => by
      obtain ⟨K, hK, c, d⟩ := x
      exact ⟨K, PySem.W.Frag.In.keeps hK k, c, d⟩ }
def lookN (s : PySem.W.SharedT) : He.AlD × Bool := seenK (HandSHeadRun.getT s)
theorem lookN_eq (s : PySem.W.SharedT) : lookN s = hookN.obs s.abs := by
  unfold lookN
  rw [show HandSHeadRun.getT s = s.abs.heap.get? from funext (HandSHeadRun.getT_eq s)]
  rfl
theorem runN (w : World) : HandSHeadRun.RunEq rowR (PySem.W.view rowR.prog [65]) hookN lookN 4000 nmL w := by
  intro os
  kernel_rfl
end NT
/-! text R0 -/
set_option Elab.async false
set_option linter.all false
set_option maxRecDepth 100000
set_option maxHeartbeats 2000000
namespace NT
open PySem PySem.Spec PyProof.Rows L2
/-! ### match over written texts -/
abbrev TM := V → TS
structure PM (X : Cx) (cs : List MatchCase) (t : TM) : Prop where
  run : ∀ (pins : List (Addr × Obj)) (s : Shared) (σ : L2.St) (H : Hp) (D : Ends) (v : V) (u : Value) (b : Bool), Inv X pins σ H s → RelV v u → t v D σ H →
    wpAny (model X.prog X.w) X.A (matchCases cs X.env u b) (SP X pins D) X.xe s
section
variable {X : Cx} {rest : List MatchCase} {body : List Stmt} {tb : TS} {tr : TM} {e : Expr} {te : TE} {pos p1 p2 : Pos}
def mStr (x : Str) (tb : TS) (tr : TM) : TM := fun v D σ H => ∃ z : Str, v = .str z ∧ ((z = x → tb D σ H) ∧ (z ≠ x → tr v D σ H))
theorem pm_str {x : Str} {j : Nat} (hb : PSs X body tb) (hr : PM X rest tr) : PM X (⟨.MatchValue (.Constant (.str x) j p1) p2, none, body⟩ :: rest) (mStr x tb tr) := by
  refine ⟨fun pins s σ H D v u b I r h => ?_⟩
  obtain ⟨z, rfl, h1, h2⟩ := h
  refine wpAny_matchCases_cons (wpAny_matchPattern_Value (Calls.Constant_str ?_))
  have I1 := I.tok (s.toks + 1)
  refine thn (op_eq pins _ σ H (.str z) (.str x) u _ (fun y H' => y = .bl (decide (V.str z = V.str x)) ∧ H' = H) I1 r ⟨_, rfl⟩ ⟨rfl, rfl, rfl⟩) fun c s2 hc => ?_
  obtain ⟨y, H2, I2, ry, rfl, rfl⟩ := hc
  cases ry
  refine wpAny_truthy_bool ?_
  by_cases hz : z = x
  · rw [decide_eq_true (show V.str z = V.str x by rw [hz]), if_pos rfl]
    exact wpAny_assignInOrder_none (hb.run pins s2 σ _ D I2 (h1 hz))
  · rw [decide_eq_false (show ¬ V.str z = V.str x from fun q => hz (V.str.inj q)), if_neg Bool.false_ne_true]
    exact hr.run pins s2 σ _ D (.str z) u false I2 r (h2 hz)
theorem pm_any (hb : PSs X body tb) : PM X (⟨.MatchAs none none p1, none, body⟩ :: rest) (fun _ => tb) := by
  refine ⟨fun pins s σ H D v u b I r h => ?_⟩
  refine wpAny_matchCases_cons (wpAny_matchPattern_Capture ?_)
  exact wpAny_assignInOrder_none (hb.run pins s σ H D I h)
def tMatch (te : TE) (tm : TM) : TS := fun D σ H => te σ H fun v H1 => tm v D σ H1
theorem ps_match {cs : List MatchCase} {tm : TM} (he : PE X e te) (hm : PM X cs tm) : PS X (.Match e cs pos) (tMatch te tm) := by
  refine ⟨fun pins s σ H D I h => ?_⟩
  refine wpAny_Match (thn (he.run pins s σ H _ I h) fun v s1 hv => ?_)
  obtain ⟨x, H1, I1, r1, q⟩ := hv
  exact hm.run pins s1 σ H1 D x v true I1 r1 q
end
/-! ### no digit limit is set -/
theorem noDigits_K {K : PySem.W.Frag} {h : Heap} (X : K.In h) (L : h.NoLimit) (c : PySem.W.nsIn K cStatics "sys.int_max_str_digits" = some none) : h.NoDigits := by
  obtain ⟨mc, G, _⟩ := L
  refine ⟨mc, G, ?_⟩
  obtain ⟨o, es, ep, ho, hd, _, hf⟩ := G
  unfold PySem.W.nsIn at c
  cases q : K.lookup cStatics with
  | none => rw [q] at c; cases c
  | some ob =>
    obtain ⟨oc, od, dt, osl⟩ := ob
    rw [q] at c
    have e2 := X _ _ q
    rw [ho] at e2
    cases e2
    cases hd
    have c2 : (match es.toList.find? (·.key.isStr "sys.int_max_str_digits") with
      | some e => some (some e.val)
      | none => if es.toList.any (·.refKey) then none else some none) = some none := c
    rw [← hf]
    unfold nsFind findBy
    rw [← Array.find?_toList]
    cases z : es.toList.find? (·.key.isStr "sys.int_max_str_digits") with
    | some en => rw [z] at c2; cases c2
    | none => rfl
/-! ### texts of numbers -/
/-- the decimal digits -/
def ds (n : Nat) : List Nat := (Nat.toDigits 10 n).map Char.toNat
def sd (i : Int) : List Nat := if i < 0 then 45 :: ds i.natAbs else ds i.natAbs
theorem str_ds (n : Nat) : (Str.ofString (toString ((n : Nat) : Int))) = SX.S (ds n) := by
  have e := PySem.W.KIN.signs_num n
  rw [← SX.S_tl (Str.ofString (toString ((n : Nat) : Int))), e]
  rfl
theorem str_sd (i : Int) : (Str.ofString (toString i)) = SX.S (sd i) := by
  unfold sd
  by_cases h : i < 0
  · rw [if_pos h, toString_neg h]
    have e : (0 : Int) - i = ((i.natAbs : Nat) : Int) := by omega
    rw [e]
    have e2 := str_ds i.natAbs
    have e3 : Str.ofString ("-" ++ toString ((i.natAbs : Nat) : Int)) = SX.S [45] ++ Str.ofString (toString ((i.natAbs : Nat) : Int)) := by
      rw [SX.S]
      apply TL.ext_tl
      rw [TL.tl_append]
      show (Str.ofString ("-" ++ toString ((i.natAbs : Nat) : Int))).cps.toList = [45] ++ (Str.ofString (toString ((i.natAbs : Nat) : Int))).cps.toList
      simp only [Str.ofString_eq_toList, String.toList_append]
      simp
    rw [e3, e2, SX.S_cat]
    rfl
  · rw [if_neg h]
    have e : i = ((i.natAbs : Nat) : Int) := by omega
    rw [e]
    have e2 := str_ds i.natAbs
    simpa using e2
section
variable {X : Cx}
/-- str(i) of any size below the limit -/
def rStrI : List V → Hp → VK → Prop := fun xs H Q => ∃ i : Int, xs = [.int i] ∧ i.natAbs < 10 ^ 4300 ∧ Q (.str (SX.S (sd i))) H
theorem call_strI (hc : X.calm = true) (nd : PySem.W.nsIn X.K cStatics "sys.int_max_str_digits" = some none) : CallR X (.type "str") rStrI := by
  intro pins s σ H xs us Q I r h
  obtain ⟨i, rfl, hz, q⟩ := h
  obtain ⟨u, rfl, t, rfl⟩ := vals1 r
  refine str_of_int_or (I.ok.hd hc) (noDigits_K I.kIn I.nolimit nd) (fun _ => ⟨.str _, H, I.tok _, ⟨_, rfl⟩, ?_⟩) (fun hge => absurd hz (Nat.not_lt.mpr hge))
  rw [str_sd]
  exact q
/-- text * int -/
def rMulS : R2 := fun x y H Q => ∃ (l : List Nat) (k : Int), x = .str (SX.S l) ∧ y = .int k ∧ k ≤ 100000 ∧ l.length ≤ 100 ∧ -(2 ^ 63) ≤ k ∧ Q (.str (SX.S (List.replicate k.toNat l).flatten)) H
theorem foldl_app (l : List Nat) : ∀ (n : Nat) (a : Array Nat), (List.replicate n l.toArray).foldl (· ++ ·) a = a ++ ((List.replicate n l).flatten).toArray
  | 0, a => by simp
  | n + 1, a => by
    rw [List.replicate_succ, List.foldl_cons, foldl_app l n, List.replicate_succ, List.flatten_cons]
    simp [Array.append_assoc]
theorem op_mulS : OpR X (binaryOp .Mult) rMulS := by
  intro pins s σ H x y v u Q I rx ry h
  obtain ⟨l, k, rfl, rfl, h1, h2, h3, q⟩ := h
  obtain ⟨t, rfl⟩ := rx
  obtain ⟨t', rfl⟩ := ry
  have hl : (SX.S l).length = l.length := SX.S_len l
  refine P.mul_str ?_ (fun hk _ => ?_) (fun hk _ => ?_) ?_
  · rw [decide_eq_false (show ¬ k < -(2 ^ 63 : Int) by omega), decide_eq_false (show ¬ k ≥ 2 ^ 63 by omega)]; rfl
  · rw [hl]
    have : (9223372036854775807 : Int) / k ≥ 9223372036854775807 / 100000 := by
      apply Int.le_ediv_of_mul_le (by omega)
      have : 9223372036854775807 / 100000 * k ≤ 9223372036854775807 / 100000 * 100000 := Int.mul_le_mul_of_nonneg_left h1 (by decide)
      omega
    have e : (2 ^ 63 - 1 : Int) = 9223372036854775807 := by decide
    rw [e]
    omega
  · rw [hl]
    unfold Builtin.Str.tooLong
    rw [sizeLine_eq]
    apply decide_eq_false
    have : l.length * k.toNat ≤ 100 * 100000 := Nat.mul_le_mul h2 (by omega)
    omega
  · by_cases hk : k < 1
    · rw [if_pos hk]
      refine ⟨by decide, .str _, H, I.tok _, ⟨_, rfl⟩, ?_⟩
      have e0 : k.toNat = 0 := by omega
      rw [e0] at q
      exact q
    · rw [if_neg hk]
      by_cases h1' : (k == 1 || (SX.S l).length == 0) = true
      · rw [if_pos h1']
        have e : (List.replicate k.toNat l).flatten = l := by
          rw [Bool.or_eq_true, beq_iff_eq, beq_iff_eq] at h1'
          rcases h1' with e | e
          · subst e
            show (List.replicate 1 l).flatten = l
            simp
          · have e0 : l = [] := by
              rw [hl] at e
              exact List.length_eq_zero_iff.mp e
            subst e0
            simp
        rw [e] at q
        exact ⟨.str _, H, I, ⟨_, rfl⟩, q⟩
      · rw [if_neg h1']
        have e : (⟨(List.replicate k.toNat (SX.S l).cps).foldl (· ++ ·) #[]⟩ : Str) = SX.S (List.replicate k.toNat l).flatten := by
          show (⟨(List.replicate k.toNat l.toArray).foldl (· ++ ·) #[]⟩ : Str) = _
          rw [foldl_app]
          simp [SX.S]
        rw [e]
        refine ⟨?_, .str _, H, I.tok _, ⟨_, rfl⟩, q⟩
        rw [SX.S_len, sizeLine_eq]
        have : (List.replicate k.toNat l).flatten.length = k.toNat * l.length := by simp
        rw [this]
        have : k.toNat * l.length ≤ 100000 * 100 := Nat.mul_le_mul (by omega) h2
        omega
end
end NT
/-! text R1 -/
set_option Elab.async false
set_option linter.all false
set_option maxRecDepth 100000
set_option maxHeartbeats 4000000
namespace NT
open PySem PySem.Spec PyProof.Rows L2 PySem.NumText
/-! ### int(text) of more than 640 signs -/
theorem lim_of {M : Model} {A : Around} {E : Value → Shared → Prop} {s : Shared} {Q : Nat → Shared → Prop} (hn : s.heap.NoDigits) (h : Q 4300 s) : wpAny M A Builtin.intMaxStrDigits Q E s := by
  obtain ⟨mc, hns, hnone⟩ := hn
  unfold Builtin.intMaxStrDigits
  refine wpAny_bind (wpAny_nsGet hns ?_)
  rw [hnone]
  exact wpAny_pure h
theorem wp_long {M : Model} {A : Around} {E : Value → Shared → Prop} {s : Shared} {Q : Value → Shared → Prop} {v : Value} {text : List Nat} {n : Int} (hn : s.heap.NoDigits)
    (hs : ¬ (text.takeWhile (· != 0)).length ≤ 640) (hr : (int_private% "readNumeral") 4300 10 (text.takeWhile (· != 0)) = (int_private% "Numeral.value") n)
    (ha : ((text.takeWhile (· != 0)).length == text.length) = true) (h : Q (.int n s.toks) { s with toks := s.toks + 1 }) :
    wpAny M A ((int_private% "intFromText") v text 10) Q E s := by
  obtain ⟨hp, g, d, tk, os⟩ := s
  repeat (any_goals (first
    | assumption
    | (with_reducible refine wpAny_ite_false (decide_eq_false hs) ?_)
    | (with_reducible refine wpAny_ite_true (decide_eq_true ha) ?_)
    | ((with_reducible show wpAny _ _ Builtin.intMaxStrDigits _ _ _); refine lim_of hn ?_)
    | wp_step))
  all_goals (try rw [hr])
  all_goals (try dsimp only)
  repeat (any_goals (first
    | assumption
    | (with_reducible refine wpAny_ite_false (decide_eq_false hs) ?_)
    | (with_reducible refine wpAny_ite_true (decide_eq_true ha) ?_)
    | wp_step))
def LongSpec (n : Int) : PySem.Spec := fun _ R s => s.heap.NoDigits ∧ R (.ok (.ret (.int n s.toks))) { s with toks := s.toks + 1 }
structure Hid3 (p : Prop) : Prop where
  out : p
theorem meets_long {x : PySem.Str} {u : Tok} {n : Int} (hl : ¬ (numSeenOf x).length ≤ 640) (hr : (int_private% "readNumeral") 4300 10 (numSeenOf x) = (int_private% "Numeral.value") n)
    (ha : ((numSeenOf x).length == (numTextOf x).length) = true) : Meets (Builtin.«int.__new__» ⟨[.type "int", .str x u], []⟩) (LongSpec n) :=
  Meets.of_wp fun prog w A R s hq => by
    obtain ⟨hp, g, d, tk, os⟩ := s
    have f1 := F.conv_sub_int
    have f2 := F.madeHere_int
    have f3 := PySem.W.KIN.str_int
    have f4 := PySem.W.KIN.str_idx
    have f5 := PySem.W.KIN.str_trunc
    have f6 : typeOf (.str x u) = pure (.type "str") := rfl
    obtain ⟨nd, hq⟩ := hq
    have nd2 := Hid3.mk nd
    have hk := Hid3.mk (And.intro hl (And.intro hr ha))
    clear hl hr ha nd
    repeat (any_goals (first
      | assumption
      | ((with_reducible show wpAny _ _ ((int_private% "intFromText") _ _ _) _ _ _); refine wp_long nd2.out hk.out.1 hk.out.2.1 hk.out.2.2 ?_)
      | wp_step))
    all_goals first | exact ⟨_, rfl, hq⟩ | skip
section
variable {X : Cx}
/-- int(text), a text of digits -/
def rIntD : List V → Hp → VK → Prop := fun xs H Q => ∃ l : List Nat, xs = [.str (SX.S l)] ∧ l ≠ [] ∧ AllDigits l ∧ l.length ≤ 4300 ∧ Q (.int ((digitsVal l : Nat) : Int)) H
theorem call_intD (nd : PySem.W.nsIn X.K cStatics "sys.int_max_str_digits" = some none) : CallR X (.type "int") rIntD := by
  intro pins s σ H xs us Q I r h
  obtain ⟨l, rfl, hne, hd, hz, q⟩ := h
  obtain ⟨u, rfl, t, rfl⟩ := vals1 r
  have hn : intText? (SX.S l) = some ((digitsVal l : Nat) : Int) := intText_digits (x := SX.S l) hd hne (by rw [SX.S_len]; exact hz)
  obtain ⟨e1, e2⟩ := numText_signs (x := SX.S l) fun c hc => Or.inr (hd c hc)
  by_cases hl : l.length ≤ 640
  · exact PySem.W.KIN.call_text hn (by rw [SX.S_len]; exact hl) ⟨.int _, H, I.tok _, ⟨_, rfl⟩, q⟩
  · rcases read4300 (SX.S l) (by rw [SX.S_len, sizeLine_eq]; omega) with ⟨n, h1, h2, h3⟩ | ⟨h1, _⟩
    · rw [hn] at h1
      have e : ((digitsVal l : Nat) : Int) = n := Option.some.inj h1
      subst e
      refine PySem.call_int_1 (meets_long ?_ h3 h2) ⟨noDigits_K I.kIn I.nolimit nd, rfl, .int _, H, I.tok _, ⟨_, rfl⟩, q⟩
      rw [e2]
      exact hl
    · rw [hn] at h1
      cases h1
end
end NT
/-! text R2 -/
set_option Elab.async false
set_option linter.all false
set_option maxRecDepth 100000
set_option maxHeartbeats 4000000
namespace NT
open PySem PySem.Spec PyProof.Rows L2 PySem.NumText
/-- hexadecimal digits -/
def hx (n : Nat) : List Nat := (Nat.toDigits 16 n).map Char.toNat
theorem hx_len (n : Nat) : (hx n).length ≤ n + 1 := by
  unfold hx
  rw [List.length_map]
  exact tDigits_len_le 16 n
theorem spec_x : ∃ f, Builtin.Float.parseFormatSpec [120] "int" 62 = .ok f ∧ f.type = some 120 ∧ f.precision = none ∧ f.noNeg0 = false ∧ f.alt = false ∧ f.width = none ∧ f.grouping = none ∧ f.sign = none ∧ f.align = 62 ∧ f.fill = 32 := by
  refine ⟨_, rfl, ?_⟩
  decide +kernel
theorem field_plain {f : Builtin.Float.FormatSpec} {ds : List Nat} (hw : f.width = none) (hg : f.grouping = none) (hs : f.sign = none) (ha : f.align = 62) (hf : f.fill = 32) (hne : ds ≠ []) (g : Nat) : intField' f false [] ds [] g = SX.S ds := by
  unfold intField'
  rw [hw, hg, hs, ha, hf]
  have e : ds.isEmpty = false := by cases ds with | nil => exact absurd rfl hne | cons _ _ => rfl
  simp only [e, Bool.false_eq_true, if_false]
  simp
theorem fmt_x {prog : Program} {w : World} {A : Around} {E : Value → Shared → Prop} {s : Shared} {Q : Value → Shared → Prop} (n : Nat) (t : Tok) (hz : (hx n).length ≤ 100000)
    (q : Q (.str (SX.S (hx n)) (s.toks + 1)) { s with toks := s.toks + 1 + 1 }) : wpAny (model prog w) A (formatField (.int (n : Int) t) (SX.S [120])) Q E s := by
  obtain ⟨f, hp, h1, h2, h3, h4, h5, h6, h7, h8, h9⟩ := spec_x
  have hfit : (SX.S (hx n)).length ≤ sizeLine := by
    rw [SX.S_len, sizeLine_eq]
    omega
  have hne : hx n ≠ [] := by
    have := tDigits_len_ge 16 n
    intro z
    have : (hx n).length = 0 := by rw [z]; rfl
    unfold hx at this
    rw [List.length_map] at this
    omega
  show wpAny _ _ (holding [.int (n : Int) t] (pyFormat (.int (n : Int) t) (SX.S [120]))) Q E s
  refine wpAny_holding (show wpAny (model prog w) A (pyFormat (.int (n : Int) t) (SX.S [120])) Q E s from ?_)
  unfold pyFormat
  refine wpAny_bind (wpAny_mkStr ?_ (by decide))
  refine wpAny_bind (m := callSpecial? (.int (n : Int) t) (Str.ofString "__format__") [.str (SX.S [120]) s.toks]) ?_
  refine wpAny_callSpecial?_slot (name := Str.ofString "__format__") (typeIs_int _ (n : Int) t) slot_int_format (wpAny_call ?_)
  refine codeAny_call_builtin slot_int_format.plain entry_int_format (slot_int_format.check _ _ _ _ _ _ _ _ (typeIs_int _ (n : Int) t) (args_int_format _ _) ?_)
  unfold Builtin.«int.__format__»
  have g1 : ((SX.S [120]).length == 0) = false := by decide
  have g2 : (((SX.S [120]).cps.toList.drop 1).any (· ≥ 128) || ((SX.S [120]).cps.getD 0 0 ≥ 128 && !([60, 62, 61, 94] : List Nat).contains ((SX.S [120]).cps.getD 1 0))) = false := by decide
  simp only [selfAndOne, noKeywords, Builtin.Int.intOfSelf, asInt?, asStr?, List.isEmpty_nil, if_true, pure_bind, bind_pure, bind_assoc, g1, g2, Bool.false_eq_true, if_false, show (Value.str (SX.S [120]) s.toks == Value.none) = false from rfl]
  refine wpAny_bind (wpAny_typeNameOf (T := "str") (typeIs_str _ _ _) (by decide) fun _ => ?_)
  first | refine wpAny_bind (wpAny_typeNameOfCut_int ?_) | refine wpAny_bind (wpAny_typeNameOf_int ?_)
  have hp2 : Builtin.Float.parseFormatSpec (SX.S [120]).cps.toList "int" 62 = .ok f := hp
  simp only [hp2, h1]
  rw [if_pos (by decide)]
  show wpAny _ _ (if _ then _ else _) _ _ _
  rw [if_neg (by rw [h2]; decide)]
  show wpAny _ _ (if _ then _ else _) _ _ _
  rw [if_neg (by rw [h3]; decide)]
  show wpAny _ _ (if _ then _ else _) _ _ _
  rw [if_neg (by decide)]
  show wpAny _ _ (if _ then _ else _) _ _ _
  rw [if_neg (by decide)]
  show wpAny _ _ (if _ then _ else _) _ _ _
  rw [if_neg (by rw [h5]; decide)]
  have key : intField' f (decide ((n : Int) < 0)) [] ((Nat.toDigits 16 (n : Int).natAbs).map fun c => (if ((120 : Nat) == 88) = true then c.toUpper else c).toNat) [] 4 = SX.S (hx n) := by
    rw [show decide ((n : Int) < 0) = false from decide_eq_false (by omega)]
    exact field_plain h5 h6 h7 h8 h9 hne 4
  unfold intField' at key
  rw [h6, h7] at key
  show wpAny _ _ (retStr _) _ _ _
  unfold retStr
  refine wpAny_bind (wpAny_mkStr (wpAny_pure ?_) ?hz2)
  case hz2 =>
    simp only [h4, Bool.false_eq_true, if_false]
    conv => lhs; arg 1; whnf
    rw [h6, h7]
    exact Nat.le_trans (Nat.le_of_eq (congrArg PySem.Str.length key)) hfit
  dsimp only
  refine wpAny_bind (wpAny_isInstance (typeIs_str _ _ _) isSubtype_str_str (wpAny_pure ?_))
  simp only [h4, Bool.false_eq_true, if_false]
  conv => arg 1; arg 1; whnf
  rw [h6, h7]
  have q2 := q
  rw [← key] at q2
  exact q2
section
variable {X : Cx}
/-- {n:x} -/
def tFmtX (te : TE) : TE := fun σ H Q => te σ H fun x H1 => ∃ n : Nat, x = .int (n : Int) ∧ (hx n).length ≤ 100000 ∧ Q (.str (SX.S (hx n))) H1
theorem pe_fmtX {e : Expr} {te : TE} {pos p1 p2 : Pos} {k : Nat} (he : PE X e te) : PE X (.FormattedValue e (-1) (some (.JoinedStr [.Constant (.str "x") k p1] p2)) pos) (tFmtX te) := by
  refine ⟨fun pins s σ H Q I h => ?_⟩
  refine wpAny_FormattedValue_spec (thn (he.run pins s σ H _ I h) fun v s1 hv => ?_)
  obtain ⟨x, H1, I1, r1, n, rfl, hz, q⟩ := hv
  obtain ⟨t, rfl⟩ := r1
  refine wpAny_JoinedStr_one (Calls.Constant_str ?_)
  refine ⟨_, _, rfl, ?_⟩
  exact fmt_x n t hz ⟨.str _, H1, I1.tok _, ⟨_, rfl⟩, q⟩
end
end NT
/-! text M1 -/
set_option Elab.async false
namespace NT
/-- two to the part of e above zero -/
def p2 (e : Int) : Nat := 2 ^ e.toNat
theorem p2_pos (e : Int) : 0 < p2 e := Nat.two_pow_pos _
theorem p2_ge {e : Int} (h : e ≤ 0) : p2 e = 1 := by
  unfold p2
  rw [Int.toNat_of_nonpos h]
theorem p2_add {a b : Int} (ha : 0 ≤ a) (hb : 0 ≤ b) : p2 (a + b) = p2 a * p2 b := by
  unfold p2
  rw [Int.toNat_add ha hb, Nat.pow_add]
/-- 2^a * 2^b = 2^(a+b), with the parts below zero on the other side -/
theorem p2_mix (a b : Int) : p2 a * p2 b * p2 (-(a + b)) = p2 (a + b) * (p2 (-a) * p2 (-b)) := by
  unfold p2
  simp only [← Nat.pow_add]
  congr 1
  omega
/-- n / d is below 2 ^ k -/
def below (n d : Nat) (k : Int) : Prop := n * p2 (-k) < d * p2 k
instance (n d : Nat) (k : Int) : Decidable (below n d k) := Nat.decLt _ _
theorem below_mono {n d : Nat} {a b : Int} (h : a ≤ b) (x : below n d a) : below n d b := by
  unfold below at *
  have e := p2_mix a (b - a)
  rw [show a + (b - a) = b by omega, show -(b - a) = a - b by omega, p2_ge (show a - b ≤ 0 by omega)] at e
  rw [Nat.mul_one] at e
  have h1 := p2_pos (-a)
  have h2 := p2_pos (b - a)
  have h3 := p2_pos (-b)
  -- n * p2(-b) * p2(-a) < d * p2 a * p2(-b)<= d * p2 a * p2 (b-a) * p2(-b) = d * p2 b * p2(-a)
  have k1 : n * p2 (-b) * p2 (-a) < d * p2 b * p2 (-a) := by
    calc n * p2 (-b) * p2 (-a) = (n * p2 (-a)) * p2 (-b) := by grind
      _ < (d * p2 a) * p2 (-b) := Nat.mul_lt_mul_of_pos_right x h3
      _ ≤ (d * p2 a) * p2 (-b) * p2 (b - a) := Nat.le_mul_of_pos_right _ h2
      _ = d * (p2 a * p2 (b - a) * p2 (-b)) := by grind
      _ = d * p2 b * p2 (-a) := by rw [e]; grind
  exact Nat.lt_of_mul_lt_mul_right k1
theorem below_lt {n d : Nat} {a b : Int} (x : below n d b) (y : ¬ below n d a) : a < b := by
  rcases Int.lt_or_le a b with h | h
  · exact h
  · exact absurd (below_mono h x) y
/-- the same value, the same answer -/
theorem below_same {n d n' d' : Nat} {k : Int} (hd : 0 < d) (hd' : 0 < d') (h : n * d' = n' * d) (x : below n d k) : below n' d' k := by
  unfold below at *
  have k1 : n' * p2 (-k) * d < d' * p2 k * d := by
    calc n' * p2 (-k) * d = (n * p2 (-k)) * d' := by grind
      _ < (d * p2 k) * d' := Nat.mul_lt_mul_of_pos_right x hd'
      _ = d' * p2 k * d := by grind
  exact Nat.lt_of_mul_lt_mul_right k1

/-! ### formats -/
structure Fm where
  p : Nat
  lo : Int
  hi : Int
structure Fm.Ok (f : Fm) : Prop where
  p1 : 1 ≤ f.p
  lh : f.lo ≤ f.hi
def Fm.half (f : Fm) : Nat := 2 ^ (f.p - 1)
theorem Fm.half_pos (f : Fm) : 0 < f.half := Nat.two_pow_pos _
theorem Fm.Ok.two {f : Fm} (h : f.Ok) : 2 ^ f.p = 2 * f.half := by
  unfold Fm.half
  have := h.p1
  rw [show f.p = (f.p - 1) + 1 by omega, Nat.pow_succ, Nat.add_sub_cancel, Nat.mul_comm]
def Fm.N (f : Fm) : Nat := (f.hi - f.lo + 2).toNat * f.half
def Fm.more (f : Fm) (c : Nat) : Nat := c / f.half - 1
def Fm.m (f : Fm) (c : Nat) : Nat := c - f.more c * f.half
def Fm.e (f : Fm) (c : Nat) : Int := f.lo + f.more c

/-- how many bits -/
def bl (n : Nat) : Nat := if n = 0 then 0 else n.log2 + 1
/-- the exponent of the numbers next to n / d -/
def Fm.expo (f : Fm) (n d : Nat) : Int :=
  if below n d (f.p + f.lo) then f.lo
  else if below n d (f.p + f.hi) then
    ((bl n : Int) - bl d) - f.p + (if below n d ((bl n : Int) - bl d) then 0 else 1)
  else f.hi
/-- what makes the exponent -/
structure Fm.IsE (f : Fm) (n d : Nat) (e : Int) : Prop where
  l : f.lo ≤ e
  h : e ≤ f.hi
  a : e = f.lo ∨ ¬ below n d (f.p - 1 + e)
  b : e = f.hi ∨ below n d (f.p + e)
theorem Fm.IsE.uniq {f : Fm} {n d : Nat} {e e' : Int} (x : f.IsE n d e) (y : f.IsE n d e') : e = e' := by
  have go : ∀ {e e' : Int}, f.IsE n d e → f.IsE n d e' → ¬ e < e' := by
    intro e e' x y h
    rcases x.b with b | b
    · have := y.h; omega
    · rcases y.a with a | a
      · have := x.l; omega
      · have := below_lt b a; omega
  have h1 := go x y
  have h2 := go y x
  omega
theorem bl_lt (n : Nat) : n < 2 ^ bl n := by
  unfold bl
  split
  · omega
  · exact Nat.lt_log2_self
theorem bl_le {n : Nat} (h : 0 < n) : 2 ^ bl n ≤ 2 * n := by
  unfold bl
  rw [if_neg (by omega), Nat.pow_succ]
  have := Nat.log2_self_le (n := n) (by omega)
  omega
/-- n / d < 2 ^ (bl n - bl d + 1) -/
theorem bl_below {n d : Nat} (hd : 0 < d) : below n d ((bl n : Int) - bl d + 1) := by
  unfold below
  have h1 := bl_lt n
  have h2 := bl_le hd
  generalize bl n = x at *
  generalize bl d = y at *
  unfold p2
  rcases Nat.lt_or_ge x y with h | h
  · -- x - y + 1 ≤ 0
    have e1 : (-((x : Int) - y + 1)).toNat + (x + 1) = y := by omega
    have e2 : ((x : Int) - y + 1).toNat = 0 := by omega
    rw [e2, Nat.pow_zero, Nat.mul_one]
    have : n * 2 ^ (-((x : Int) - y + 1)).toNat < 2 ^ x * 2 ^ (-((x : Int) - y + 1)).toNat := Nat.mul_lt_mul_of_pos_right h1 (Nat.two_pow_pos _)
    rw [← Nat.pow_add] at this
    have e3 : 2 ^ y = 2 * 2 ^ (x + (-((x : Int) - y + 1)).toNat) := by
      rw [← e1]
      rw [show (-((x : Int) - y + 1)).toNat + (x + 1) = (x + (-((x : Int) - y + 1)).toNat) + 1 by omega, Nat.pow_succ, Nat.mul_comm]
      congr 3
      omega
    omega
  · have e1 : (-((x : Int) - y + 1)).toNat = 0 := by omega
    have e2 : ((x : Int) - y + 1).toNat + y = x + 1 := by omega
    rw [e1, Nat.pow_zero, Nat.mul_one]
    have h3 : 2 ^ y * 2 ^ ((x : Int) - y + 1).toNat ≤ 2 * d * 2 ^ ((x : Int) - y + 1).toNat := Nat.mul_le_mul_right _ h2
    rw [← Nat.pow_add, Nat.add_comm, e2, Nat.pow_succ] at h3
    generalize 2 ^ ((x : Int) - y + 1).toNat = z at *
    have : 2 * d * z = 2 * (d * z) := by grind
    omega
/-- 2 ^ (bl n - bl d - 1) ≤ n / d -/
theorem bl_above {n d : Nat} (hn : 0 < n) : ¬ below n d ((bl n : Int) - bl d - 1) := by
  unfold below
  have h1 := bl_lt d
  have h2 := bl_le hn
  generalize bl n = x at *
  generalize bl d = y at *
  unfold p2
  rcases Nat.lt_or_ge x (y + 1) with h | h
  · have e1 : (-((x : Int) - y - 1)).toNat + x = y + 1 := by omega
    have e2 : ((x : Int) - y - 1).toNat = 0 := by omega
    rw [e2, Nat.pow_zero, Nat.mul_one]
    have h3 : 2 ^ x * 2 ^ (-((x : Int) - y - 1)).toNat ≤ 2 * n * 2 ^ (-((x : Int) - y - 1)).toNat := Nat.mul_le_mul_right _ h2
    rw [← Nat.pow_add, Nat.add_comm, e1, Nat.pow_succ] at h3
    generalize 2 ^ (-((x : Int) - y - 1)).toNat = z at *
    have : 2 * n * z = 2 * (n * z) := by grind
    omega
  · have e1 : (-((x : Int) - y - 1)).toNat = 0 := by omega
    have e2 : ((x : Int) - y - 1).toNat + (y + 1) = x := by omega
    rw [e1, Nat.pow_zero, Nat.mul_one]
    have : d * 2 ^ ((x : Int) - y - 1).toNat < 2 ^ y * 2 ^ ((x : Int) - y - 1).toNat := Nat.mul_lt_mul_of_pos_right h1 (Nat.two_pow_pos _)
    rw [← Nat.pow_add] at this
    have e3 : 2 ^ x = 2 * 2 ^ (y + ((x : Int) - y - 1).toNat) := by
      rw [show x = (y + ((x : Int) - y - 1).toNat) + 1 by omega, Nat.pow_succ, Nat.mul_comm]
      congr 3
      omega
    omega
theorem Fm.expo_is {f : Fm} (ok : f.Ok) {n d : Nat} (hd : 0 < d) : f.IsE n d (f.expo n d) := by
  have lh := ok.lh
  have p1 := ok.p1
  unfold Fm.expo
  split
  · rename_i h
    exact ⟨by omega, lh, .inl rfl, .inr h⟩
  · rename_i h
    split
    · rename_i h2
      have hn : 0 < n := by
        rcases Nat.eq_zero_or_pos n with z | z
        · subst z
          refine absurd ?_ h
          unfold below
          rw [Nat.zero_mul]
          exact Nat.mul_pos hd (p2_pos _)
        · exact z
      have b1 := bl_below (n := n) hd
      have b2 := bl_above (d := d) hn
      generalize (bl n : Int) - bl d = w at *
      split
      · rename_i h3
        have q1 := below_lt h3 h
        have q2 := below_lt h2 b2
        refine ⟨by omega, by omega, .inr ?_, .inr ?_⟩
        · rw [show (f.p : Int) - 1 + (w - f.p + 0) = w - 1 by omega]; exact b2
        · rw [show (f.p : Int) + (w - f.p + 0) = w by omega]; exact h3
      · rename_i h3
        have q1 := below_lt b1 h
        have q2 := below_lt h2 h3
        refine ⟨by omega, by omega, .inr ?_, .inr ?_⟩
        · rw [show (f.p : Int) - 1 + (w - f.p + 1) = w by omega]; exact h3
        · rw [show (f.p : Int) + (w - f.p + 1) = w + 1 by omega]; exact b1
    · rename_i h2
      refine ⟨lh, by omega, .inr fun z => h2 (below_mono (by omega) z), .inl rfl⟩
theorem Fm.IsE.same {f : Fm} {n d n' d' : Nat} {e : Int} (hd : 0 < d) (hd' : 0 < d') (h : n * d' = n' * d) (x : f.IsE n d e) : f.IsE n' d' e :=
  ⟨x.l, x.h, x.a.imp_right fun a z => a (below_same hd' hd h.symm z), x.b.imp_right fun b => below_same hd hd' h b⟩
theorem Fm.expo_same {f : Fm} (ok : f.Ok) {n d n' d' : Nat} (hd : 0 < d) (hd' : 0 < d') (h : n * d' = n' * d) : f.expo n d = f.expo n' d' :=
  ((f.expo_is ok hd).same hd hd' h).uniq (f.expo_is ok hd')
end NT
/-! text M2 -/
set_option Elab.async false
set_option linter.all false
namespace NT
inductive Way where
  | even | away | zero | out | odd
  deriving DecidableEq
/-- the integer nearest to n / d, of two the even one -/
def nearest (n d : Nat) : Nat := n / d + (if 2 * (n % d) > d ∨ (2 * (n % d) = d ∧ n / d % 2 = 1) then 1 else 0)
def Way.rnd (w : Way) (n d : Nat) : Nat := match w with
  | .even => nearest n d
  | .away => (2 * n + d) / (2 * d)
  | .zero => n / d
  | .out => (n + d - 1) / d
  | .odd => if n % d = 0 then n / d else n / d ||| 1
/-- the same from the floor k and the rest r -/
def Way.rc (w : Way) (k r d : Nat) : Nat := match w with
  | .even => k + (if 2 * r > d ∨ (2 * r = d ∧ k % 2 = 1) then 1 else 0)
  | .away => k + (if d ≤ 2 * r then 1 else 0)
  | .zero => k
  | .out => k + (if r = 0 then 0 else 1)
  | .odd => if r = 0 then k else k + (1 - k % 2)
theorem or_one (k : Nat) : k ||| 1 = k + (1 - k % 2) := by
  apply Nat.eq_of_testBit_eq
  intro i
  rw [Nat.testBit_or]
  rcases Nat.mod_two_eq_zero_or_one k with h | h
  · rw [h]
    have e : k + (1 - 0) = 2 * (k / 2) + 1 := by omega
    rw [e]
    cases i with
    | zero => simp
    | succ i =>
      simp only [Nat.testBit_succ]
      rw [show (2 * (k / 2) + 1) / 2 = k / 2 by omega]
      simp
  · rw [h]
    cases i with
    | zero => simp [h]
    | succ i => simp [Nat.testBit_succ]
theorem Way.rnd_rc (w : Way) {n d : Nat} (hd : 0 < d) : w.rnd n d = w.rc (n / d) (n % d) d := by
  have hr := Nat.mod_lt n hd
  have hn := Nat.div_add_mod n d
  cases w with
  | even => rfl
  | zero => rfl
  | odd =>
    show (if n % d = 0 then n / d else n / d ||| 1) = _
    rw [or_one]
    rfl
  | away =>
    show (2 * n + d) / (2 * d) = n / d + (if d ≤ 2 * (n % d) then 1 else 0)
    generalize n / d = k at *
    generalize n % d = r at *
    subst hn
    split
    · apply Nat.div_eq_of_lt_le
      · grind
      · grind
    · apply Nat.div_eq_of_lt_le
      · grind
      · grind
  | out =>
    show (n + d - 1) / d = n / d + (if n % d = 0 then 0 else 1)
    generalize n / d = k at *
    generalize n % d = r at *
    subst hn
    split
    · rename_i h
      subst h
      rw [Nat.add_zero, Nat.add_zero]
      apply Nat.div_eq_of_lt_le
      · have : k * d = d * k := Nat.mul_comm _ _
        omega
      · have : (k + 1) * d = d * k + d := by grind
        omega
    · apply Nat.div_eq_of_lt_le
      · have : (k + 1) * d = d * k + d := by grind
        omega
      · have : (k + 1 + 1) * d = d * k + d + d := by grind
        omega
theorem div_same {n d n' d' : Nat} (hd : 0 < d) (hd' : 0 < d') (h : n * d' = n' * d) : n' / d' = n / d ∧ n' % d' * d = n % d * d' := by
  have hr := Nat.mod_lt n hd
  have hn := Nat.div_add_mod n d
  have e : n' / d' = n / d := by
    apply Nat.div_eq_of_lt_le
    · refine Nat.le_of_mul_le_mul_right (c := d) ?_ hd
      rw [← h]
      calc n / d * d' * d = (d * (n / d)) * d' := by grind
        _ ≤ n * d' := Nat.mul_le_mul_right _ (by omega)
    · refine Nat.lt_of_mul_lt_mul_right (a := d) ?_
      rw [← h]
      calc n * d' < (d * (n / d) + d) * d' := Nat.mul_lt_mul_of_pos_right (by omega) hd'
        _ = (n / d + 1) * d' * d := by grind
  refine ⟨e, ?_⟩
  have hn' := Nat.div_add_mod n' d'
  rw [e] at hn'
  generalize n / d = k at *
  generalize n % d = r at *
  generalize n' % d' = r' at *
  have : n * d' = d * k * d' + r * d' := by rw [← hn]; grind
  have : n' * d = d * k * d' + r' * d := by rw [← hn']; grind
  omega
theorem Way.rc_same (w : Way) {k r d r' d' : Nat} (hd : 0 < d) (hd' : 0 < d') (h : r' * d = r * d') : w.rc k r d = w.rc k r' d' := by
  have i0 : r = 0 ↔ r' = 0 := by
    constructor
    · intro z
      subst z
      rw [Nat.zero_mul] at h
      rcases Nat.mul_eq_zero.mp h with z | z
      · exact z
      · omega
    · intro z
      subst z
      rw [Nat.zero_mul] at h
      rcases Nat.mul_eq_zero.mp h.symm with z | z
      · exact z
      · omega
  have key : ∀ {a b : Nat}, (2 * r' * d = 2 * r * d') := by
    intro a b
    grind
  have key := @key 0 0
  have il : d < 2 * r ↔ d' < 2 * r' := by
    constructor
    · intro z
      refine Nat.lt_of_mul_lt_mul_right (a := d) ?_
      rw [key, Nat.mul_comm d' d]
      exact Nat.mul_lt_mul_of_pos_right z hd'
    · intro z
      refine Nat.lt_of_mul_lt_mul_right (a := d') ?_
      rw [← key, Nat.mul_comm d d']
      exact Nat.mul_lt_mul_of_pos_right z hd
  have ie : 2 * r = d ↔ 2 * r' = d' := by
    constructor
    · intro z
      refine Nat.eq_of_mul_eq_mul_right hd ?_
      rw [key, z, Nat.mul_comm]
    · intro z
      refine Nat.eq_of_mul_eq_mul_right hd' ?_
      rw [← key, z, Nat.mul_comm]
  have ile : d ≤ 2 * r ↔ d' ≤ 2 * r' := by omega
  cases w with
  | even => simp only [Way.rc, gt_iff_lt, il, ie]
  | away => simp only [Way.rc, ile]
  | zero => rfl
  | out => simp only [Way.rc, i0]
  | odd => simp only [Way.rc, i0]
theorem Way.rnd_same (w : Way) {n d n' d' : Nat} (hd : 0 < d) (hd' : 0 < d') (h : n * d' = n' * d) : w.rnd n d = w.rnd n' d' := by
  obtain ⟨e1, e2⟩ := div_same hd hd' h
  rw [w.rnd_rc hd, w.rnd_rc hd', e1]
  exact w.rc_same hd hd' e2
theorem le_same {n d n' d' t : Nat} (hd : 0 < d) (h : n * d' = n' * d) (x : n ≤ t * d) : n' ≤ t * d' := by
  refine Nat.le_of_mul_le_mul_right (c := d) ?_ hd
  rw [← h]
  calc n * d' ≤ t * d * d' := Nat.mul_le_mul_right _ x
    _ = t * d' * d := by grind

/-! ### reading -/
def Fm.whole (f : Fm) (n d : Nat) : Nat := d * p2 (f.expo n d)
def Fm.part (f : Fm) (n d : Nat) : Nat := (f.expo n d - f.lo).toNat * f.half * f.whole n d + n * p2 (-(f.expo n d))
def Fm.readPos (f : Fm) (w : Way) (n d : Nat) : Nat :=
  if n ≤ (f.N - 1) * d then w.rnd n d
  else match w with
    | .zero => f.N - 1
    | .odd => (f.N - 1) ||| 1
    | _ => min (f.N - 1 + 1) (w.rnd n d)
def Fm.read (f : Fm) (w : Way) (n d : Nat) : Nat := f.readPos w (f.part n d) (f.whole n d)
theorem Fm.whole_pos (f : Fm) {n d : Nat} (hd : 0 < d) : 0 < f.whole n d := Nat.mul_pos hd (p2_pos _)
theorem Fm.readPos_same {f : Fm} (w : Way) {n d n' d' : Nat} (hd : 0 < d) (hd' : 0 < d') (h : n * d' = n' * d) : f.readPos w n d = f.readPos w n' d' := by
  unfold Fm.readPos
  rw [w.rnd_same hd hd' h]
  have i : n ≤ (f.N - 1) * d ↔ n' ≤ (f.N - 1) * d' := ⟨le_same hd h, le_same hd' h.symm⟩
  simp only [i]
/-- only the value counts -/
theorem Fm.read_same {f : Fm} (ok : f.Ok) (w : Way) {n d n' d' : Nat} (hd : 0 < d) (hd' : 0 < d') (h : n * d' = n' * d) : f.read w n d = f.read w n' d' := by
  unfold Fm.read
  refine Fm.readPos_same w (f.whole_pos hd) (f.whole_pos hd') ?_
  have e := f.expo_same ok hd hd' h
  unfold Fm.part Fm.whole
  rw [← e]
  generalize p2 (f.expo n d) = x
  generalize p2 (-(f.expo n d)) = y
  generalize (f.expo n d - f.lo).toNat * f.half = z
  have : n * y * (d' * x) = n' * y * (d * x) := by
    calc n * y * (d' * x) = (n * d') * (x * y) := by grind
      _ = n' * y * (d * x) := by rw [h]; grind
  grind

/-! ### codes -/
theorem Fm.code_split (f : Fm) (c : Nat) : f.more c * f.half + f.m c = c := by
  unfold Fm.m Fm.more
  have h1 := f.half_pos
  have h2 : (c / f.half - 1) * f.half ≤ c := Nat.le_trans (Nat.mul_le_mul_right _ (Nat.sub_le _ _)) (Nat.div_mul_le_self _ _)
  omega
theorem Fm.m_lt {f : Fm} (ok : f.Ok) (c : Nat) : f.m c < 2 ^ f.p := by
  rw [ok.two]
  unfold Fm.m Fm.more
  have h1 := f.half_pos
  have h2 := Nat.div_add_mod c f.half
  have h3 := Nat.mod_lt c h1
  generalize f.half = x at *
  generalize c / x = k at *
  generalize c % x = r at *
  subst h2
  cases k with
  | zero => simp; omega
  | succ k =>
    rw [Nat.add_sub_cancel]
    have : x * (k + 1) + r = k * x + x + r := by grind
    omega
theorem Fm.m_ge {f : Fm} {c : Nat} (h : f.more c ≠ 0) : f.half ≤ f.m c := by
  unfold Fm.m Fm.more at *
  have h2 := Nat.div_add_mod c f.half
  generalize f.half = x at *
  generalize c / x = k at *
  generalize c % x = r at *
  subst h2
  cases k with
  | zero => simp at h
  | succ k =>
    rw [Nat.add_sub_cancel]
    have : x * (k + 1) + r = k * x + x + r := by grind
    omega
theorem Fm.e_lo (f : Fm) (c : Nat) : f.lo ≤ f.e c := by unfold Fm.e; omega
theorem Fm.e_hi {f : Fm} (ok : f.Ok) {c : Nat} (h : c < f.N) : f.e c ≤ f.hi := by
  unfold Fm.e Fm.more
  have lh := ok.lh
  have : c / f.half < (f.hi - f.lo + 2).toNat := Nat.div_lt_of_lt_mul (by rw [Nat.mul_comm]; exact h)
  omega
/-- n / d is (a / t) * 2 ^ e -/
def Is2 (n d a t : Nat) (e : Int) : Prop := n * t * p2 (-e) = a * d * p2 e
theorem below_is {n d a t : Nat} {e : Int} (hd : 0 < d) (ht : 0 < t) (h : Is2 n d a t e) (k : Int) : below n d (k + e) ↔ below a t k := by
  have mx := p2_mix k e
  unfold below
  unfold Is2 at h
  have q1 : 0 < t * p2 (-e) * p2 (-k) := Nat.mul_pos (Nat.mul_pos ht (p2_pos _)) (p2_pos _)
  have q2 : 0 < d * p2 e * p2 (-(k + e)) := Nat.mul_pos (Nat.mul_pos hd (p2_pos _)) (p2_pos _)
  have e1 : n * p2 (-(k + e)) * (t * p2 (-e) * p2 (-k)) = a * p2 (-k) * (d * p2 e * p2 (-(k + e))) := by
    calc _ = (n * t * p2 (-e)) * (p2 (-(k + e)) * p2 (-k)) := by grind
      _ = _ := by rw [h]; grind
  have e2 : d * p2 (k + e) * (t * p2 (-e) * p2 (-k)) = t * p2 k * (d * p2 e * p2 (-(k + e))) := by
    calc _ = (p2 (k + e) * (p2 (-k) * p2 (-e))) * (d * t) := by grind
      _ = _ := by rw [← mx]; grind
  constructor
  · intro z
    have := Nat.mul_lt_mul_of_pos_right z q1
    rw [e1, e2] at this
    exact Nat.lt_of_mul_lt_mul_right this
  · intro z
    have := Nat.mul_lt_mul_of_pos_right z q2
    rw [← e1, ← e2] at this
    exact Nat.lt_of_mul_lt_mul_right this
/-- between the numbers with the codes c and c + 1: the value (m + s / t) * 2 ^ e -/
theorem Fm.read_at {f : Fm} (ok : f.Ok) (w : Way) {c n d s t : Nat} (hc : c < f.N) (hd : 0 < d) (hst : s < t) (h : Is2 n d (f.m c * t + s) t (f.e c)) : f.read w n d = w.rc c s t := by
  have ht : 0 < t := by omega
  have hm := f.m_lt ok c
  have hE : f.IsE n d (f.e c) := by
    refine ⟨f.e_lo c, f.e_hi ok hc, ?_, .inr ?_⟩
    · by_cases z : f.more c = 0
      · left
        unfold Fm.e
        rw [z]
        simp
      · right
        rw [below_is hd ht h]
        have := f.m_ge z
        unfold below
        have p1 := ok.p1
        rw [p2_ge (show -((f.p : Int) - 1) ≤ 0 by omega), Nat.mul_one]
        have e : p2 ((f.p : Int) - 1) = f.half := by
          unfold p2 Fm.half
          congr 1
          omega
        rw [e]
        have : t * f.half ≤ f.m c * t := by rw [Nat.mul_comm t]; exact Nat.mul_le_mul_right _ this
        omega
    · rw [below_is hd ht h]
      unfold below
      rw [p2_ge (show -(f.p : Int) ≤ 0 by omega), Nat.mul_one]
      have e : p2 (f.p : Int) = 2 ^ f.p := by
        unfold p2
        congr 1
      rw [e]
      calc f.m c * t + s < (f.m c + 1) * t := by
            have : (f.m c + 1) * t = f.m c * t + t := by grind
            omega
        _ ≤ 2 ^ f.p * t := Nat.mul_le_mul_right _ hm
        _ = t * 2 ^ f.p := Nat.mul_comm _ _
  have ee : f.expo n d = f.e c := (f.expo_is ok hd).uniq hE
  have wp := f.whole_pos (n := n) hd
  have key : f.part n d * t = (c * t + s) * f.whole n d := by
    unfold Fm.part Fm.whole
    rw [ee]
    have e1 : (f.e c - f.lo).toNat = f.more c := by unfold Fm.e; omega
    rw [e1]
    unfold Is2 at h
    have cs := f.code_split c
    generalize f.m c = m at *
    generalize f.more c * f.half = mh at *
    generalize p2 (f.e c) = x at *
    generalize p2 (-(f.e c)) = y at *
    subst cs
    calc (mh * (d * x) + n * y) * t = mh * (d * x) * t + n * t * y := by grind
      _ = ((mh + m) * t + s) * (d * x) := by rw [h]; grind
  unfold Fm.read
  rw [Fm.readPos_same w wp ht key]
  have e1 : (c * t + s) / t = c := by
    rw [Nat.add_comm, Nat.add_mul_div_right _ _ ht, Nat.div_eq_of_lt hst, Nat.zero_add]
  have e2 : (c * t + s) % t = s := by
    rw [Nat.add_comm, Nat.add_mul_mod_self_right, Nat.mod_eq_of_lt hst]
  unfold Fm.readPos
  rw [w.rnd_rc ht, e1, e2]
  split
  · rfl
  · rename_i hn
    -- above the greatest number: c = N - 1 and s > 0
    have hs : s ≠ 0 := fun z => hn (by subst z; simpa using Nat.mul_le_mul_right t (show c ≤ f.N - 1 by omega))
    have hcN : c = f.N - 1 := by
      rcases Nat.lt_or_ge c (f.N - 1) with z | z
      · exfalso
        apply hn
        have : (c + 1) * t ≤ (f.N - 1) * t := Nat.mul_le_mul_right t z
        have : (c + 1) * t = c * t + t := by grind
        omega
      · omega
    cases w with
    | zero => exact hcN.symm
    | odd =>
      show (f.N - 1) ||| 1 = if s = 0 then c else c + (1 - c % 2)
      rw [if_neg hs, or_one, hcN]
    | even =>
      show min (f.N - 1 + 1) (c + _) = c + _
      rw [← hcN]
      apply Nat.min_eq_right
      split <;> omega
    | away =>
      show min (f.N - 1 + 1) (c + _) = c + _
      rw [← hcN]
      apply Nat.min_eq_right
      split <;> omega
    | out =>
      show min (f.N - 1 + 1) (c + _) = c + _
      rw [← hcN]
      apply Nat.min_eq_right
      split <;> omega
/-- a number is read as its own code -/
theorem Fm.read_own {f : Fm} (ok : f.Ok) (w : Way) {c n d : Nat} (hc : c < f.N) (hd : 0 < d) (h : Is2 n d (f.m c) 1 (f.e c)) : f.read w n d = c := by
  have e := f.read_at ok w hc hd (show 0 < 1 by decide) (by simpa using h)
  rw [e]
  cases w <;> simp [Way.rc]
end NT
/-! text B0 -/
set_option Elab.async false
set_option linter.all false
set_option maxRecDepth 100000
set_option maxHeartbeats 2000000
namespace NT
open PySem PySem.Spec PyProof.Rows L2 PySem.NumText
/-! ### what the walk leans on -/
structure Bs (K : PySem.W.Frag) (mg : Str → Option Value) (base : Heap) : Prop where
  c : He.SaysD faL fnL K
  X : K.In base
  G : base.Ns mainGlobals mg
  nd : PySem.W.nsIn K cStatics "sys.int_max_str_digits" = some none
structure OkD (P : Program) (w : World) (K : PySem.W.Frag) (mg : Str → Option Value) (base : Heap) (x : Str) (k : Nat) (ps : List Str) (sp : Sp) : Prop where
  ex : ∃ (f : Addr) (fd : FuncData), FnOk P w K mg base CX0 k f fd ps sp ∧ mg x = some (.ref f) ∧ PySem.W.keepIn K (.ref f) = true ∧ Binds K fd ps []
section
variable {P : Program} {w : World} {K : PySem.W.Frag} {mg : Str → Option Value} {base : Heap}
theorem Bs.fre (B : Bs K mg base) {x : Str} (i : Nat) (h : faL[i]? = some (.free x) := by rfl) : mg x = none := He.free_ok B.X B.G (B.c.fact i h)
theorem Bs.kint (B : Bs K mg base) {x : Str} {z : Int} (i : Nat) (h : faL[i]? = some (.int x z) := by rfl) : ∃ t, mg x = some (.int z t) := He.int_ok B.X B.G (B.c.fact i h)
theorem Bs.kstr (B : Bs K mg base) {x z : Str} (i : Nat) (h : faL[i]? = some (.str x z) := by rfl) : ∃ t, mg x = some (.str z t) := He.str_ok B.X B.G (B.c.fact i h)
/-- a def of the text keeps its promise: i its place in the lists, n its place in the text -/
theorem mk_ok (B : Bs K mg base) {x : Str} {k : Nat} {sp : Sp} {N ps : List Str} (i n : Nat) (h : fnL[i]? = some (dd n x)) (g : faL[i]? = some (.glo x)) (S : FnScope N ps (defScope (ts n)))
    (bd : ∀ (kV doc pm : Value) (an : Option Addr) (cdv ct : Value) (us : List Value), us.length = ps.length → bindArgs (PySem.W.fnOf x x (defArgs (ts n)) (defBody (ts n)) (defScope (ts n)) .none kV doc pm an cdv ct) ⟨us, []⟩ = pure (ps.zip us))
    (len : ∀ vs H Q E, sp vs H Q E → vs.length = ps.length)
    (hb : ∀ (f : Addr) (cdv : Value) (A : Around) (outer : List Env) (s : Shared) (H : Hp) (vs : List V) (Q : VK) (E : XK), Room k (A.deeper (envOfC x (defScope (ts n)) s.heap.objs.size f cdv)) → sp vs H Q E →
      ∃ t, PSs (cxOf CX0 P w K mg base N x (defScope (ts n)) f cdv A outer s H E).nox (defBody (ts n)) t ∧ t { nx := fun _ H' => Q .non H', rt := Q } (start N vs) H) : OkD P w K mg base x (k + 1) ps sp := by
  obtain ⟨fd, F⟩ := B.c.def_ i h
  have F' : FunD K x x (defArgs (ts n)) (defBody (ts n)) (defScope (ts n)) [] [] (He.fAd K (x, none)) fd := F
  refine ⟨_, fd, F'.ok S len fun cdv A outer s H vs Q E hr hs => ?_, He.glo_ok B.X B.G (B.c.fact i g), F'.kp, F'.bindsN bd⟩
  obtain ⟨t, h1, h2⟩ := hb _ cdv A outer s H vs Q E hr hs
  exact ⟨t, h1.nox, h2⟩
theorem pe_callD {X : Cx} {k : Nat} {ps : List Str} {sp : Sp} {x : Str} {p pos : Pos} {e : Expr} {es : List Expr} {t : TA} (G : OkD X.prog X.w X.K X.mg X.base x k ps sp) (hr : Room k X.A) (hg : Gl X x) (ha : PA X (e :: es) t)
    (hx : Passes CX0 X E0 := by exact pass0) (hdb : (x == ("__debug__" : Str)) = false := by decide)
    (hs : starEach (e :: es) X.env = (false, eval e X.env) :: starEach es X.env := by rfl) (hp : (backTo pos (starEach es X.env)).any (·.1) = false := by rfl) : PE X (.Call (.Name x p) (e :: es) [] pos) (tCall sp [] E0 t) := by
  obtain ⟨f, fd, F, hm, hk, hb⟩ := G.ex
  exact pe_call F hr hg hm hk hb .nil hx ha hdb hs hp
end
/-! ### rules in the words of these proofs -/
section
variable {X : Cx} {e o : Expr} {te to : TE} {pos : Pos}
theorem pe_strS {x : Str} {j : Nat} (l : List Nat) (h : x = SX.S l) : PE X (.Constant (.str x) j pos) (tC (.str (SX.S l))) := h ▸ pe_str
theorem pe_gint {x : Str} {z : Int} (hg : Gl X x) (h : ∃ t, X.mg x = some (.int z t)) (hd : (x == ("__debug__" : Str)) = false := by decide) : PE X (.Name x pos) (tC (.int z)) := by
  obtain ⟨t, h⟩ := h
  exact pe_glob hg h ⟨t, rfl⟩ hd
theorem pe_gstr {x z : Str} (l : List Nat) (hg : Gl X x) (h : ∃ t, X.mg x = some (.str z t)) (hz : z = SX.S l) (hd : (x == ("__debug__" : Str)) = false := by decide) : PE X (.Name x pos) (tC (.str (SX.S l))) := by
  subst hz
  obtain ⟨t, h⟩ := h
  exact pe_glob hg h ⟨t, rfl⟩ hd
/-- text + text -/
def rAddL : R2 := fun x y H Q => ∃ a b : List Nat, x = .str (SX.S a) ∧ y = .str (SX.S b) ∧ a.length + b.length ≤ 16777216 ∧ Q (.str (SX.S (a ++ b))) H
theorem op_addL : OpR X (binaryOp .Add) rAddL := by
  intro pins s σ H x y v u Q I rx ry h
  obtain ⟨a, b, rfl, rfl, hl, q⟩ := h
  refine op_add_str pins s σ H _ _ v u Q I rx ry ⟨_, _, rfl, rfl, ?_, ?_⟩
  · rw [SX.S_len, SX.S_len, sizeLine_eq]
    exact hl
  · rw [SX.S_cat]
    exact q
/-- a part of a text -/
def ixL (n d : Nat) (o : Option Int) : Nat := HT.sIx n d o
def cutL (l : List Nat) (lo hi : Option Int) : List Nat := (l.drop (ixL l.length 0 lo)).take (ixL l.length l.length hi - ixL l.length 0 lo)
def rSlL0 : V → Option Int → Option Int → Hp → VK → Prop := fun x lo hi H Q => ∃ l : List Nat, x = .str (SX.S l) ∧ l.length ≤ 16777216 ∧ Q (.str (SX.S (cutL l lo hi))) H
theorem sl_S : SlR X rSlL0 := by
  intro pins s σ H x v vl vu lo hi sl Q I rx hs pl pu h
  obtain ⟨l, rfl, hz, q⟩ := h
  refine sl_str pins s σ H _ v vl vu lo hi sl Q I rx hs pl pu ⟨_, rfl, ?_, ?_⟩
  · rw [SX.S_len, sizeLine_eq]
    exact hz
  · have e : cutS (SX.S l) lo hi = SX.S (cutL l lo hi) := by
      unfold cutS cutL ixL
      rw [SX.S_len]
    rw [e]
    exact q
theorem cut_to (l : List Nat) (k : Nat) : cutL l none (some (k : Int)) = l.take k := by
  unfold cutL ixL
  rw [HT.sIx_none, HT.sIx_nat, List.drop_zero, Nat.sub_zero]
  exact List.take_eq_take_iff.mpr (by omega)
theorem cut_from (l : List Nat) (k : Nat) : cutL l (some (k : Int)) none = l.drop k := by
  unfold cutL ixL
  rw [HT.sIx_none, HT.sIx_nat]
  rcases Nat.le_total k l.length with h | h
  · rw [Nat.min_eq_left h]
    exact List.take_of_length_le (by rw [List.length_drop]; omega)
  · rw [Nat.min_eq_right h, List.drop_of_length_le (Nat.le_refl _), List.drop_of_length_le h]
    simp
theorem cut_mid (l : List Nat) (a b : Nat) : cutL l (some (a : Int)) (some (b : Int)) = (l.drop a).take (b - a) := by
  unfold cutL ixL
  rw [HT.sIx_nat, HT.sIx_nat]
  rcases Nat.le_total a l.length with h | h
  · rw [Nat.min_eq_left h]
    exact List.take_eq_take_iff.mpr (by rw [List.length_drop]; omega)
  · rw [Nat.min_eq_right h, List.drop_of_length_le (Nat.le_refl _), List.drop_of_length_le h]
    simp
theorem cut_toNeg (l : List Nat) (k : Nat) (hk : 0 < k) (h : k ≤ l.length) : cutL l none (some (-(k : Int))) = l.take (l.length - k) := by
  have e1 : ixL l.length l.length (some (-(k : Int))) = l.length - k := by
    show (if (-(k : Int)) < 0 then (-(k : Int) + (l.length : Int)).toNat else min (-(k : Int)).toNat l.length) = _
    rw [if_pos (by omega)]
    omega
  unfold cutL
  rw [e1]
  show List.take (l.length - k - 0) (List.drop 0 l) = _
  rw [List.drop_zero, Nat.sub_zero]
theorem cut_fromNeg (l : List Nat) (k : Nat) (hk : 0 < k) (h : k ≤ l.length) : cutL l (some (-(k : Int))) none = l.drop (l.length - k) := by
  unfold cutL
  have e1 : ixL l.length 0 (some (-(k : Int))) = l.length - k := by
    show (if (-(k : Int)) < 0 then (-(k : Int) + (l.length : Int)).toNat else min (-(k : Int)).toNat l.length) = _
    rw [if_pos (by omega)]
    omega
  rw [e1]
  exact List.take_of_length_le (by rw [List.length_drop]; unfold ixL; rw [HT.sIx_none]; omega)
/-- len(text) -/
def rLenL : List V → Hp → VK → Prop := fun xs H Q => ∃ l : List Nat, xs = [.str (SX.S l)] ∧ l.length ≤ 16777216 ∧ Q (.int (l.length : Nat)) H
theorem call_lenL : CallR X (.builtin "len") rLenL := by
  intro pins s σ H xs us Q I r h
  obtain ⟨l, rfl, hz, q⟩ := h
  refine call_len pins s σ H _ us Q I r ⟨_, l.length, rfl, ⟨?_, ?_⟩, q⟩
  · rw [SX.S_len, sizeLine_eq]
    exact hz
  · rw [SX.S_len]
/-- an item of a text -/
def rIxL0 : R2 := fun x y H Q => ∃ (l : List Nat) (i c : Nat), x = .str (SX.S l) ∧ y = .int (i : Int) ∧ l.length ≤ 16777216 ∧ l[i]? = some c ∧ Q (.str (SX.S [c])) H
theorem ix_S : IxR X rIxL0 := by
  have key : ∀ (x y : V) (H : Hp) (Q : VK), rIxL0 x y H Q → rIxS x y H Q := by
    intro x y H Q h
    obtain ⟨l, i, c, rfl, rfl, hz, hc, q⟩ := h
    refine ⟨_, _, c, rfl, rfl, ?_, atI_nat (j := i) hc, q⟩
    rw [SX.S_len, sizeLine_eq]
    exact hz
  intro va sl pins s σ H x y v u Q I rx ry h
  exact ix_str va sl pins s σ H x y v u Q I rx ry (key x y H Q h)
/-- one sign in a text -/
def rInL (neg : Bool) : R2 := fun x y H Q => ∃ (c : Nat) (l : List Nat), x = .str (SX.S [c]) ∧ y = .str (SX.S l) ∧ Q (.bl (if neg then !decide (c ∈ l) else decide (c ∈ l))) H
theorem op_inL : OpR X (compareOp .In) (rInL false) := by
  intro pins s σ H x y v u Q I rx ry h
  obtain ⟨c, l, rfl, rfl, q⟩ := h
  exact op_in_sign pins s σ H _ _ v u Q I rx ry ⟨c, _, rfl, rfl, q⟩
/-- str.rjust with a sign -/
def padL (l : List Nat) (k c : Nat) : List Nat := List.replicate (k - l.length) c ++ l
def rRjust : V → List V → Hp → VK → Prop := fun x xs H Q => ∃ (l : List Nat) (k c : Nat), x = .str (SX.S l) ∧ xs = [.int (k : Int), .str (SX.S [c])] ∧ k ≤ 100000 ∧ Q (.str (SX.S (padL l k c))) H
theorem rjust_S (l : List Nat) (k c : Nat) : Txt.rjustF (SX.S l) (k : Int) c = SX.S (padL l k c) := by
  unfold Txt.rjustF padL
  rw [SX.S_len]
  split
  · rename_i h
    rw [show k - l.length = 0 by omega]
    rfl
  · unfold Builtin.Str.padded
    apply TL.ext_tl
    show _ = List.replicate (k - l.length) c ++ l
    simp [TL.tl, SX.S]
theorem mt_rjustL : MtR X "str.rjust" rRjust := by
  intro pins s σ H x xs v us Q I rx rs h
  obtain ⟨l, k, c, rfl, rfl, hk, q⟩ := h
  obtain ⟨t, rfl⟩ := rx
  obtain ⟨u, w', rfl, ⟨t1, rfl⟩, ⟨t2, rfl⟩⟩ := vals2 rs
  refine rjust_fill ?_ (SX.S_len [c]) fun t' k' => ⟨.str _, H, I.tok _, ⟨t', rfl⟩, ?_⟩
  · unfold PadOk fitsSsize Builtin.Str.tooLong
    rw [decide_eq_false (show ¬ (k : Int) < -(2 ^ 63 : Int) by omega), decide_eq_false (show ¬ (k : Int) ≥ 2 ^ 63 by omega), decide_eq_false (show ¬ (k : Int).toNat > sizeLine by rw [sizeLine_eq]; omega)]
    rfl
  · show _
    rw [rjust_S]
    exact q
/-! ### ints that are naturals, of any size -/
theorem cmul_of {a b : Nat} {i j : Int} (ha : i.natAbs < 2 ^ a) (hb : j.natAbs < 2 ^ b) (h : a + b ≤ 134217728) : CMulX i j := mulx_ok ha hb h
end
/-! ### heaps -/
theorem same_new {H : Hp} {p : Addr} {o : HO} (h : H p = none) : Same H (upd H p o) := fun b x e => by
  rw [upd_ne (ne_of_none e h)]
  exact e
theorem Same.sqt {K : PySem.W.Frag} {H H' : Hp} {a : Addr} {xs : List V} (e : Same H H') (h : SqT K H a xs) : SqT K H' a xs := by
  rcases h with (h | ⟨o, h⟩) | h
  · exact .inl (.inl (e _ _ h))
  · exact .inl (.inr ⟨o, e _ _ h⟩)
  · exact .inr h
theorem sq_t {K : PySem.W.Frag} {H : Hp} {p : Addr} {xs : List V} : SqT K (upd H p (.tup xs)) p xs := .inl (.inl upd_same)
theorem sq_l {K : PySem.W.Frag} {H : Hp} {p : Addr} {xs : List V} : SqL K (upd H p (.lst xs)) p xs := .inl (.inl upd_same)
/-- a test's two ways -/
theorem ifD {c A B : Prop} [Decidable c] (h1 : c → A) (h2 : ¬ c → B) : if decide c = true then A else B := by
  by_cases h : c
  · rw [decide_eq_true h, if_pos rfl]
    exact h1 h
  · rw [decide_eq_false h, if_neg Bool.false_ne_true]
    exact h2 h
theorem ifN {c A B : Prop} [Decidable c] (h1 : ¬ c → A) (h2 : c → B) : if (!decide c) = true then A else B := by
  by_cases h : c
  · rw [decide_eq_true h, Bool.not_true, if_neg Bool.false_ne_true]
    exact h2 h
  · rw [decide_eq_false h, Bool.not_false, if_pos rfl]
    exact h1 h
/-! ### formats, ways in the heap -/
def Frm (K : PySem.W.Frag) (H : Hp) (a : Addr) (f : Fm) : Prop := SqT K H a [.int (f.p : Int), .int f.lo, .int f.hi]
theorem Frm.up {K : PySem.W.Frag} {H H' : Hp} {a : Addr} {f : Fm} (h : Frm K H a f) (s : Same H H') : Frm K H' a f := Same.sqt s h
def Way.nm : Way → Str
  | .even => "even"
  | .away => "away"
  | .zero => "zero"
  | .out => "out"
  | .odd => "odd"
end NT
/-! text R3 -/
set_option Elab.async false
set_option linter.all false
set_option maxRecDepth 100000
set_option maxHeartbeats 2000000
namespace NT
open PySem PySem.Spec PyProof.Rows L2
/-! ### enumerate of a text -/
/-- the signs of a text, each in a new pair -/
def ItS (x : Str) : It :=
  ⟨fun i _ => i < x.cps.size, fun i H v H' => ∃ (T : Addr) (c : Nat), v = .ref T ∧ H T = none ∧ x.cps[i]? = some c ∧ H' = upd H T (.tup [.int (i : Nat), .str ⟨#[c]⟩]), fun i _ => x.cps.size = i⟩
abbrev StS (x : Str) (t : Tok) (e it : Addr) (i : Nat) (h : Heap) : Prop := i ≤ x.cps.size ∧ (∃ old, IsEnum h e it ((i : Nat) : Int) old) ∧ h.IsStrIter it (strIterType x) x t i ∧ e ≠ it
theorem turn_enumS {P : Program} {w : World} {K : PySem.W.Frag} {elts : List Expr} {kk : Nat} {tpos : Pos} (x : Str) (t : Tok) (e it : Addr) : Turn P w K (.Tuple elts kk tpos) (ItS x) [e, it] e (StS x t e it) where
  mem := by simp
  obj := fun i h st b hb => by
    obtain ⟨_, ⟨old, he⟩, ⟨o, ho, hc, hd⟩, _⟩ := st
    rcases (show b = e ∨ b = it by simpa using hb) with rfl | rfl
    · exact ⟨_, he, fun v q => nomatch q⟩
    · exact ⟨o, ho, fun v q => by rw [hd] at q; cases q⟩
  keep := fun i h h' st k => by
    obtain ⟨hi, ⟨old, he⟩, ⟨o, ho, r⟩, hne⟩ := st
    exact ⟨hi, ⟨old, k e (by simp) _ he⟩, ⟨o, k it (by simp) o ho, r⟩, hne⟩
  item := by
    intro X hP hw hK hc i pins s σ H E I hf st hg
    subst hP hw hK
    obtain ⟨hi, ⟨old, he⟩, hit, hne⟩ := st
    have hel : e < s.heap.objs.size := Heap.lt_size he
    have hil : it < s.heap.objs.size := by
      obtain ⟨o, q, _⟩ := hit
      exact Heap.lt_size q
    have D := Draws.text (prog := X.prog) (w := X.w) (A := X.A.in1) (I.ok.hd hc) it x t
    refine wpAny_pyNext_enum_itemD D he hit hg hne (by simpa using hne) fun v h' tk hv ho hit' hT hsz hk => ?_
    obtain ⟨c, u, hcx, rfl⟩ := hv
    refine ⟨_, rfl, wpAny_letOwnedTupleGo_enum (s := { s with heap := h', toks := tk + 1 }) ho fun h'' he' sb => ?_⟩
    have hT2 := (sb.2 _ (Nat.ne_of_gt hel)).trans hT
    have new : ObjOk X.prog X.w (upd H s.heap.objs.size (.tup [.int (i : Nat), .str ⟨#[c]⟩])) h'' s.heap.objs.size (.tup [.int (i : Nat), .str ⟨#[c]⟩]) :=
      ⟨by show 2 ≤ sizeLine; decide, [.int i tk, .str ⟨#[c]⟩ u], .cons ⟨_, rfl⟩ (.cons ⟨_, rfl⟩ .nil), ⟨_, hT2, rfl, _, rfl⟩⟩
    have keepB : ∀ b ob, b ∉ [e, it] → s.heap.get? b = some ob → h''.get? b = some ob := fun b ob hb q => by
      have hbe : b ≠ e := fun z => hb (by simp [z])
      have hbi : b ≠ it := fun z => hb (by simp [z])
      exact (sb.2 b hbe).trans (hk b ob hbe hbi q)
    have I1 := I.turnedNew (ch := [e, it]) (t' := tk + 1) keepB hf (Nat.le_refl _) new
    refine ⟨.ref s.heap.objs.size, _, I1, rfl, ⟨_, c, rfl, I.hok.fresh (Nat.le_refl _), hcx, rfl⟩, ⟨hg, ⟨.str ⟨#[c]⟩ u, ?_⟩, ?_, hne⟩, fun b hb => ?_⟩
    · rw [show ((i + 1 : Nat) : Int) = (i : Int) + 1 by omega]
      exact he'
    · obtain ⟨o, q, r⟩ := hit'
      exact ⟨o, (sb.2 it (Ne.symm hne)).trans q, r⟩
    · have hb' : b < s.heap.objs.size := by
        rcases (show b = e ∨ b = it by simpa using hb) with rfl | rfl
        · exact hel
        · exact hil
      rw [upd_ne (Nat.ne_of_lt hb')]
      exact (hf b hb).1
  done := by
    intro X hP hw hK hc i pins s σ H E I hf st hg
    subst hP hw hK
    obtain ⟨hi, ⟨old, he⟩, hit, hne⟩ := st
    have D := Draws.text (prog := X.prog) (w := X.w) (A := X.A.in1) (I.ok.hd hc) it x t
    obtain ⟨f0, f1, f2, f3, f4, f5⟩ := hf it (by simp)
    have hg' : x.cps.size = i := hg
    refine wpAny_pyNext_enum_endD D he (hg'.symm ▸ hit) fun h' eb => ⟨rfl, I.turned (t' := s.toks) (fun b o hb q => eb b o hb q) f0 f1 f3 f4 f5⟩
  self := fun A i s Q E st h => by
    obtain ⟨_, ⟨_, he⟩, _⟩ := st
    exact wpAny_pyIter_enum he h
def iEnumS (ta : TA) : TI := fun σ H R => ta σ H fun vs H1 => ∃ x : Str, vs = [.str x] ∧ R (ItS x) H1
theorem pi_enumS {X : Cx} {e : Expr} {ta : TA} {p pos tpos : Pos} {elts : List Expr} {kk : Nat} (hg : Gl X "enumerate") (hm : X.mg "enumerate" = none) (ha : PA X [e] ta) (hs : starEach [e] X.env = [(false, eval e X.env)] := by rfl) : PI X (.Tuple elts kk tpos) (.Call (.Name "enumerate" p) [e] [] pos) (iEnumS ta) := by
  refine ⟨fun pins s σ H R I h => ?_⟩
  refine Call_ (ld_blt I hg hm boot_enumerate (PyProof.Rows.callWith_type1 (thn (ha.run pos pins s σ H _ I h) fun us s1 hv => ?_) hs rfl))
  obtain ⟨vs, H1, I1, r1, x, rfl, q⟩ := hv
  obtain ⟨u, rfl, t, rfl⟩ := vals1 r1
  refine call_enumerate_str fun h' he hit hsz hk => wpAny_pyIter_enum he ?_
  have I2 := I1.kept (t' := s1.toks) hk
  refine ⟨s1.heap.objs.size + 1, [s1.heap.objs.size + 1, s1.heap.objs.size], StS x t (s1.heap.objs.size + 1) s1.heap.objs.size, ItS x, H1, rfl, I2, turn_enumS x t _ _, ⟨Nat.zero_le _, ⟨.none, he⟩, hit, Nat.succ_ne_self _⟩, fun b hb => ?_, q⟩
  have hle : s1.heap.objs.size ≤ b := by
    rcases (show b = s1.heap.objs.size + 1 ∨ b = s1.heap.objs.size by simpa using hb) with rfl | rfl
    · exact Nat.le_add_right _ _
    · exact Nat.le_refl _
  exact I1.fpOk hle (I1.hok.fresh hle)
end NT
/-! text M3 -/
set_option Elab.async false
set_option linter.all false
set_option maxHeartbeats 1000000
namespace NT
open PySem PySem.NumText
/-! ### decimal digits -/
theorem ds_small {n : Nat} (h : n < 10) : ds n = [48 + n] := by
  unfold ds
  rw [Nat.toDigits_of_lt_base h]
  have : ∀ m : Nat, m < 10 → [Nat.digitChar m].map Char.toNat = [48 + m] := by decide
  exact this n h
theorem ds_step {n : Nat} (h : 10 ≤ n) : ds n = ds (n / 10) ++ [48 + n % 10] := by
  have e := Nat.toDigits_append_toDigits (b := 10) (n := n / 10) (d := n % 10) (by decide) (by omega) (Nat.mod_lt _ (by decide))
  rw [Nat.div_add_mod] at e
  unfold ds
  rw [← e, List.map_append]
  have := ds_small (n := n % 10) (Nat.mod_lt _ (by decide))
  unfold ds at this
  rw [this]
theorem ds_dig : ∀ n : Nat, AllDigits (ds n) := by
  intro n
  induction n using Nat.strongRecOn with
  | ind n ih =>
    rcases Nat.lt_or_ge n 10 with h | h
    · rw [ds_small h]
      intro c hc
      rw [List.mem_singleton] at hc
      omega
    · rw [ds_step h]
      intro c hc
      rcases List.mem_append.mp hc with hc | hc
      · exact ih _ (by omega) c hc
      · rw [List.mem_singleton] at hc
        omega
theorem ds_val (n : Nat) : digitsVal (ds n) = n := PySem.W.KIN.val_back n
theorem ds_ne (n : Nat) : ds n ≠ [] := by
  rcases Nat.lt_or_ge n 10 with h | h
  · rw [ds_small h]; simp
  · rw [ds_step h]; simp
theorem ds_pos (n : Nat) : 0 < (ds n).length := List.length_pos_iff.mpr (ds_ne n)
theorem ds_le {n k : Nat} (hk : 1 ≤ k) (h : n < 10 ^ k) : (ds n).length ≤ k := by
  unfold ds
  rw [List.length_map]
  exact PyProof.Rows.digits10_le hk h
theorem ds_ge {n k : Nat} (h : 10 ^ k ≤ n) : k + 1 ≤ (ds n).length := by
  unfold ds
  rw [List.length_map]
  exact PyProof.Rows.digits10_ge h
/-- 10 ^ (len - 1) ≤ n -/
theorem ds_low {n : Nat} (h : 0 < n) : 10 ^ ((ds n).length - 1) ≤ n := by
  rcases Nat.lt_or_ge n (10 ^ ((ds n).length - 1)) with z | z
  · rcases Nat.eq_zero_or_pos ((ds n).length - 1) with e | e
    · rw [e] at z
      omega
    · have := ds_le e z
      omega
  · exact z
theorem ds_high (n : Nat) : n < 10 ^ (ds n).length := by
  rcases Nat.lt_or_ge n (10 ^ (ds n).length) with z | z
  · exact z
  · have := ds_ge z
    omega
theorem ds_ten {d : Nat} (hd : 0 < d) : ∀ j : Nat, ds (d * 10 ^ j) = ds d ++ List.replicate j 48
  | 0 => by simp
  | j + 1 => by
    have hp : 0 < d * 10 ^ j := Nat.mul_pos hd (Nat.pow_pos (by decide))
    have e : d * 10 ^ (j + 1) = d * 10 ^ j * 10 := by rw [Nat.pow_succ, Nat.mul_assoc]
    rw [e, ds_step (by omega), Nat.mul_div_cancel _ (by decide), Nat.mul_mod_left, ds_ten hd j, List.append_assoc]
    congr 1
    rw [List.replicate_succ']
theorem val_app (a b : List Nat) : digitsVal (a ++ b) = digitsVal a * 10 ^ b.length + digitsVal b := by
  have key : ∀ (b : List Nat) (x : Nat), b.foldl (fun acc c => acc * 10 + (c - 48)) x = x * 10 ^ b.length + b.foldl (fun acc c => acc * 10 + (c - 48)) 0 := by
    intro b
    induction b with
    | nil => intro x; simp
    | cons c b ih =>
      intro x
      rw [List.foldl_cons, ih, List.foldl_cons, ih (0 * 10 + (c - 48)), List.length_cons, Nat.pow_succ]
      grind
  unfold digitsVal
  rw [List.foldl_append, key b]
theorem val_zeros (k : Nat) (l : List Nat) : digitsVal (List.replicate k 48 ++ l) = digitsVal l := by
  induction k with
  | zero => rfl
  | succ k ih => rw [List.replicate_succ, List.cons_append, digitsVal_zero, ih]

/-! ### decimals -/
def Fm.readD (f : Fm) (w : Way) (d : Nat) (q : Int) : Nat := f.read w (d * 10 ^ q.toNat) (10 ^ (-q).toNat)
theorem ten_pos (k : Nat) : 0 < 10 ^ k := Nat.pow_pos (by decide)
/-- d * 10 ^ q and d' * 10 ^ q' are the same -/
def SameD (d : Nat) (q : Int) (d' : Nat) (q' : Int) : Prop := d * 10 ^ q.toNat * 10 ^ (-q').toNat = d' * 10 ^ q'.toNat * 10 ^ (-q).toNat
theorem Fm.readD_same {f : Fm} (ok : f.Ok) (w : Way) {d d' : Nat} {q q' : Int} (h : SameD d q d' q') : f.readD w d q = f.readD w d' q' :=
  f.read_same ok w (ten_pos _) (ten_pos _) h
theorem same_shift (d : Nat) (q : Int) (j : Nat) : SameD (d * 10 ^ j) q d (q + j) := by
  unfold SameD
  have e : 10 ^ j * 10 ^ q.toNat * 10 ^ (-(q + j)).toNat = 10 ^ (q + j).toNat * 10 ^ (-q).toNat := by
    simp only [← Nat.pow_add]
    congr 1
    omega
  calc d * 10 ^ j * 10 ^ q.toNat * 10 ^ (-(q + j)).toNat = d * (10 ^ j * 10 ^ q.toNat * 10 ^ (-(q + j)).toNat) := by grind
    _ = _ := by rw [e]; grind
/-- the value of a number, perhaps with zeros at its end -/
def Fm.wd (f : Fm) (c : Nat) : Nat := f.m c * p2 (f.e c) * 5 ^ (-(f.e c)).toNat
def Fm.wq (f : Fm) (c : Nat) : Int := if 0 ≤ f.e c then 0 else f.e c
theorem Fm.wq_le (f : Fm) (c : Nat) : f.wq c ≤ 0 := by unfold Fm.wq; split <;> omega
theorem ten_split (k : Nat) : 10 ^ k = 2 ^ k * 5 ^ k := by rw [← Nat.mul_pow]
theorem Fm.own {f : Fm} (ok : f.Ok) (w : Way) {c : Nat} (hc : c < f.N) : f.readD w (f.wd c) (f.wq c) = c := by
  refine f.read_own ok w hc (ten_pos _) ?_
  unfold Is2 Fm.wd Fm.wq p2
  by_cases h : 0 ≤ f.e c
  · rw [if_pos h]
    have e1 : (-(f.e c)).toNat = 0 := by omega
    simp [e1]
  · rw [if_neg h]
    have e1 : (f.e c).toNat = 0 := by omega
    rw [e1, ten_split (-(f.e c)).toNat]
    generalize 2 ^ (-(f.e c)).toNat = x
    generalize 5 ^ (-(f.e c)).toNat = y
    generalize f.m c = m
    simp only [Nat.pow_zero, Nat.mul_one]
    grind
/-- the integers next to D * 10 ^ P in units of 10 ^ t, the nearer one ahead -/
def near (D : Nat) (P t : Int) : List Nat :=
  if t ≤ P then [D * 10 ^ (P - t).toNat]
  else if D % 10 ^ (t - P).toNat = 0 then [D / 10 ^ (t - P).toNat]
  else [nearest D (10 ^ (t - P).toNat), 2 * (D / 10 ^ (t - P).toNat) + 1 - nearest D (10 ^ (t - P).toNat)]
theorem nearest_two (n d : Nat) : nearest n d = n / d ∨ nearest n d = n / d + 1 := by
  unfold nearest
  split
  · exact .inr rfl
  · exact .inl rfl
theorem near_le {D : Nat} {P t : Int} (h : P ≤ t) {x : Nat} (hx : x ∈ near D P t) : x * 10 ^ (t - P).toNat ≤ D + 10 ^ (t - P).toNat := by
  unfold near at hx
  by_cases h1 : t ≤ P
  · have e : t = P := by omega
    subst e
    rw [if_pos h1, List.mem_singleton] at hx
    subst hx
    simp
  · rw [if_neg h1] at hx
    have hp := ten_pos (t - P).toNat
    have hd := Nat.div_mul_le_self D (10 ^ (t - P).toNat)
    generalize 10 ^ (t - P).toNat = u at *
    have key : x ≤ D / u + 1 := by
      split at hx
      · rw [List.mem_singleton] at hx
        omega
      · have := nearest_two D u
        simp only [List.mem_cons, List.not_mem_nil, or_false] at hx
        omega
    calc x * u ≤ (D / u + 1) * u := Nat.mul_le_mul_right _ key
      _ = D / u * u + u := by grind
      _ ≤ D + u := by omega
def Fm.look (f : Fm) (w : Way) (c D : Nat) (P t : Int) : Option Nat := (near D P t).find? fun x => decide (f.readD w x t = c)
def Fm.srch (f : Fm) (w : Way) (c D : Nat) (P : Int) : Nat → Nat × Int
  | 0 => ((f.look w c D P P).getD 0, P)
  | k + 1 => match f.look w c D P (P + ((k + 1 : Nat) : Int)) with
    | some x => (x, P + ((k + 1 : Nat) : Int))
    | none => f.srch w c D P k
theorem Fm.look_spec {f : Fm} {w : Way} {c D x : Nat} {P t : Int} (h : f.look w c D P t = some x) : x ∈ near D P t ∧ f.readD w x t = c := by
  unfold Fm.look at h
  exact ⟨List.mem_of_find?_eq_some h, of_decide_eq_true (List.find?_some (p := fun x => decide (f.readD w x t = c)) h)⟩
/-- the search ends at the latest with all digits -/
theorem Fm.look_last {f : Fm} {w : Way} {c D : Nat} {P : Int} (h : f.readD w D P = c) : f.look w c D P P = some D := by
  unfold Fm.look near
  rw [if_pos (Int.le_refl _)]
  simp [h]
structure Fm.Found (f : Fm) (w : Way) (c D : Nat) (P : Int) (r : Nat × Int) : Prop where
  code : f.readD w r.1 r.2 = c
  lo : P ≤ r.2
  mem : r.1 ∈ near D P r.2
theorem Fm.srch_spec {f : Fm} {w : Way} {c D : Nat} {P : Int} (h : f.readD w D P = c) : ∀ k : Nat, f.Found w c D P (f.srch w c D P k) ∧ (f.srch w c D P k).2 ≤ P + k
  | 0 => by
    have e := f.look_last h
    unfold Fm.srch
    rw [e]
    obtain ⟨h1, h2⟩ := f.look_spec e
    exact ⟨⟨h2, Int.le_refl _, h1⟩, by simp⟩
  | k + 1 => by
    unfold Fm.srch
    cases e : f.look w c D P (P + ((k + 1 : Nat) : Int)) with
    | some x =>
      obtain ⟨h1, h2⟩ := f.look_spec e
      exact ⟨⟨h2, by show P ≤ P + ((k + 1 : Nat) : Int); omega, h1⟩, Int.le_refl _⟩
    | none =>
      obtain ⟨h1, h2⟩ := f.srch_spec h k
      exact ⟨h1, by show (f.srch w c D P k).2 ≤ P + ((k + 1 : Nat) : Int); omega⟩
/-- without zeros at the end -/
def strip (d : Nat) (q : Int) : Nat × Int := if h : d % 10 = 0 ∧ d ≠ 0 then strip (d / 10) (q + 1) else (d, q)
termination_by d
decreasing_by omega
theorem strip_go {d : Nat} {q : Int} (h : d % 10 = 0) (h0 : d ≠ 0) : strip d q = strip (d / 10) (q + 1) := by
  rw [strip, dif_pos ⟨h, h0⟩]
theorem strip_end {d : Nat} {q : Int} (h : d % 10 ≠ 0) : strip d q = (d, q) := by
  rw [strip, dif_neg (fun z => h z.1)]
theorem strip_spec : ∀ (d : Nat) (q : Int), 0 < d → ∃ j : Nat, d = (strip d q).1 * 10 ^ j ∧ (strip d q).2 = q + j ∧ 0 < (strip d q).1 := by
  intro d
  induction d using Nat.strongRecOn with
  | ind d ih =>
    intro q hd
    by_cases h : d % 10 = 0
    · rw [strip_go h (by omega)]
      obtain ⟨j, e1, e2, e3⟩ := ih (d / 10) (by omega) (q + 1) (by omega)
      refine ⟨j + 1, ?_, by rw [e2]; push_cast; omega, e3⟩
      rw [Nat.pow_succ, ← Nat.mul_assoc, ← e1]
      omega
    · rw [strip_end h]
      exact ⟨0, by simp, by simp, hd⟩
/-- the shortest decimal, as the program finds it -/
def Fm.short (f : Fm) (w : Way) (c : Nat) : Nat × Int :=
  if c = 0 then (0, 0)
  else strip (f.srch w c (f.wd c) (f.wq c) ((ds (f.wd c)).length - 1)).1 (f.srch w c (f.wd c) (f.wq c) ((ds (f.wd c)).length - 1)).2
theorem Fm.read_zero {f : Fm} (ok : f.Ok) (w : Way) (q : Int) : f.readD w 0 q = 0 := by
  have lh := ok.lh
  have hN : 0 < f.N := Nat.mul_pos (by omega) f.half_pos
  have hm : f.m 0 = 0 := by unfold Fm.m; simp
  refine f.read_own ok w hN (ten_pos _) ?_
  unfold Is2
  rw [hm]
  simp
structure Fm.Shortest (f : Fm) (w : Way) (c : Nat) (r : Nat × Int) : Prop where
  pos : 0 < r.1
  code : f.readD w r.1 r.2 = c
  lo : f.wq c ≤ r.2
  size : r.1 * 10 ^ (r.2 - f.wq c).toNat ≤ 2 * f.wd c
theorem Fm.wd_pos {f : Fm} (ok : f.Ok) {c : Nat} (h0 : c ≠ 0) : 0 < f.wd c := by
  unfold Fm.wd
  have hm : 0 < f.m c := by
    by_cases z : f.more c = 0
    · have := f.code_split c
      rw [z] at this
      omega
    · exact Nat.lt_of_lt_of_le f.half_pos (f.m_ge z)
  exact Nat.mul_pos (Nat.mul_pos hm (p2_pos _)) (Nat.pow_pos (by decide))
theorem Fm.short_spec {f : Fm} (ok : f.Ok) (w : Way) {c : Nat} (hc : c < f.N) (h0 : c ≠ 0) : f.Shortest w c (f.short w c) := by
  have hD := f.wd_pos ok h0
  obtain ⟨⟨h1, h2, h3⟩, h4⟩ := f.srch_spec (f.own ok w hc) ((ds (f.wd c)).length - 1)
  unfold Fm.short
  rw [if_neg h0]
  generalize f.srch w c (f.wd c) (f.wq c) ((ds (f.wd c)).length - 1) = r at *
  obtain ⟨x, t⟩ := r
  have h1' : f.readD w x t = c := h1
  have h2' : f.wq c ≤ t := h2
  have h3' : x ∈ near (f.wd c) (f.wq c) t := h3
  have h4' : t ≤ f.wq c + ((ds (f.wd c)).length - 1 : Nat) := h4
  show f.Shortest w c (strip x t)
  have hx : 0 < x := Nat.pos_of_ne_zero fun z => by
    subst z
    rw [f.read_zero ok] at h1'
    exact h0 h1'.symm
  obtain ⟨j, e1, e2, e3⟩ := strip_spec x t hx
  have hn := near_le h2' h3'
  have hl : 10 ^ (t - f.wq c).toNat ≤ f.wd c := Nat.le_trans (Nat.pow_le_pow_right (by decide) (by omega)) (ds_low hD)
  refine ⟨e3, ?_, by rw [e2]; omega, ?_⟩
  · have s := same_shift (strip x t).1 t j
    rw [← e1, ← e2] at s
    rw [← f.readD_same ok w s]
    exact h1'
  · rw [e2]
    have e4 : (t + (j : Int) - f.wq c).toNat = j + (t - f.wq c).toNat := by omega
    rw [e4, Nat.pow_add, ← Nat.mul_assoc, ← e1]
    omega
end NT
/-! text W1 -/
set_option Elab.async false
set_option linter.all false
set_option maxRecDepth 100000
set_option maxHeartbeats 2000000
namespace NT
open PySem PySem.Spec PyProof.Rows L2 PySem.NumText
theorem rI_ {Q : VK} {H : Hp} {a b : Int} (e : b = a) (q : Q (.int a) H) : Q (.int b) H := e ▸ q
theorem rB_ {Q : VK} {H : Hp} {a b : Bool} (e : b = a) (q : Q (.bl a) H) : Q (.bl b) H := e ▸ q
theorem rV_ {Q : VK} {H : Hp} {a b : V} (e : b = a) (q : Q a H) : Q b H := e ▸ q
theorem cshl {i j : Int} {n : Nat} (hi : i.natAbs < 2 ^ n) (h0 : 0 ≤ j) (h : (n : Int) + j ≤ 134217728) : CShl i j := by
  have e : j = ((j.toNat : Nat) : Int) := (Int.toNat_of_nonneg h0).symm
  rw [e]
  exact shl_ok hi (by omega)
theorem cdiv {i j : Int} {b : Nat} (h : 0 < j) (hb : j.natAbs < 2 ^ b) (h0 : 0 < b := by decide) (h9 : b ≤ 9000 := by decide) : CDivW i j := wide_div h hb h0 h9
theorem lt_p2 {n k : Nat} (h : n < k) (hk : k ≤ 2 ^ 4000 := by decide +kernel) : n < 2 ^ 4000 := Nat.lt_of_lt_of_le h hk
theorem l1 {x : V} : [x].length ≤ sizeLine := by show 1 ≤ sizeLine; decide
theorem l2 {x y : V} : [x, y].length ≤ sizeLine := by show 2 ≤ sizeLine; decide
theorem l3 {x y z : V} : [x, y, z].length ≤ sizeLine := by show 3 ≤ sizeLine; decide
theorem tup2_ {H : Hp} {p : Addr} {a b a' b' : V} (e1 : a = a') (e2 : b = b') : upd H p (.tup [a, b]) p = some (.tup [a', b']) := by rw [e1, e2, upd_same]
theorem tup3_ {H : Hp} {p : Addr} {a b c a' b' c' : V} (e1 : a = a') (e2 : b = b') (e3 : c = c') : upd H p (.tup [a, b, c]) p = some (.tup [a', b', c']) := by rw [e1, e2, e3, upd_same]
theorem ten_bits (k : Nat) : 10 ^ k ≤ 2 ^ (4 * k) := by
  rw [Nat.pow_mul]
  exact Nat.pow_le_pow_left (by decide) k
theorem bits_nat (n : Nat) : Builtin.Int.intBits (n : Int) = bl n := by
  unfold Builtin.Int.intBits bl
  by_cases h : n = 0
  · subst h; rfl
  · rw [if_neg (by simpa using h), if_neg h]
    rfl
structure FB (f : Fm) : Prop where
  ok : f.Ok
  p : f.p ≤ 128
  l : -1200 ≤ f.lo
  h : f.hi ≤ 1200
section
variable {P : Program} {w : World} {K : PySem.W.Frag} {mg : Str → Option Value} {base : Heap}

def sp_half_of (K : PySem.W.Frag) : Sp := fun vs H Q _ => ∃ (a : Addr) (f : Fm), vs = [.ref a] ∧ Frm K H a f ∧ 1 ≤ f.p ∧ f.p ≤ 200 ∧ Q (.int (f.half : Nat)) H
theorem ok_half_of (B : Bs K mg base) : OkD P w K mg base "half_of" 1 ["form"] (sp_half_of K) := by
  have S : FnScope ["form"] ["form"] (defScope (ts 8)) := ⟨rfl, rfl, rfl, by decide +kernel, rfl, by decide +kernel, by decide +kernel⟩
  refine mk_ok B 2 8 rfl rfl S (fun _ _ _ _ _ _ us hl => match us, hl with | [_], _ => rfl) (fun vs H Q E h => ?_) (fun f0 cdv A outer s H vs Q E hr h => ?_)
  · obtain ⟨a, f, rfl, hF, h1, h2, q⟩ := h; rfl
  · obtain ⟨a, f, rfl, hF, h1, h2, q⟩ := h
    have scn := S.nd
    refine ⟨_, (pss_one (ps_ret (pe_op op_shlW pe_int (pe_op op_sub (pe_ix ix_tup (pv 0) pe_int (fun _ _ => rfl)) pe_int)))), ?_⟩
    refine ⟨_, rfl, a, _, 0, _, rfl, rfl, hF, atI_nat (j := 0) rfl, _, _, rfl, rfl, _, _, rfl, rfl, cshl (n := 1) (by decide) (by omega) (by omega), rI_ ?_ q⟩
    unfold Fm.half
    rw [Int.one_mul, show ((f.p : Int) - 1).toNat = f.p - 1 by omega]
    push_cast
    rfl

def sp_count_of (K : PySem.W.Frag) : Sp := fun vs H Q _ => ∃ (a : Addr) (f : Fm), vs = [.ref a] ∧ Frm K H a f ∧ f.Ok ∧ f.p ≤ 200 ∧ f.hi - f.lo ≤ 10000 ∧ Q (.int (f.N : Nat)) H
theorem ok_count_of (B : Bs K mg base) : OkD P w K mg base "count_of" 2 ["form"] (sp_count_of K) := by
  have G_half_of := ok_half_of (P := P) (w := w) B
  have S : FnScope ["form", "precision", "low", "high"] ["form"] (defScope (ts 9)) := ⟨rfl, rfl, rfl, by decide +kernel, rfl, by decide +kernel, by decide +kernel⟩
  refine mk_ok B 3 9 rfl rfl S (fun _ _ _ _ _ _ us hl => match us, hl with | [_], _ => rfl) (fun vs H Q E h => ?_) (fun f0 cdv A outer s H vs Q E hr h => ?_)
  · obtain ⟨a, f, rfl, hF, ok, h2, h3, q⟩ := h; rfl
  · obtain ⟨a, f, rfl, hF, ok, h2, h3, q⟩ := h
    have scn := S.nd
    refine ⟨_, (pss_cons (ps_asg (pv 0) (pg_tup rfl (pgs_cons (pg_name (i := 1) scn rfl (.inl rfl)) (pgs_cons (pg_name (i := 2) scn rfl (.inl rfl)) (pgs_cons (pg_name (i := 3) scn rfl (.inl rfl)) pgs_nil)))))
      (pss_one (ps_ret (pe_op op_mulX (pe_op op_add (pe_op op_sub (pv 3) (pv 2)) pe_int) (pe_callD G_half_of (hr.mono (by decide)) (by rfl) (pa_cons (pv 0) pa_nil)))))), ?_⟩
    have h1 := ok.p1
    have lh := ok.lh
    refine ⟨_, rfl, a, _, rfl, hF, rfl, _, _, rfl, _, _, rfl, _, _, rfl, rfl, ?_⟩
    refine ⟨_, rfl, _, rfl, _, _, rfl, rfl, _, _, rfl, rfl, _, rfl, a, f, rfl, hF, h1, h2, ?_⟩
    refine ⟨_, _, rfl, rfl, cmul_of (a := 100) (b := 201) ?_ ?_ (by decide), rI_ ?_ q⟩
    · have : (2 : Nat) ^ 100 = 1267650600228229401496703205376 := by decide
      omega
    · have : f.half < 2 ^ 201 := Nat.pow_lt_pow_right (by decide) (by omega)
      omega
    · unfold Fm.N
      rw [Int.natCast_mul, Int.toNat_of_nonneg (by omega)]

def sp_parts_at (K : PySem.W.Frag) : Sp := fun vs H Q _ => ∃ (a : Addr) (f : Fm) (c : Nat), vs = [.ref a, .int (c : Int)] ∧ Frm K H a f ∧ f.Ok ∧ f.p ≤ 200 ∧ c < 2 ^ 400 ∧ ∀ p H', Same H H' → H' p = some (.tup [.int (f.m c : Nat), .int (f.e c)]) → Q (.ref p) H'
theorem ok_parts_at (B : Bs K mg base) : OkD P w K mg base "parts_at" 2 ["form", "code"] (sp_parts_at K) := by
  have G_half_of := ok_half_of (P := P) (w := w) B
  have S : FnScope ["form", "code", "half", "more"] ["form", "code"] (defScope (ts 10)) := ⟨rfl, rfl, rfl, by decide +kernel, rfl, by decide +kernel, by decide +kernel⟩
  refine mk_ok B 4 10 rfl rfl S (fun _ _ _ _ _ _ us hl => match us, hl with | [_, _], _ => rfl) (fun vs H Q E h => ?_) (fun f0 cdv A outer s H vs Q E hr h => ?_)
  · obtain ⟨a, f, c, rfl, hF, ok, h2, hc, q⟩ := h; rfl
  · obtain ⟨a, f, c, rfl, hF, ok, h2, hc, q⟩ := h
    have scn := S.nd
    refine ⟨_, (pss_cons (ps_set (i := 2) scn rfl (.inl rfl) (pe_callD G_half_of (hr.mono (by decide)) (by rfl) (pa_cons (pv 0) pa_nil)))
      (pss_cons (ps_set (i := 3) scn rfl (.inl rfl) (pe_callB (call_max2 rfl) (by rfl) (B.fre 55) (by decide +kernel) (pa_cons pe_int (pa_cons (pe_op op_sub (pe_op op_fdivW (pv 1) (pv 2)) pe_int) pa_nil))))
      (pss_one (ps_ret (pe_tup (pa_cons (pe_op op_sub (pv 1) (pe_op op_mulX (pv 3) (pv 2))) (pa_cons (pe_op op_add (pe_ix ix_tup (pv 0) pe_int (fun _ _ => rfl)) (pv 3)) pa_nil))))))), ?_⟩
    have h1 := ok.p1
    have hh := f.half_pos
    refine ⟨_, rfl, a, f, rfl, hF, h1, h2, ?_⟩
    have hh2 : f.half < 2 ^ 201 := Nat.pow_lt_pow_right (by decide) (by omega)
    refine ⟨_, rfl, _, rfl, _, _, rfl, rfl, cdiv (b := 201) (by omega) (by omega), _, _, rfl, rfl, _, _, rfl, ?_⟩
    have em : (if ((c : Int) / (f.half : Int)) - 1 > 0 then ((c : Int) / (f.half : Int)) - 1 else 0) = ((f.more c : Nat) : Int) := by
      rw [← Int.natCast_ediv]
      unfold Fm.more
      split <;> omega
    have hm : f.more c < 2 ^ 400 := Nat.lt_of_le_of_lt (Nat.le_trans (Nat.sub_le _ _) (Nat.div_le_self _ _)) hc
    refine ⟨_, rfl, _, rfl, _, rfl, _, _, rfl, rfl, ?_⟩
    rw [em]
    refine ⟨cmul_of (a := 400) (b := 201) (by omega) (by omega) (by decide), _, _, rfl, rfl, _, rfl, a, _, 1, _, rfl, rfl, hF, atI_nat (j := 1) rfl, _, rfl, _, _, rfl, rfl, l2, fun p hp => q p _ (same_new hp) (tup2_ (congrArg V.int ?_) rfl)⟩
    have e := f.code_split c
    have e1 : (c : Int) - (f.more c : Int) * (f.half : Int) = ((f.m c : Nat) : Int) := by
      rw [← Int.natCast_mul]
      omega
    exact e1

def sp_is_whole (K : PySem.W.Frag) : Sp := fun vs H Q _ => ∃ i : Int, vs = [.int i] ∧ Q (.bl true) H
theorem ok_is_whole (B : Bs K mg base) : OkD P w K mg base "is_whole" 1 ["value"] (sp_is_whole K) := by
  have S : FnScope ["value"] ["value"] (defScope (ts 5)) := ⟨rfl, rfl, rfl, by decide +kernel, rfl, by decide +kernel, by decide +kernel⟩
  refine mk_ok B 0 5 rfl rfl S (fun _ _ _ _ _ _ us hl => match us, hl with | [_], _ => rfl) (fun vs H Q E h => ?_) (fun f0 cdv A outer s H vs Q E hr h => ?_)
  · obtain ⟨i, rfl, q⟩ := h; rfl
  · obtain ⟨i, rfl, q⟩ := h
    have scn := S.nd
    refine ⟨_, (pss_one (ps_ret (pe_and (pe_callB call_isi (by rfl) (B.fre 53) (by decide +kernel) (pa_cons (pv 0) (pa_cons (pe_bltn (v := .ty "int") (by rfl) (B.fre 52) (by decide +kernel) rfl) pa_nil))) (pe_one (pe_not (pe_callB call_isi (by rfl) (B.fre 53) (by decide +kernel) (pa_cons (pv 0) (pa_cons (pe_bltn (v := .ty "bool") (by rfl) (B.fre 49) (by decide +kernel) rfl) pa_nil)))))))), ?_⟩
    refine ⟨_, rfl, _, _, _, _, true, rfl, .ty "int", .base (.int _), kit_ty (by decide +kernel), true, rfl, ?_⟩
    refine iteT ?_
    refine ⟨_, rfl, _, _, _, _, false, rfl, .ty "bool", .base (.int _), kit_ty (by decide +kernel), false, rfl, q⟩

def sp_is_between (K : PySem.W.Frag) : Sp := fun vs H Q _ => ∃ i a b : Int, vs = [.int i, .int a, .int b] ∧ a ≤ i ∧ i ≤ b ∧ Q (.bl true) H
theorem ok_is_between (B : Bs K mg base) : OkD P w K mg base "is_between" 2 ["value", "low", "high"] (sp_is_between K) := by
  have G_is_whole := ok_is_whole (P := P) (w := w) B
  have S : FnScope ["value", "low", "high"] ["value", "low", "high"] (defScope (ts 6)) := ⟨rfl, rfl, rfl, by decide +kernel, rfl, by decide +kernel, by decide +kernel⟩
  refine mk_ok B 1 6 rfl rfl S (fun _ _ _ _ _ _ us hl => match us, hl with | [_, _, _], _ => rfl) (fun vs H Q E h => ?_) (fun f0 cdv A outer s H vs Q E hr h => ?_)
  · obtain ⟨i, a, b, rfl, h1, h2, q⟩ := h; rfl
  · obtain ⟨i, a, b, rfl, h1, h2, q⟩ := h
    have scn := S.nd
    refine ⟨_, (pss_one (ps_ret (pe_and (pe_callD G_is_whole (hr.mono (by decide)) (by rfl) (pa_cons (pv 0) pa_nil)) (pe_one (pe_chain op_le op_le (pv 1) (pv 0) (pv 2)))))), ?_⟩
    refine ⟨_, rfl, i, rfl, true, rfl, iteT ?_⟩
    refine ⟨_, rfl, _, rfl, _, _, rfl, rfl, true, congrArg V.bl (decide_eq_true h1), iteT ?_⟩
    exact ⟨_, rfl, _, _, rfl, rfl, rB_ (decide_eq_true h2) q⟩

def sp_value_of (K : PySem.W.Frag) : Sp := fun vs H Q _ => ∃ (a : Addr) (f : Fm) (c : Nat), vs = [.ref a, .int (c : Int)] ∧ Frm K H a f ∧ FB f ∧ c < f.N ∧ ∀ p H', Same H H' → H' p = some (.tup [.int (f.m c : Nat), .int (f.e c)]) → Q (.ref p) H'
theorem ok_value_of (B : Bs K mg base) : OkD P w K mg base "value_of" 3 ["form", "code"] (sp_value_of K) := by
  have G_parts_at := ok_parts_at (P := P) (w := w) B
  have G_is_between := ok_is_between (P := P) (w := w) B
  have G_count_of := ok_count_of (P := P) (w := w) B
  have S : FnScope ["form", "code"] ["form", "code"] (defScope (ts 11)) := ⟨rfl, rfl, rfl, by decide +kernel, rfl, by decide +kernel, by decide +kernel⟩
  refine mk_ok B 5 11 rfl rfl S (fun _ _ _ _ _ _ us hl => match us, hl with | [_, _], _ => rfl) (fun vs H Q E h => ?_) (fun f0 cdv A outer s H vs Q E hr h => ?_)
  · obtain ⟨a, f, c, rfl, hF, fb, hc, q⟩ := h; rfl
  · obtain ⟨a, f, c, rfl, hF, fb, hc, q⟩ := h
    have scn := S.nd
    refine ⟨_, (pss_cons (ps_if (pt_not (pt_val (pe_callD G_is_between (hr.mono (by decide)) (by rfl) (pa_cons (pv 1) (pa_cons pe_int (pa_cons (pe_op op_sub (pe_callD G_count_of (hr.mono (by decide)) (by rfl) (pa_cons (pv 0) pa_nil)) pe_int) pa_nil))))))
        (pss_one ps_never)
        pss_nil)
      (pss_one (ps_ret (pe_callD G_parts_at (hr.mono (by decide)) (by rfl) (pa_cons (pv 0) (pa_cons (pv 1) pa_nil)))))), ?_⟩
    have b1 := fb.p
    have b2 := fb.l
    have b3 := fb.h
    have hN : f.N < 2 ^ 400 := by
      unfold Fm.N Fm.half
      have e1 : (f.hi - f.lo + 2).toNat < 2 ^ 200 := Nat.lt_of_lt_of_le (show (f.hi - f.lo + 2).toNat < 2 ^ 12 by omega) (Nat.pow_le_pow_right (by decide) (by decide))
      have e2 : 2 ^ (f.p - 1) < 2 ^ 200 := Nat.pow_lt_pow_right (by decide) (by omega)
      have e3 : (2 : Nat) ^ 400 = 2 ^ 200 * 2 ^ 200 := by rw [← Nat.pow_add]
      rw [e3]
      exact Nat.mul_lt_mul'' e1 e2
    refine ⟨_, rfl, _, rfl, a, f, rfl, hF, fb.ok, by omega, by omega, _, _, rfl, rfl, _, 0, _, rfl, by omega, by omega, true, rfl, iteF ?_⟩
    exact ⟨_, rfl, _, rfl, a, f, c, rfl, hF, fb.ok, by omega, by omega, q⟩

def sp_ten (K : PySem.W.Frag) : Sp := fun vs H Q _ => ∃ k : Nat, vs = [.int (k : Int)] ∧ k ≤ 5000 ∧ Q (.int (10 ^ k : Nat)) H
theorem ok_ten (B : Bs K mg base) : OkD P w K mg base "ten" 1 ["power"] (sp_ten K) := by
  have S : FnScope ["power", "found", "base", "left"] ["power"] (defScope (ts 13)) := ⟨rfl, rfl, rfl, by decide +kernel, rfl, by decide +kernel, by decide +kernel⟩
  refine mk_ok B 6 13 rfl rfl S (fun _ _ _ _ _ _ us hl => match us, hl with | [_], _ => rfl) (fun vs H Q E h => ?_) (fun f0 cdv A outer s H vs Q E hr h => ?_)
  · obtain ⟨k, rfl, hk, q⟩ := h; rfl
  · obtain ⟨k, rfl, hk, q⟩ := h
    have scn := S.nd
    refine ⟨_, (pss_cons (ps_par3 (i := 1) (j := 2) (l := 3) rfl scn rfl rfl rfl (by decide) (by decide) (by decide) rfl rfl rfl (pa_cons pe_int (pa_cons pe_int (pa_cons (pv 0) pa_nil))) (by rfl))
      (pss_cons (ps_while PassesOwn.never (pt_cmpR op_gt (pv 3) pe_int (nomark _))
        (pss_cons (ps_if (pt_cmpR op_eq (pe_op op_mod (pv 3) pe_int) pe_int (nomark _))
            (pss_one (ps_set (i := 1) scn rfl (.inl rfl) (pe_op op_mulX (pv 1) (pv 2))))
            pss_nil)
          (pss_one (ps_par (i := 2) (j := 3) rfl scn rfl rfl (by decide) rfl rfl (pa_cons (pe_op op_mulX (pv 2) (pv 2)) (pa_cons (pe_op op_fdivW (pv 3) pe_int) pa_nil)) (by rfl)))))
      (pss_one (ps_ret (pv 1))))), ?_⟩
    have hb : 10 ^ k < 2 ^ 20001 := Nat.lt_of_le_of_lt (ten_bits k) (Nat.pow_lt_pow_right (by decide) (by omega))
    refine ⟨_, rfl, _, _, _, rfl, ?_⟩
    refine ⟨fun m σ H1 => ∃ F b : Nat, σ = [some (.int (k : Int)), some (.int (F : Int)), some (.int (b : Int)), some (.int (m : Int))] ∧ H1 = H ∧ F * b ^ m = 10 ^ k, ⟨k, 1, 10, rfl, rfl, Nat.one_mul _⟩, fun m σ H1 hW => ?_⟩
    obtain ⟨F, b, rfl, rfl, e⟩ := hW
    refine ⟨_, rfl, _, _, rfl, rfl, _, rfl, ifD (fun h => ?_) (fun h => ?_)⟩
    · have hm : 0 < m := by omega
      have hp : 0 < 10 ^ k := Nat.pow_pos (by decide)
      have hF0 : 0 < F := Nat.pos_of_ne_zero fun z => by rw [z, Nat.zero_mul] at e; omega
      have hb0 : 0 < b ^ m := Nat.pos_of_ne_zero fun z => by rw [z, Nat.mul_zero] at e; omega
      have hF1 : F ≤ 10 ^ k := by rw [← e]; exact Nat.le_mul_of_pos_right _ hb0
      have hb1 : b ≤ 10 ^ k := by
        rw [← e]
        exact Nat.le_trans (Nat.le_self_pow (by omega) b) (Nat.le_mul_of_pos_left _ hF0)
      have hF2 : (F : Int).natAbs < 2 ^ 20001 := by rw [Int.natAbs_natCast]; exact Nat.lt_of_le_of_lt hF1 hb
      have hb2 : (b : Int).natAbs < 2 ^ 20001 := by rw [Int.natAbs_natCast]; exact Nat.lt_of_le_of_lt hb1 hb
      have em : m = m % 2 + 2 * (m / 2) := by omega
      refine ⟨fun σ' H' => ∃ F' b' : Nat, σ' = [some (.int (k : Int)), some (.int (F' : Int)), some (.int (b' : Int)), some (.int ((m / 2 : Nat) : Int))] ∧ H' = H1 ∧ F' * b' ^ (m / 2) = 10 ^ k, fun σ' H' hN => ?_, ?_⟩
      · obtain ⟨F', b', e1, e2, e3⟩ := hN
        exact ⟨m / 2, by omega, F', b', e1, e2, e3⟩
      refine ⟨_, rfl, _, _, rfl, rfl, (show (0 : Int) < 2 by decide), rfl, _, rfl, ifD (fun h2 => ?_) (fun h2 => ?_)⟩
      · have h3 : m % 2 = 1 := by
          have := V.int.inj h2
          omega
        refine ⟨_, rfl, _, rfl, _, _, rfl, rfl, cmul_of hF2 hb2 (by decide), ?_⟩
        refine ⟨_, rfl, _, rfl, _, _, rfl, rfl, cmul_of hb2 hb2 (by decide), _, rfl, _, _, rfl, rfl, cdiv (b := 2) (by decide) (by decide), _, _, rfl, F * b, b * b, ?_, rfl, ?_⟩
        · rw [Int.natCast_mul, Int.natCast_mul, Int.natCast_ediv]
          rfl
        · rw [← e]
          conv => rhs; rw [em, h3, Nat.pow_add, Nat.pow_mul]
          rw [Nat.pow_one, Nat.pow_two]
          grind
      · have h3 : m % 2 = 0 := by
          have : ¬ ((m : Int) % 2 = 1) := fun z => h2 (congrArg V.int z)
          omega
        refine ⟨_, rfl, _, rfl, _, _, rfl, rfl, cmul_of hb2 hb2 (by decide), _, rfl, _, _, rfl, rfl, cdiv (b := 2) (by decide) (by decide), _, _, rfl, F, b * b, ?_, rfl, ?_⟩
        · rw [Int.natCast_mul, Int.natCast_ediv]
          rfl
        · rw [← e]
          conv => rhs; rw [em, h3, Nat.zero_add, Nat.pow_mul]
          rw [Nat.pow_two]
    · have hm : m = 0 := by omega
      subst hm
      rw [Nat.pow_zero, Nat.mul_one] at e
      exact ⟨_, rfl, rI_ (by rw [e]) q⟩

end
end NT
/-! text W2 -/
set_option Elab.async false
set_option linter.all false
set_option maxRecDepth 100000
set_option maxHeartbeats 2000000
namespace NT
open PySem PySem.Spec PyProof.Rows L2 PySem.NumText
theorem nab (n : Nat) : (n : Int).natAbs = n := Int.natAbs_natCast n
theorem cmulN {a b n m : Nat} (hn : n < 2 ^ a) (hm : m < 2 ^ b) (h : a + b ≤ 134217728 := by decide) : CMulX (n : Int) (m : Int) := cmul_of (by rw [nab]; exact hn) (by rw [nab]; exact hm) h
theorem cdivN {n : Int} {d b : Nat} (h : 0 < d) (hb : d < 2 ^ b) (h0 : 0 < b := by decide) (h9 : b ≤ 9000 := by decide) : CDivW n (d : Int) := cdiv (by omega) (by rw [nab]; exact hb) h0 h9
theorem cdivPN {n : Int} {d b : Nat} (h : 0 < d) (hb : d < 2 ^ b) (h0 : 0 < b := by decide) (h9 : b ≤ 9000 := by decide) : CDivP n (d : Int) :=
  ⟨by omega, PyProof.noPylong_of_log2 (cdivN (n := n) h hb h0 h9).2⟩
theorem shl_nat (n : Nat) {k : Int} : (n : Int) * 2 ^ k.toNat = ((n * p2 k : Nat) : Int) := by
  unfold p2
  push_cast
  rfl
theorem p2_lt {k : Int} {a : Nat} (h : k < a) (ha : 0 < a) : p2 k < 2 ^ a := Nat.pow_lt_pow_right (by decide) (by omega)
theorem mul_lt2 {n m a b : Nat} (hn : n < 2 ^ a) (hm : m < 2 ^ b) : n * m < 2 ^ (a + b) := by
  rw [Nat.pow_add]
  exact Nat.mul_lt_mul'' hn hm
theorem lt_more {n a b : Nat} (h : n < 2 ^ a) (hab : a ≤ b := by decide) : n < 2 ^ b := Nat.lt_of_lt_of_le h (Nat.pow_le_pow_right (by decide) hab)
theorem add_lt2 {n m a : Nat} (hn : n < 2 ^ a) (hm : m < 2 ^ a) : n + m < 2 ^ (a + 1) := by
  rw [Nat.pow_succ]
  omega
theorem nneg {n d : Nat} (hd : 0 < d) : -(-(n : Int) / (d : Int)) = (((n + d - 1) / d : Nat) : Int) := by
  have h1 := Nat.div_add_mod (n + d - 1) d
  have h2 := Nat.mod_lt (n + d - 1) hd
  generalize (n + d - 1) / d = k at *
  generalize (n + d - 1) % d = r at *
  have e : (-(n : Int)) / (d : Int) = -(k : Int) := by
    have key : (d : Int) * (k : Int) = ((d * k : Nat) : Int) := by push_cast; rfl
    have key2 : (d : Int) * -(k : Int) = -((d * k : Nat) : Int) := by rw [Int.mul_neg, key]
    exact ((Int.ediv_emod_unique (a := -(n : Int)) (b := (d : Int)) (r := (d : Int) * (k : Int) - n) (q := -(k : Int)) (by omega)).mpr ⟨by rw [key, key2]; omega, by rw [key]; omega, by rw [key]; omega⟩).1
  rw [e]
  omega
theorem below_pos {n d : Nat} {k : Int} (h : 0 ≤ k) : below n d k ↔ n < d * p2 k := by
  unfold below
  rw [p2_ge (show -k ≤ 0 by omega), Nat.mul_one]
theorem below_neg {n d : Nat} {k : Int} (h : k ≤ 0) : below n d k ↔ n * p2 (-k) < d := by
  unfold below
  rw [p2_ge h, Nat.mul_one]
section
variable {P : Program} {w : World} {K : PySem.W.Frag} {mg : Str → Option Value} {base : Heap}

def sp_fraction_of (K : PySem.W.Frag) : Sp := fun vs H Q _ => ∃ (a : Addr) (d : Nat) (q : Int), vs = [.ref a] ∧ SqT K H a [.int (d : Int), .int q] ∧ d < 2 ^ 20000 ∧ -5000 ≤ q ∧ q ≤ 5000 ∧
  ∀ p H', Same H H' → H' p = some (.tup [.int (d * 10 ^ q.toNat : Nat), .int (10 ^ (-q).toNat : Nat)]) → Q (.ref p) H'
theorem ok_fraction_of (B : Bs K mg base) : OkD P w K mg base "fraction_of" 2 ["decimal"] (sp_fraction_of K) := by
  have G_ten := ok_ten (P := P) (w := w) B
  have S : FnScope ["decimal", "digits", "power"] ["decimal"] (defScope (ts 16)) := ⟨rfl, rfl, rfl, by decide +kernel, rfl, by decide +kernel, by decide +kernel⟩
  refine mk_ok B 8 16 rfl rfl S (fun _ _ _ _ _ _ us hl => match us, hl with | [_], _ => rfl) (fun vs H Q E h => ?_) (fun f0 cdv A outer s H vs Q E hr h => ?_)
  · obtain ⟨a, d, z, rfl, hT, hd, h1, h2, q⟩ := h; rfl
  · obtain ⟨a, d, z, rfl, hT, hd, h1, h2, q⟩ := h
    have scn := S.nd
    refine ⟨_, (pss_cons (ps_asg (pv 0) (pg_tup rfl (pgs_cons (pg_name (i := 1) scn rfl (.inl rfl)) (pgs_cons (pg_name (i := 2) scn rfl (.inl rfl)) pgs_nil))))
      (pss_one (ps_ret (pe_ifExp (pt_cmpR op_ge (pv 2) pe_int (nomark _)) (pe_tup (pa_cons (pe_op op_mulX (pv 1) (pe_callD G_ten (hr.mono (by decide)) (by rfl) (pa_cons (pv 2) pa_nil))) (pa_cons pe_int pa_nil))) (pe_tup (pa_cons (pv 1) (pa_cons (pe_callD G_ten (hr.mono (by decide)) (by rfl) (pa_cons (pe_un un_neg (pv 2)) pa_nil)) pa_nil))))))), ?_⟩
    refine ⟨_, rfl, a, _, rfl, hT, rfl, _, _, rfl, _, _, rfl, rfl, ?_⟩
    refine ⟨_, rfl, _, _, rfl, rfl, _, rfl, ifD (fun h => ?_) (fun h => ?_)⟩
    · have e : z = ((z.toNat : Nat) : Int) := (Int.toNat_of_nonneg h).symm
      have hb : 10 ^ z.toNat < 2 ^ 20001 := Nat.lt_of_le_of_lt (ten_bits _) (Nat.pow_lt_pow_right (by decide) (by omega))
      refine ⟨_, rfl, _, rfl, z.toNat, by rw [← e]; rfl, by omega, _, _, rfl, rfl, cmulN hd hb, l2, fun p hp => q p _ (same_new hp) (tup2_ (congrArg V.int ?_) (congrArg V.int ?_))⟩
      · push_cast; rfl
      · rw [show (-z).toNat = 0 by omega]; rfl
    · have e : -z = (((-z).toNat : Nat) : Int) := (Int.toNat_of_nonneg (by omega)).symm
      refine ⟨_, rfl, _, rfl, _, rfl, (-z).toNat, by rw [← e]; rfl, by omega, l2, fun p hp => q p _ (same_new hp) (tup2_ (congrArg V.int ?_) rfl)⟩
      rw [show z.toNat = 0 by omega, Nat.pow_zero, Nat.mul_one]

def sp_is_below (K : PySem.W.Frag) : Sp := fun vs H Q _ => ∃ (n d : Nat) (k : Int), vs = [.int (n : Int), .int (d : Int), .int k] ∧ n < 2 ^ 20000 ∧ d < 2 ^ 20000 ∧ -20000 ≤ k ∧ k ≤ 20000 ∧ Q (.bl (decide (below n d k))) H
theorem ok_is_below (B : Bs K mg base) : OkD P w K mg base "is_below" 1 ["num", "den", "power"] (sp_is_below K) := by
  have S : FnScope ["num", "den", "power"] ["num", "den", "power"] (defScope (ts 18)) := ⟨rfl, rfl, rfl, by decide +kernel, rfl, by decide +kernel, by decide +kernel⟩
  refine mk_ok B 9 18 rfl rfl S (fun _ _ _ _ _ _ us hl => match us, hl with | [_, _, _], _ => rfl) (fun vs H Q E h => ?_) (fun f0 cdv A outer s H vs Q E hr h => ?_)
  · obtain ⟨n, d, k, rfl, hn, hd, h1, h2, q⟩ := h; rfl
  · obtain ⟨n, d, k, rfl, hn, hd, h1, h2, q⟩ := h
    have scn := S.nd
    refine ⟨_, (pss_one (ps_ret (pe_ifExp (pt_cmpR op_ge (pv 2) pe_int (nomark _)) (pe_cmpR op_lt (pv 0) (pe_op op_shlW (pv 1) (pv 2)) (nomark _)) (pe_cmpR op_lt (pe_op op_shlW (pv 0) (pe_un un_neg (pv 2))) (pv 1) (nomark _))))), ?_⟩
    refine ⟨_, rfl, _, _, rfl, rfl, _, rfl, ifD (fun h => ?_) (fun h => ?_)⟩
    · refine ⟨_, rfl, _, rfl, _, rfl, _, _, rfl, rfl, cshl (n := 20000) (by rw [nab]; exact hd) h (by omega), _, _, rfl, rfl, rB_ ?_ q⟩
      rw [shl_nat]
      exact decide_eq_decide.mpr (Int.ofNat_lt.trans (below_pos h).symm)
    · refine ⟨_, rfl, _, rfl, _, rfl, _, _, rfl, rfl, cshl (n := 20000) (by rw [nab]; exact hn) (by omega) (by omega), _, rfl, _, _, rfl, rfl, rB_ ?_ q⟩
      rw [shl_nat]
      exact decide_eq_decide.mpr (Int.ofNat_lt.trans (below_neg (by omega)).symm)

def sp_exponent_at (K : PySem.W.Frag) : Sp := fun vs H Q _ => ∃ (a : Addr) (f : Fm) (n d : Nat), vs = [.ref a, .int (n : Int), .int (d : Int)] ∧ Frm K H a f ∧ FB f ∧ n < 2 ^ 4000 ∧ d < 2 ^ 4000 ∧ Q (.int (f.expo n d)) H
theorem ok_exponent_at (B : Bs K mg base) : OkD P w K mg base "exponent_at" 2 ["form", "num", "den"] (sp_exponent_at K) := by
  have G_is_below := ok_is_below (P := P) (w := w) B
  have S : FnScope ["form", "num", "den", "power", "precision", "low", "high"] ["form", "num", "den"] (defScope (ts 19)) := ⟨rfl, rfl, rfl, by decide +kernel, rfl, by decide +kernel, by decide +kernel⟩
  refine mk_ok B 10 19 rfl rfl S (fun _ _ _ _ _ _ us hl => match us, hl with | [_, _, _], _ => rfl) (fun vs H Q E h => ?_) (fun f0 cdv A outer s H vs Q E hr h => ?_)
  · obtain ⟨a, f, n, d, rfl, hF, fb, hn, hd, q⟩ := h; rfl
  · obtain ⟨a, f, n, d, rfl, hF, fb, hn, hd, q⟩ := h
    have scn := S.nd
    refine ⟨_, (pss_cons (ps_asg (pv 0) (pg_tup rfl (pgs_cons (pg_name (i := 4) scn rfl (.inl rfl)) (pgs_cons (pg_name (i := 5) scn rfl (.inl rfl)) (pgs_cons (pg_name (i := 6) scn rfl (.inl rfl)) pgs_nil)))))
      (pss_cons (ps_if (pt_val (pe_callD G_is_below (hr.mono (by decide)) (by rfl) (pa_cons (pv 1) (pa_cons (pv 2) (pa_cons (pe_op op_add (pv 4) (pv 5)) pa_nil)))))
        (pss_one (ps_ret (pv 5)))
        pss_nil)
      (pss_cons (ps_if (pt_not (pt_val (pe_callD G_is_below (hr.mono (by decide)) (by rfl) (pa_cons (pv 1) (pa_cons (pv 2) (pa_cons (pe_op op_add (pv 4) (pv 6)) pa_nil))))))
        (pss_one (ps_ret (pv 6)))
        pss_nil)
      (pss_cons (ps_set (i := 3) scn rfl (.inl rfl) (pe_op op_sub (pe_bits (pv 1)) (pe_bits (pv 2))))
      (pss_one (ps_ret (pe_op op_add (pe_op op_sub (pv 3) (pv 4)) (pe_callTy call_int1 (by rfl) (B.fre 52) (by decide +kernel) (pa_cons (pe_not (pe_callD G_is_below (hr.mono (by decide)) (by rfl) (pa_cons (pv 1) (pa_cons (pv 2) (pa_cons (pv 3) pa_nil))))) pa_nil))))))))), ?_⟩
    have b1 := fb.p
    have b2 := fb.l
    have b3 := fb.h
    have lh := fb.ok.lh
    have hl : ∀ x : Nat, x < 2 ^ 4000 → bl x ≤ 4001 := fun x hx => by
      unfold bl
      split
      · omega
      · rename_i h0
        have := (Nat.log2_lt h0).mpr hx
        omega
    have bn := hl n hn
    have bd := hl d hd
    refine ⟨_, rfl, a, _, rfl, hF, rfl, _, _, rfl, _, _, rfl, _, _, rfl, rfl, ?_⟩
    refine ⟨_, rfl, _, rfl, _, rfl, _, rfl, _, _, rfl, rfl, n, d, _, rfl, lt_more hn, lt_more hd, by omega, by omega, _, rfl, ifD (fun h => ?_) (fun h => ?_)⟩
    · exact ⟨_, rfl, rI_ (by unfold Fm.expo; rw [if_pos h]) q⟩
    refine ⟨_, rfl, _, rfl, _, rfl, _, rfl, _, _, rfl, rfl, n, d, _, rfl, lt_more hn, lt_more hd, by omega, by omega, _, rfl, ifN (fun h2 => ?_) (fun h2 => ?_)⟩
    · exact ⟨_, rfl, rI_ (by unfold Fm.expo; rw [if_neg h, if_neg h2]) q⟩
    refine ⟨_, rfl, _, rfl, _, rfl, _, rfl, _, _, rfl, rfl, ?_⟩
    refine ⟨_, rfl, _, rfl, _, _, rfl, rfl, _, rfl, _, rfl, _, rfl, n, d, _, rfl, lt_more hn, lt_more hd, ?_, ?_, _, rfl, .inr ⟨_, rfl, _, _, rfl, rfl, rI_ ?_ q⟩⟩
    · rw [bits_nat, bits_nat]; omega
    · rw [bits_nat, bits_nat]; omega
    · rw [bits_nat, bits_nat]
      unfold Fm.expo
      rw [if_neg h, if_pos h2]
      by_cases h3 : below n d ((bl n : Int) - (bl d : Int))
      · rw [if_pos h3, decide_eq_true h3]; rfl
      · rw [if_neg h3, decide_eq_false h3]; rfl

def sp_position_at (K : PySem.W.Frag) : Sp := fun vs H Q _ => ∃ (a : Addr) (f : Fm) (n d : Nat), vs = [.ref a, .int (n : Int), .int (d : Int)] ∧ Frm K H a f ∧ FB f ∧ n < 2 ^ 4000 ∧ 0 < d ∧ d < 2 ^ 4000 ∧
  ∀ p H', Same H H' → H' p = some (.tup [.int (f.part n d : Nat), .int (f.whole n d : Nat)]) → Q (.ref p) H'
theorem ok_position_at (B : Bs K mg base) : OkD P w K mg base "position_at" 3 ["form", "num", "den"] (sp_position_at K) := by
  have G_exponent_at := ok_exponent_at (P := P) (w := w) B
  have G_half_of := ok_half_of (P := P) (w := w) B
  have S : FnScope ["form", "num", "den", "exponent", "part", "whole"] ["form", "num", "den"] (defScope (ts 20)) := ⟨rfl, rfl, rfl, by decide +kernel, rfl, by decide +kernel, by decide +kernel⟩
  refine mk_ok B 11 20 rfl rfl S (fun _ _ _ _ _ _ us hl => match us, hl with | [_, _, _], _ => rfl) (fun vs H Q E h => ?_) (fun f0 cdv A outer s H vs Q E hr h => ?_)
  · obtain ⟨a, f, n, d, rfl, hF, fb, hn, h0, hd, q⟩ := h; rfl
  · obtain ⟨a, f, n, d, rfl, hF, fb, hn, h0, hd, q⟩ := h
    have scn := S.nd
    refine ⟨_, (pss_cons (ps_set (i := 3) scn rfl (.inl rfl) (pe_callD G_exponent_at (hr.mono (by decide)) (by rfl) (pa_cons (pv 0) (pa_cons (pv 1) (pa_cons (pv 2) pa_nil)))))
      (pss_cons (ps_if (pt_cmpR op_ge (pv 3) pe_int (nomark _))
        (pss_one (ps_par (i := 4) (j := 5) rfl scn rfl rfl (by decide) rfl rfl (pa_cons (pv 1) (pa_cons (pe_op op_shlW (pv 2) (pv 3)) pa_nil)) (by rfl)))
        (pss_one (ps_par (i := 4) (j := 5) rfl scn rfl rfl (by decide) rfl rfl (pa_cons (pe_op op_shlW (pv 1) (pe_un un_neg (pv 3))) (pa_cons (pv 2) pa_nil)) (by rfl))))
      (pss_one (ps_ret (pe_tup (pa_cons (pe_op op_add (pe_op op_mulX (pe_op op_mulX (pe_op op_sub (pv 3) (pe_ix ix_tup (pv 0) pe_int (fun _ _ => rfl))) (pe_callD G_half_of (hr.mono (by decide)) (by rfl) (pa_cons (pv 0) pa_nil))) (pv 5)) (pv 4)) (pa_cons (pv 5) pa_nil))))))), ?_⟩
    have b1 := fb.p
    have b2 := fb.l
    have b3 := fb.h
    have hE := fb.ok |> fun ok => f.expo_is ok (n := n) h0
    have e1 := hE.l
    have e2 := hE.h
    have hh : f.half < 2 ^ 128 := Nat.pow_lt_pow_right (by decide) (by omega)
    have hw : f.whole n d < 2 ^ 5300 := lt_more (mul_lt2 hd (p2_lt (a := 1201) (by omega) (by decide)))
    have hx : f.expo n d - f.lo = (((f.expo n d - f.lo).toNat : Nat) : Int) := (Int.toNat_of_nonneg (by omega)).symm
    have hx2 : (f.expo n d - f.lo).toNat < 2 ^ 20 := Nat.lt_of_lt_of_le (show (f.expo n d - f.lo).toNat < 2 ^ 12 by omega) (by decide)
    refine ⟨_, rfl, _, rfl, _, rfl, a, f, n, d, rfl, hF, fb, hn, hd, ?_⟩
    have tail : ∀ (y4 y5 : Nat), y4 = n * p2 (-(f.expo n d)) → y5 = f.whole n d → ∀ H1 : Hp, H1 = H → (tRet (tTup (tCons (tOp (rI0 fun i j => .int (i + j)) (tOp (rI CMulX fun i j => .int (i * j)) (tOp (rI CMulX fun i j => .int (i * j)) (tOp (rI0 fun i j => .int (i - j)) (tVar 3) (tOp (rIxT K) (tVar 0) (tC (.int 1)))) (tCall (sp_half_of K) [] E0 (tCons (tVar 0) tNil))) (tVar 5)) (tVar 4)) (tCons (tVar 5) tNil)))) { nx := fun _ H' => Q .non H', rt := Q } [some (.ref a), some (.int (n : Int)), some (.int (d : Int)), some (.int (f.expo n d)), some (.int (y4 : Int)), some (.int (y5 : Int))] H1 := by
      intro y4 y5 h4 h5 H1 hH
      subst h4 h5 hH
      refine ⟨_, rfl, _, rfl, a, _, 1, _, rfl, rfl, hF, atI_nat (j := 1) rfl, _, _, rfl, rfl, _, rfl, a, f, rfl, hF, fb.ok.p1, by omega, ?_⟩
      have c1 : CMulX (f.expo n d - f.lo) (f.half : Int) := by rw [hx]; exact cmulN hx2 hh
      have e3 : (f.expo n d - f.lo) * (f.half : Int) = (((f.expo n d - f.lo).toNat * f.half : Nat) : Int) := by rw [Int.natCast_mul, ← hx]
      have c2 : CMulX ((f.expo n d - f.lo) * (f.half : Int)) (f.whole n d : Int) := by rw [e3]; exact cmulN (mul_lt2 hx2 hh) hw
      refine ⟨_, _, rfl, rfl, c1, _, rfl, _, _, rfl, rfl, c2, _, rfl, _, _, rfl, rfl, _, rfl, l2, fun p hp => q p _ (same_new hp) (tup2_ (congrArg V.int ?_) rfl)⟩
      rw [e3]
      unfold Fm.part
      push_cast
      rfl
    refine ⟨_, rfl, _, _, rfl, rfl, _, rfl, ifD (fun h => ?_) (fun h => ?_)⟩
    · refine ⟨_, rfl, _, rfl, _, rfl, _, _, rfl, rfl, cshl (n := 4000) (by rw [nab]; exact hd) h (by omega), _, _, rfl, ?_⟩
      have t := tail (n * p2 (-(f.expo n d))) (f.whole n d) rfl rfl H rfl
      rw [p2_ge (show -(f.expo n d) ≤ 0 by omega), Nat.mul_one] at t
      have e4 : (d : Int) * 2 ^ (f.expo n d).toNat = (f.whole n d : Int) := shl_nat d
      rw [← e4] at t
      exact t
    · refine ⟨_, rfl, _, rfl, _, rfl, _, _, rfl, rfl, cshl (n := 4000) (by rw [nab]; exact hn) (by omega) (by omega), _, rfl, _, _, rfl, ?_⟩
      have t := tail (n * p2 (-(f.expo n d))) (f.whole n d) rfl rfl H rfl
      have e4 : (n : Int) * 2 ^ (-(f.expo n d)).toNat = ((n * p2 (-(f.expo n d)) : Nat) : Int) := shl_nat n
      have e5 : f.whole n d = d := by unfold Fm.whole; rw [p2_ge (show f.expo n d ≤ 0 by omega), Nat.mul_one]
      rw [← e4, e5] at t
      exact t

end
end NT
/-! text W3 -/
set_option Elab.async false
set_option linter.all false
set_option maxRecDepth 100000
set_option maxHeartbeats 2000000
namespace NT
open PySem PySem.Spec PyProof.Rows L2 PySem.NumText
section
variable {P : Program} {w : World} {K : PySem.W.Frag} {mg : Str → Option Value} {base : Heap}

def sp_nearest (K : PySem.W.Frag) : Sp := fun vs H Q _ => ∃ n d : Nat, vs = [.int (n : Int), .int (d : Int)] ∧ n < 2 ^ 20000 ∧ 0 < d ∧ d < 2 ^ 8000 ∧ ∀ H', Same H H' → Q (.int (nearest n d : Nat)) H'
theorem ok_nearest (B : Bs K mg base) : OkD P w K mg base "nearest" 1 ["num", "den"] (sp_nearest K) := by
  have S : FnScope ["num", "den", "below", "rest"] ["num", "den"] (defScope (ts 21)) := ⟨rfl, rfl, rfl, by decide +kernel, rfl, by decide +kernel, by decide +kernel⟩
  refine mk_ok B 12 21 rfl rfl S (fun _ _ _ _ _ _ us hl => match us, hl with | [_, _], _ => rfl) (fun vs H Q E h => ?_) (fun f0 cdv A outer s H vs Q E hr h => ?_)
  · obtain ⟨n, d, rfl, hn, h0, hd, q⟩ := h; rfl
  · obtain ⟨n, d, rfl, hn, h0, hd, q⟩ := h
    have scn := S.nd
    refine ⟨_, (pss_cons (ps_asg (pe_callB call_divmodW (by rfl) (B.fre 50) (by decide +kernel) (pa_cons (pv 0) (pa_cons (pv 1) pa_nil))) (pg_tup rfl (pgs_cons (pg_name (i := 2) scn rfl (.inl rfl)) (pgs_cons (pg_name (i := 3) scn rfl (.inl rfl)) pgs_nil))))
      (pss_one (ps_ret (pe_op op_add (pv 2) (pe_callTy call_int1 (by rfl) (B.fre 52) (by decide +kernel) (pa_cons (pe_or (pe_cmpR op_gt (pe_op op_mulX pe_int (pv 3)) (pv 1) (nomark _)) (pe_one (pe_and (pe_cmpR op_eq (pe_op op_mulX pe_int (pv 3)) (pv 1) (nomark _)) (pe_one (pe_cmpR op_eq (pe_op op_mod (pv 2) pe_int) pe_int (nomark _)))))) pa_nil)))))), ?_⟩
    refine ⟨_, rfl, _, rfl, _, _, rfl, cdivPN h0 hd, fun p hp => ?_⟩
    have q2 := q _ (same_new (o := .tup [.int ((n : Int) / (d : Int)), .int ((n : Int) % (d : Int))]) hp)
    refine ⟨p, _, rfl, sq_t, rfl, _, _, rfl, _, _, rfl, rfl, ?_⟩
    have hr : n % d < 2 ^ 8000 := Nat.lt_trans (Nat.mod_lt n h0) hd
    have c2 : CMulX 2 ((n : Int) % (d : Int)) := by rw [← Int.natCast_emod]; exact cmulN (n := 2) (a := 2) (by decide) hr
    have n1 : (2 * (n % d) > d ∨ (2 * (n % d) = d ∧ n / d % 2 = 1)) → ((nearest n d : Nat) : Int) = (n : Int) / (d : Int) + 1 := fun z => by
      unfold nearest
      rw [if_pos z]
      push_cast
      rfl
    have n0 : ¬ (2 * (n % d) > d ∨ (2 * (n % d) = d ∧ n / d % 2 = 1)) → ((nearest n d : Nat) : Int) = (n : Int) / (d : Int) + 0 := fun z => by
      unfold nearest
      rw [if_neg z]
      push_cast
      rfl
    refine ⟨_, rfl, _, rfl, _, _, rfl, rfl, c2, _, rfl, _, _, rfl, rfl, _, rfl, ifD (fun h => ?_) (fun h => ?_)⟩
    · clear hn hd c2 hr
      exact .inr ⟨_, rfl, _, _, rfl, rfl, rI_ (n1 (.inl (by omega))).symm q2⟩
    refine ⟨_, rfl, _, _, rfl, rfl, c2, _, rfl, rfl, _, rfl, ifD (fun h2 => ?_) (fun h2 => ?_)⟩
    · have h2' : 2 * ((n : Int) % (d : Int)) = (d : Int) := V.int.inj h2
      refine ⟨_, rfl, _, _, rfl, rfl, (show (0 : Int) < 2 by decide), rfl, .inr ⟨_, rfl, _, _, rfl, rfl, rI_ ?_ q2⟩⟩
      clear hn hd c2 hr
      by_cases h3 : n / d % 2 = 1
      · have e : decide (V.int ((n : Int) / (d : Int) % 2) = V.int 1) = true := decide_eq_true (congrArg V.int (by rw [← Int.natCast_ediv]; omega))
        show _ + (if decide (V.int ((n : Int) / (d : Int) % 2) = V.int 1) = true then (1 : Int) else 0) = _
        rw [e, n1 (.inr ⟨by omega, h3⟩)]
        rfl
      · have e : decide (V.int ((n : Int) / (d : Int) % 2) = V.int 1) = false := decide_eq_false fun z => h3 (by have := V.int.inj z; rw [← Int.natCast_ediv] at this; omega)
        show _ + (if decide (V.int ((n : Int) / (d : Int) % 2) = V.int 1) = true then (1 : Int) else 0) = _
        rw [e, n0 (by omega)]
        rfl
    · have h2' : ¬ 2 * ((n : Int) % (d : Int)) = (d : Int) := fun z => h2 (congrArg V.int z)
      clear hn hd c2 hr
      exact .inr ⟨_, rfl, _, _, rfl, rfl, rI_ (n0 (by omega)).symm q2⟩

def sp_rounded_by (K : PySem.W.Frag) : Sp := fun vs H Q _ => ∃ (W : Way) (n d : Nat), vs = [.str W.nm, .int (n : Int), .int (d : Int)] ∧ n < 2 ^ 19000 ∧ 0 < d ∧ d < 2 ^ 7000 ∧ ∀ H', Same H H' → Q (.int (W.rnd n d : Nat)) H'
theorem ok_rounded_by (B : Bs K mg base) : OkD P w K mg base "rounded_by" 2 ["way", "num", "den"] (sp_rounded_by K) := by
  have G_nearest := ok_nearest (P := P) (w := w) B
  have S : FnScope ["way", "num", "den"] ["way", "num", "den"] (defScope (ts 22)) := ⟨rfl, rfl, rfl, by decide +kernel, rfl, by decide +kernel, by decide +kernel⟩
  refine mk_ok B 13 22 rfl rfl S (fun _ _ _ _ _ _ us hl => match us, hl with | [_, _, _], _ => rfl) (fun vs H Q E h => ?_) (fun f0 cdv A outer s H vs Q E hr h => ?_)
  · obtain ⟨W, n, d, rfl, hn, h0, hd, q⟩ := h; rfl
  · obtain ⟨W, n, d, rfl, hn, h0, hd, q⟩ := h
    have scn := S.nd
    refine ⟨_, (pss_one (ps_match (pv 0) 
      (pm_str (pss_one (ps_ret (pe_callD G_nearest (hr.mono (by decide)) (by rfl) (pa_cons (pv 1) (pa_cons (pv 2) pa_nil))))) 
      (pm_str (pss_one (ps_ret (pe_op op_fdivW (pe_op op_add (pe_op op_mulX pe_int (pv 1)) (pv 2)) (pe_op op_mulX pe_int (pv 2))))) 
      (pm_str (pss_one (ps_ret (pe_op op_fdivW (pv 1) (pv 2)))) 
      (pm_str (pss_one (ps_ret (pe_un un_neg (pe_op op_fdivW (pe_un un_neg (pv 1)) (pv 2))))) 
      (pm_any (pss_one (ps_ret (pe_ifExp (pt_cmpR op_eq (pe_op op_mod (pv 1) (pv 2)) pe_int (nomark _)) (pe_op op_fdivW (pv 1) (pv 2)) (pe_op op_or (pe_op op_fdivW (pv 1) (pv 2)) pe_int))))))))))), ?_⟩
    have hd2 : d < 2 ^ 8000 := lt_more hd
    cases W with
    | even =>
      refine ⟨_, rfl, _, rfl, fun _ => ?_, fun z => absurd rfl z⟩
      exact ⟨_, rfl, _, rfl, n, d, rfl, lt_more hn, h0, hd2, q⟩
    | away =>
      refine ⟨_, rfl, _, rfl, fun z => absurd z (by decide), fun _ => ⟨_, rfl, fun _ => ?_, fun z => absurd rfl z⟩⟩
      have e2 : (2 : Int) * (d : Int) = ((2 * d : Nat) : Int) := by push_cast; rfl
      have c : CDivW (2 * (n : Int) + d) (2 * (d : Int)) := by rw [e2]; exact cdivN (b := 7002) (by omega) (mul_lt2 (a := 2) (by decide) hd)
      refine ⟨_, rfl, _, _, rfl, rfl, cmulN (n := 2) (a := 2) (by decide) hn, _, rfl, _, _, rfl, rfl, _, rfl, _, _, rfl, rfl, cmulN (n := 2) (a := 2) (by decide) hd, _, _, rfl, rfl, c, rI_ ?_ (q _ (Same.refl H))⟩
      show (((2 * n + d) / (2 * d) : Nat) : Int) = _
      push_cast
      rfl
    | zero =>
      refine ⟨_, rfl, _, rfl, fun z => absurd z (by decide), fun _ => ⟨_, rfl, fun z => absurd z (by decide), fun _ => ⟨_, rfl, fun _ => ?_, fun z => absurd rfl z⟩⟩⟩
      refine ⟨_, rfl, _, rfl, _, _, rfl, rfl, cdivN h0 hd, rI_ ?_ (q _ (Same.refl H))⟩
      show ((n / d : Nat) : Int) = _
      push_cast
      rfl
    | out =>
      refine ⟨_, rfl, _, rfl, fun z => absurd z (by decide), fun _ => ⟨_, rfl, fun z => absurd z (by decide), fun _ => ⟨_, rfl, fun z => absurd z (by decide), fun _ => ⟨_, rfl, fun _ => ?_, fun z => absurd rfl z⟩⟩⟩⟩
      exact ⟨_, rfl, _, rfl, _, rfl, _, _, rfl, rfl, cdivN h0 hd, _, rfl, rI_ (nneg h0) (q _ (Same.refl H))⟩
    | odd =>
      refine ⟨_, rfl, _, rfl, fun z => absurd z (by decide), fun _ => ⟨_, rfl, fun z => absurd z (by decide), fun _ => ⟨_, rfl, fun z => absurd z (by decide), fun _ => ⟨_, rfl, fun z => absurd z (by decide), fun _ => ?_⟩⟩⟩⟩
      refine ⟨_, rfl, _, rfl, _, _, rfl, rfl, (show (0 : Int) < (d : Int) by omega), rfl, _, rfl, ifD (fun h => ?_) (fun h => ?_)⟩
      · have h1 : (n : Int) % (d : Int) = 0 := V.int.inj h
        rw [← Int.natCast_emod] at h1
        refine ⟨_, rfl, _, rfl, _, _, rfl, rfl, cdivN h0 hd, rI_ ?_ (q _ (Same.refl H))⟩
        have e : Way.odd.rnd n d = n / d := if_pos (show n % d = 0 by clear hn hd hd2; omega)
        rw [e]
        push_cast
        rfl
      · have h1 : ¬ (n : Int) % (d : Int) = 0 := fun z => h (congrArg V.int z)
        rw [← Int.natCast_emod] at h1
        refine ⟨_, rfl, _, rfl, _, _, rfl, rfl, cdivN h0 hd, _, _, rfl, rfl, rI_ ?_ (q _ (Same.refl H))⟩
        have e : Way.odd.rnd n d = n / d ||| 1 := if_neg (show ¬ n % d = 0 by clear hn hd hd2; omega)
        rw [e, ← Int.natCast_ediv, bitOr_nn (Int.natCast_nonneg _) (by decide), Int.toNat_natCast]
        rfl

def sp_read_position (K : PySem.W.Frag) : Sp := fun vs H Q _ => ∃ (a : Addr) (f : Fm) (W : Way) (n d : Nat), vs = [.ref a, .str W.nm, .int (n : Int), .int (d : Int)] ∧ Frm K H a f ∧ FB f ∧ n < 2 ^ 19000 ∧ 0 < d ∧ d < 2 ^ 7000 ∧ ∀ H', Same H H' → Q (.int (f.readPos W n d : Nat)) H'
theorem ok_read_position (B : Bs K mg base) : OkD P w K mg base "read_position" 3 ["form", "way", "num", "den"] (sp_read_position K) := by
  have G_count_of := ok_count_of (P := P) (w := w) B
  have G_rounded_by := ok_rounded_by (P := P) (w := w) B
  have S : FnScope ["form", "way", "num", "den", "top"] ["form", "way", "num", "den"] (defScope (ts 23)) := ⟨rfl, rfl, rfl, by decide +kernel, rfl, by decide +kernel, by decide +kernel⟩
  refine mk_ok B 14 23 rfl rfl S (fun _ _ _ _ _ _ us hl => match us, hl with | [_, _, _, _], _ => rfl) (fun vs H Q E h => ?_) (fun f0 cdv A outer s H vs Q E hr h => ?_)
  · obtain ⟨a, f, W, n, d, rfl, hF, fb, hn, h0, hd, q⟩ := h; rfl
  · obtain ⟨a, f, W, n, d, rfl, hF, fb, hn, h0, hd, q⟩ := h
    have scn := S.nd
    refine ⟨_, (pss_cons (ps_set (i := 4) scn rfl (.inl rfl) (pe_op op_sub (pe_callD G_count_of (hr.mono (by decide)) (by rfl) (pa_cons (pv 0) pa_nil)) pe_int))
      (pss_cons (ps_if (pt_cmpR op_le (pv 2) (pe_op op_mulX (pv 4) (pv 3)) (nomark _))
        (pss_one (ps_ret (pe_callD G_rounded_by (hr.mono (by decide)) (by rfl) (pa_cons (pv 1) (pa_cons (pv 2) (pa_cons (pv 3) pa_nil))))))
        pss_nil)
      (pss_one (ps_match (pv 1) 
      (pm_str (pss_one (ps_ret (pv 4))) 
      (pm_str (pss_one (ps_ret (pe_op op_or (pv 4) pe_int))) 
      (pm_any (pss_one (ps_ret (pe_callB (call_min2 rfl) (by rfl) (B.fre 56) (by decide +kernel) (pa_cons (pe_op op_add (pv 4) pe_int) (pa_cons (pe_callD G_rounded_by (hr.mono (by decide)) (by rfl) (pa_cons (pv 1) (pa_cons (pv 2) (pa_cons (pv 3) pa_nil)))) pa_nil)))))))))))), ?_⟩
    have b1 := fb.p
    have b2 := fb.l
    have b3 := fb.h
    have lh := fb.ok.lh
    have hN : f.N < 2 ^ 200 := by
      unfold Fm.N Fm.half
      exact lt_more (mul_lt2 (a := 12) (b := 128) (by omega) (Nat.pow_lt_pow_right (by decide) (by omega)))
    have hN0 : 0 < f.N := Nat.mul_pos (by omega) f.half_pos
    have eN : (f.N : Int) - 1 = ((f.N - 1 : Nat) : Int) := by omega
    refine ⟨_, rfl, a, f, rfl, hF, fb.ok, by omega, by omega, _, _, rfl, rfl, ?_⟩
    have c1 : CMulX ((f.N : Int) - 1) (d : Int) := by rw [eN]; exact cmulN (a := 200) (by omega) hd
    have e1 : ((f.N : Int) - 1) * (d : Int) = (((f.N - 1) * d : Nat) : Int) := by rw [eN]; push_cast; rfl
    refine ⟨_, rfl, _, rfl, _, rfl, _, _, rfl, rfl, c1, _, _, rfl, rfl, _, rfl, ifD (fun h => ?_) (fun h => ?_)⟩
    · rw [e1] at h
      have h' : n ≤ (f.N - 1) * d := Int.ofNat_le.mp h
      refine ⟨_, rfl, _, rfl, _, rfl, W, n, d, rfl, hn, h0, hd, fun H' hs => rI_ ?_ (q H' hs)⟩
      unfold Fm.readPos
      rw [if_pos h']
    have h' : ¬ n ≤ (f.N - 1) * d := fun z => h (by rw [e1]; exact Int.ofNat_le.mpr z)
    have fin : ∀ z : Int, z = (min (f.N - 1 + 1) (W.rnd n d) : Nat) → W ≠ .zero → W ≠ .odd → ∀ H', Same H H' → Q (.int z) H' := fun z e h1 h2 H' hs => by
      refine rI_ ?_ (q H' hs)
      rw [e]
      unfold Fm.readPos
      rw [if_neg h']
      cases W <;> first | rfl | exact absurd rfl h1 | exact absurd rfl h2
    have em : ∀ x : Nat, (if (x : Int) < (f.N : Int) - 1 + 1 then (x : Int) else (f.N : Int) - 1 + 1) = ((min (f.N - 1 + 1) x : Nat) : Int) := fun x => by split <;> omega
    cases W with
    | zero =>
      refine ⟨_, rfl, _, rfl, fun _ => ?_, fun z => absurd rfl z⟩
      refine ⟨_, rfl, rI_ ?_ (q _ (Same.refl H))⟩
      unfold Fm.readPos
      rw [if_neg h', eN]
    | odd =>
      refine ⟨_, rfl, _, rfl, fun z => absurd z (by decide), fun _ => ⟨_, rfl, fun _ => ?_, fun z => absurd rfl z⟩⟩
      refine ⟨_, rfl, _, _, rfl, rfl, rI_ ?_ (q _ (Same.refl H))⟩
      unfold Fm.readPos
      rw [if_neg h', eN, bitOr_nn (by omega) (by decide), Int.toNat_natCast]
      rfl
    | even =>
      refine ⟨_, rfl, _, rfl, fun z => absurd z (by decide), fun _ => ⟨_, rfl, fun z => absurd z (by decide), fun _ => ?_⟩⟩
      exact ⟨_, rfl, _, _, rfl, rfl, _, rfl, _, rfl, _, rfl, .even, n, d, rfl, hn, h0, hd, fun H' hs => ⟨_, _, rfl, fin _ (em _) (fun z => nomatch z) (fun z => nomatch z) H' hs⟩⟩
    | away =>
      refine ⟨_, rfl, _, rfl, fun z => absurd z (by decide), fun _ => ⟨_, rfl, fun z => absurd z (by decide), fun _ => ?_⟩⟩
      exact ⟨_, rfl, _, _, rfl, rfl, _, rfl, _, rfl, _, rfl, .away, n, d, rfl, hn, h0, hd, fun H' hs => ⟨_, _, rfl, fin _ (em _) (fun z => nomatch z) (fun z => nomatch z) H' hs⟩⟩
    | out =>
      refine ⟨_, rfl, _, rfl, fun z => absurd z (by decide), fun _ => ⟨_, rfl, fun z => absurd z (by decide), fun _ => ?_⟩⟩
      exact ⟨_, rfl, _, _, rfl, rfl, _, rfl, _, rfl, _, rfl, .out, n, d, rfl, hn, h0, hd, fun H' hs => ⟨_, _, rfl, fin _ (em _) (fun z => nomatch z) (fun z => nomatch z) H' hs⟩⟩

def sp_read_fraction (K : PySem.W.Frag) : Sp := fun vs H Q _ => ∃ (a : Addr) (f : Fm) (W : Way) (n d : Nat), vs = [.ref a, .str W.nm, .int (n : Int), .int (d : Int)] ∧ Frm K H a f ∧ FB f ∧ n < 2 ^ 4000 ∧ 0 < d ∧ d < 2 ^ 4000 ∧ ∀ H', Same H H' → Q (.int (f.read W n d : Nat)) H'
theorem ok_read_fraction (B : Bs K mg base) : OkD P w K mg base "read_fraction" 4 ["form", "way", "num", "den"] (sp_read_fraction K) := by
  have G_position_at := ok_position_at (P := P) (w := w) B
  have G_read_position := ok_read_position (P := P) (w := w) B
  have S : FnScope ["form", "way", "num", "den", "part", "whole"] ["form", "way", "num", "den"] (defScope (ts 24)) := ⟨rfl, rfl, rfl, by decide +kernel, rfl, by decide +kernel, by decide +kernel⟩
  refine mk_ok B 15 24 rfl rfl S (fun _ _ _ _ _ _ us hl => match us, hl with | [_, _, _, _], _ => rfl) (fun vs H Q E h => ?_) (fun f0 cdv A outer s H vs Q E hr h => ?_)
  · obtain ⟨a, f, W, n, d, rfl, hF, fb, hn, h0, hd, q⟩ := h; rfl
  · obtain ⟨a, f, W, n, d, rfl, hF, fb, hn, h0, hd, q⟩ := h
    have scn := S.nd
    refine ⟨_, (pss_cons (ps_asg (pe_callD G_position_at (hr.mono (by decide)) (by rfl) (pa_cons (pv 0) (pa_cons (pv 2) (pa_cons (pv 3) pa_nil)))) (pg_tup rfl (pgs_cons (pg_name (i := 4) scn rfl (.inl rfl)) (pgs_cons (pg_name (i := 5) scn rfl (.inl rfl)) pgs_nil))))
      (pss_one (ps_ret (pe_callD G_read_position (hr.mono (by decide)) (by rfl) (pa_cons (pv 0) (pa_cons (pv 1) (pa_cons (pv 4) (pa_cons (pv 5) pa_nil)))))))), ?_⟩
    have b1 := fb.p
    have b2 := fb.l
    have b3 := fb.h
    have hE := f.expo_is fb.ok (n := n) h0
    have e1 := hE.l
    have e2 := hE.h
    have hh : f.half < 2 ^ 128 := Nat.pow_lt_pow_right (by decide) (by omega)
    have hw : f.whole n d < 2 ^ 5300 := lt_more (mul_lt2 hd (p2_lt (a := 1201) (by omega) (by decide)))
    have hx2 : (f.expo n d - f.lo).toNat < 2 ^ 12 := by omega
    have hp : f.part n d < 2 ^ 6001 := add_lt2 (lt_more (mul_lt2 (mul_lt2 hx2 hh) hw)) (lt_more (mul_lt2 hn (p2_lt (a := 1201) (by omega) (by decide))))
    refine ⟨_, rfl, _, rfl, _, rfl, a, f, n, d, rfl, hF, fb, hn, h0, hd, fun p H1 s1 hp1 => ?_⟩
    refine ⟨p, _, rfl, .inl (.inl hp1), rfl, _, _, rfl, _, _, rfl, rfl, ?_⟩
    exact ⟨_, rfl, _, rfl, _, rfl, _, rfl, a, f, W, _, _, rfl, hF.up s1, fb, lt_more hp, f.whole_pos h0, lt_more hw, fun H' s2 => q H' (s1.trans s2)⟩

def sp_read (K : PySem.W.Frag) : Sp := fun vs H Q _ => ∃ (a : Addr) (f : Fm) (W : Way) (b : Addr) (d : Nat) (z : Int), vs = [.ref a, .str W.nm, .ref b] ∧ Frm K H a f ∧ FB f ∧ SqT K H b [.int (d : Int), .int z] ∧ d * 10 ^ z.toNat < 2 ^ 4000 ∧ 10 ^ (-z).toNat < 2 ^ 4000 ∧ d < 2 ^ 4000 ∧ -5000 ≤ z ∧ z ≤ 5000 ∧
  ∀ H', Same H H' → Q (.int (f.read W (d * 10 ^ z.toNat) (10 ^ (-z).toNat) : Nat)) H'
theorem ok_read (B : Bs K mg base) : OkD P w K mg base "read" 5 ["form", "way", "decimal"] (sp_read K) := by
  have G_fraction_of := ok_fraction_of (P := P) (w := w) B
  have G_read_fraction := ok_read_fraction (P := P) (w := w) B
  have S : FnScope ["form", "way", "decimal", "num", "den"] ["form", "way", "decimal"] (defScope (ts 25)) := ⟨rfl, rfl, rfl, by decide +kernel, rfl, by decide +kernel, by decide +kernel⟩
  refine mk_ok B 16 25 rfl rfl S (fun _ _ _ _ _ _ us hl => match us, hl with | [_, _, _], _ => rfl) (fun vs H Q E h => ?_) (fun f0 cdv A outer s H vs Q E hr h => ?_)
  · obtain ⟨a, f, W, b, d, z, rfl, hF, fb, hT, hn, hd, h3, h1, h2, q⟩ := h; rfl
  · obtain ⟨a, f, W, b, d, z, rfl, hF, fb, hT, hn, hd, h3, h1, h2, q⟩ := h
    have scn := S.nd
    refine ⟨_, (pss_cons (ps_asg (pe_callD G_fraction_of (hr.mono (by decide)) (by rfl) (pa_cons (pv 2) pa_nil)) (pg_tup rfl (pgs_cons (pg_name (i := 3) scn rfl (.inl rfl)) (pgs_cons (pg_name (i := 4) scn rfl (.inl rfl)) pgs_nil))))
      (pss_one (ps_ret (pe_callD G_read_fraction (hr.mono (by decide)) (by rfl) (pa_cons (pv 0) (pa_cons (pv 1) (pa_cons (pv 3) (pa_cons (pv 4) pa_nil)))))))), ?_⟩
    refine ⟨_, rfl, b, d, z, rfl, hT, lt_more h3, h1, h2, fun p H1 s1 hp1 => ?_⟩
    refine ⟨p, _, rfl, .inl (.inl hp1), rfl, _, _, rfl, _, _, rfl, rfl, ?_⟩
    exact ⟨_, rfl, _, rfl, _, rfl, _, rfl, a, f, W, _, _, rfl, hF.up s1, fb, hn, Nat.pow_pos (by decide), hd, fun H' s2 => q H' (s1.trans s2)⟩

end
end NT
/-! text W4 -/
set_option Elab.async false
set_option linter.all false
set_option maxRecDepth 100000
set_option maxHeartbeats 2000000
namespace NT
open PySem PySem.Spec PyProof.Rows L2 PySem.NumText
/-- a format whose numbers have not too many digits -/
structure GF (f : Fm) : Prop where
  fb : FB f
  lo : -1074 ≤ f.lo
  hi : f.hi ≤ 971
  sz : 2 ^ f.p * p2 f.hi * 5 ^ (-f.lo).toNat < 10 ^ 1100
theorem ten1101 : 10 ^ 1101 < 2 ^ 4000 := by decide +kernel
theorem ten1200 : 10 ^ 1200 < 2 ^ 4000 := by decide +kernel
theorem ten4300 : 2 ^ 4000 < 10 ^ 4300 := by decide +kernel
theorem GF.wd {f : Fm} (g : GF f) {c : Nat} (hc : c < f.N) : f.wd c < 10 ^ 1100 := by
  have h1 := f.m_lt g.fb.ok c
  have h2 := f.e_lo c
  have h3 := f.e_hi g.fb.ok hc
  refine Nat.lt_of_le_of_lt ?_ g.sz
  unfold Fm.wd
  refine Nat.mul_le_mul (Nat.mul_le_mul (Nat.le_of_lt h1) ?_) ?_
  · exact Nat.pow_le_pow_right (by decide) (by omega)
  · exact Nat.pow_le_pow_right (by decide) (by omega)
theorem GF.wd2 {f : Fm} (g : GF f) {c : Nat} (hc : c < f.N) : 2 * f.wd c < 10 ^ 1101 := by
  have := g.wd hc
  rw [Nat.pow_succ]
  omega
theorem GF.wdb {f : Fm} (g : GF f) {c : Nat} (hc : c < f.N) : f.wd c < 2 ^ 4000 := by
  have h1 := g.wd2 hc
  have h2 := ten1101
  omega
theorem GF.wq {f : Fm} (g : GF f) (c : Nat) : -1074 ≤ f.wq c := by
  have h1 := f.e_lo c
  have h2 := g.lo
  unfold Fm.wq
  split <;> omega
theorem FB.N {f : Fm} (fb : FB f) : f.N < 2 ^ 200 := by
  have b1 := fb.p
  have b2 := fb.l
  have b3 := fb.h
  unfold Fm.N Fm.half
  exact lt_more (mul_lt2 (a := 12) (b := 128) (by omega) (Nat.pow_lt_pow_right (by decide) (by omega)))
theorem ten_le {k : Nat} (h : k ≤ 1200) : 10 ^ k < 2 ^ 4000 := Nat.lt_of_le_of_lt (Nat.pow_le_pow_right (by decide) h) ten1200
theorem sd_nat (n : Nat) : sd (n : Int) = ds n := by
  unfold sd
  rw [if_neg (by omega), nab]
theorem ds_short {n : Nat} (h : n < 2 ^ 4000) : (ds n).length ≤ 1300 := ds_le (by decide) (Nat.lt_trans h (by decide +kernel))
theorem Fm.srch_hit {f : Fm} {w : Way} {c D x : Nat} {P : Int} : ∀ {k : Nat}, f.look w c D P (P + (k : Int)) = some x → f.srch w c D P k = (x, P + (k : Int))
  | 0, h => by
    have e : P + ((0 : Nat) : Int) = P := by simp
    rw [e] at h ⊢
    unfold Fm.srch
    rw [h]
    rfl
  | k + 1, h => by
    unfold Fm.srch
    rw [h]
theorem Fm.srch_miss {f : Fm} {w : Way} {c D : Nat} {P : Int} {k : Nat} (h : f.look w c D P (P + ((k + 1 : Nat) : Int)) = none) : f.srch w c D P (k + 1) = f.srch w c D P k := by
  conv => lhs; unfold Fm.srch
  rw [h]
theorem find_at {α : Type} {p : α → Bool} {l : List α} {i : Nat} {x : α} (hi : l[i]? = some x) (hx : p x = true) (hb : ∀ y ∈ l.take i, p y = false) : l.find? p = some x := by
  induction l generalizing i with
  | nil => simp at hi
  | cons a l ih =>
    cases i with
    | zero =>
      have e : a = x := by simpa using hi
      subst e
      rw [List.find?_cons, hx]
    | succ i =>
      have h1 : p a = false := hb a (by simp)
      rw [List.find?_cons, h1]
      exact ih (i := i) (by simpa using hi) fun y hy => hb y (by rw [List.take_succ_cons]; exact List.mem_cons_of_mem _ hy)
theorem near_bits {f : Fm} (g : GF f) {c x : Nat} {t : Int} (hc : c < f.N) (h0 : c ≠ 0) (h1 : f.wq c ≤ t) (h2 : t ≤ f.wq c + ((ds (f.wd c)).length - 1 : Nat)) (hx : x ∈ near (f.wd c) (f.wq c) t) : x * 10 ^ (t - f.wq c).toNat < 10 ^ 1101 := by
  have hD := f.wd_pos g.fb.ok h0
  have hl : 10 ^ (t - f.wq c).toNat ≤ f.wd c := Nat.le_trans (Nat.pow_le_pow_right (by decide) (by omega)) (ds_low hD)
  have hn := near_le h1 hx
  have := g.wd2 hc
  omega
section
variable {P : Program} {w : World} {K : PySem.W.Frag} {mg : Str → Option Value} {base : Heap}

def sp_whole_of (K : PySem.W.Frag) : Sp := fun vs H Q _ => ∃ (a : Addr) (f : Fm) (c : Nat), vs = [.ref a, .int (c : Int)] ∧ Frm K H a f ∧ GF f ∧ c < f.N ∧ ∀ p H', Same H H' → H' p = some (.tup [.int (f.wd c : Nat), .int (f.wq c)]) → Q (.ref p) H'
theorem ok_whole_of (B : Bs K mg base) : OkD P w K mg base "whole_of" 3 ["form", "code"] (sp_whole_of K) := by
  have G_parts_at := ok_parts_at (P := P) (w := w) B
  have G_ten := ok_ten (P := P) (w := w) B
  have S : FnScope ["form", "code", "m", "e"] ["form", "code"] (defScope (ts 27)) := ⟨rfl, rfl, rfl, by decide +kernel, rfl, by decide +kernel, by decide +kernel⟩
  refine mk_ok B 17 27 rfl rfl S (fun _ _ _ _ _ _ us hl => match us, hl with | [_, _], _ => rfl) (fun vs H Q E h => ?_) (fun f0 cdv A outer s H vs Q E hr h => ?_)
  · obtain ⟨a, f, c, rfl, hF, g, hc, q⟩ := h; rfl
  · obtain ⟨a, f, c, rfl, hF, g, hc, q⟩ := h
    have scn := S.nd
    refine ⟨_, (pss_cons (ps_asg (pe_callD G_parts_at (hr.mono (by decide)) (by rfl) (pa_cons (pv 0) (pa_cons (pv 1) pa_nil))) (pg_tup rfl (pgs_cons (pg_name (i := 2) scn rfl (.inl rfl)) (pgs_cons (pg_name (i := 3) scn rfl (.inl rfl)) pgs_nil))))
      (pss_one (ps_ret (pe_ifExp (pt_cmpR op_ge (pv 3) pe_int (nomark _)) (pe_tup (pa_cons (pe_op op_shlW (pv 2) (pv 3)) (pa_cons pe_int pa_nil))) (pe_tup (pa_cons (pe_op op_mulX (pv 2) (pe_op op_shr (pe_callD G_ten (hr.mono (by decide)) (by rfl) (pa_cons (pe_un un_neg (pv 3)) pa_nil)) (pe_un un_neg (pv 3)))) (pa_cons (pv 3) pa_nil))))))), ?_⟩
    have fb := g.fb
    have b1 := fb.p
    have hN := fb.N
    have h1 := f.e_lo c
    have h2 := f.e_hi fb.ok hc
    have h3 := g.lo
    have h4 := g.hi
    have hm : f.m c < 2 ^ 128 := Nat.lt_of_lt_of_le (f.m_lt fb.ok c) (Nat.pow_le_pow_right (by decide) b1)
    refine ⟨_, rfl, _, rfl, a, f, c, rfl, hF, fb.ok, by omega, lt_more (Nat.lt_trans hc hN), fun p H1 s1 hp1 => ?_⟩
    refine ⟨p, _, rfl, .inl (.inl hp1), rfl, _, _, rfl, _, _, rfl, rfl, ?_⟩
    refine ⟨_, rfl, _, _, rfl, rfl, _, rfl, ifD (fun h => ?_) (fun h => ?_)⟩
    · refine ⟨_, rfl, _, rfl, _, _, rfl, rfl, cshl (n := 128) (by rw [nab]; exact hm) h (by omega), l2, fun pp hp2 => q pp _ (s1.trans (same_new hp2)) (tup2_ (congrArg V.int ?_) (congrArg V.int ?_))⟩
      · rw [shl_nat]
        unfold Fm.wd
        rw [show (-(f.e c)).toNat = 0 by omega, Nat.pow_zero, Nat.mul_one]
      · unfold Fm.wq
        rw [if_pos h]
    · have e : -(f.e c) = (((-(f.e c)).toNat : Nat) : Int) := (Int.toNat_of_nonneg (by omega)).symm
      have e5 : ((10 ^ (-(f.e c)).toNat : Nat) : Int) / 2 ^ (-(f.e c)).toNat = ((5 ^ (-(f.e c)).toNat : Nat) : Int) := by
        have e6 : (2 : Int) ^ (-(f.e c)).toNat = ((2 ^ (-(f.e c)).toNat : Nat) : Int) := by push_cast; rfl
        rw [e6, ← Int.natCast_ediv, ten_split, Nat.mul_div_cancel_left _ (Nat.two_pow_pos _)]
      have h5 : 5 ^ (-(f.e c)).toNat < 2 ^ 5000 := Nat.lt_of_le_of_lt (Nat.pow_le_pow_left (show 5 ≤ 2 ^ 3 by decide) _) (by rw [← Nat.pow_mul]; exact Nat.pow_lt_pow_right (by decide) (by omega))
      refine ⟨_, rfl, _, rfl, _, rfl, (-(f.e c)).toNat, by rw [← e]; rfl, by omega, _, rfl, _, rfl, _, _, rfl, rfl, by omega, _, _, rfl, rfl, ?_, _, rfl, l2, fun pp hp2 => q pp _ (s1.trans (same_new hp2)) (tup2_ (congrArg V.int ?_) (congrArg V.int ?_))⟩
      · rw [e5]
        exact cmulN hm h5
      · rw [e5]
        unfold Fm.wd p2
        rw [show (f.e c).toNat = 0 by omega, Nat.pow_zero, Nat.mul_one]
        push_cast
        rfl
      · unfold Fm.wq
        rw [if_neg h]

def sp_first_place (K : PySem.W.Frag) : Sp := fun vs H Q _ => ∃ (b : Addr) (D : Nat) (z : Int), vs = [.ref b] ∧ SqT K H b [.int (D : Int), .int z] ∧ D < 2 ^ 4000 ∧ Q (.int (z + (((ds D).length - 1 : Nat) : Int))) H
theorem ok_first_place (B : Bs K mg base) : OkD P w K mg base "first_place" 1 ["whole"] (sp_first_place K) := by
  have S : FnScope ["whole", "digits", "power"] ["whole"] (defScope (ts 28)) := ⟨rfl, rfl, rfl, by decide +kernel, rfl, by decide +kernel, by decide +kernel⟩
  refine mk_ok B 18 28 rfl rfl S (fun _ _ _ _ _ _ us hl => match us, hl with | [_], _ => rfl) (fun vs H Q E h => ?_) (fun f0 cdv A outer s H vs Q E hr h => ?_)
  · obtain ⟨b, D, z, rfl, hT, hD, q⟩ := h; rfl
  · obtain ⟨b, D, z, rfl, hT, hD, q⟩ := h
    have scn := S.nd
    refine ⟨_, (pss_cons (ps_asg (pv 0) (pg_tup rfl (pgs_cons (pg_name (i := 1) scn rfl (.inl rfl)) (pgs_cons (pg_name (i := 2) scn rfl (.inl rfl)) pgs_nil))))
      (pss_one (ps_ret (pe_op op_add (pe_op op_sub (pe_callB call_lenL (by rfl) (B.fre 54) PySem.boot_len (pa_cons (pe_callTy (call_strI rfl B.nd) (by rfl) (B.fre 58) (by decide +kernel) (pa_cons (pv 1) pa_nil)) pa_nil)) pe_int) (pv 2))))), ?_⟩
    have hl := ds_short hD
    have hp := ds_pos D
    refine ⟨_, rfl, b, _, rfl, hT, rfl, _, _, rfl, _, _, rfl, rfl, ?_⟩
    refine ⟨_, rfl, _, rfl, by rw [nab]; exact Nat.lt_trans hD ten4300, _, rfl, by rw [sd_nat]; omega, _, _, rfl, rfl, _, rfl, _, _, rfl, rfl, rI_ ?_ q⟩
    rw [sd_nat]
    omega

def sp_near_multiples (K : PySem.W.Frag) : Sp := fun vs H Q _ => ∃ (b : Addr) (D : Nat) (z t : Int), vs = [.ref b, .int t] ∧ SqT K H b [.int (D : Int), .int z] ∧ D < 2 ^ 4000 ∧ z ≤ t ∧ t ≤ z + 1200 ∧ ∀ p H', Same H H' → H' p = some (.lst ((near D z t).map fun x : Nat => V.int (x : Int))) → Q (.ref p) H'
theorem ok_near_multiples (B : Bs K mg base) : OkD P w K mg base "near_multiples" 2 ["whole", "place"] (sp_near_multiples K) := by
  have G_ten := ok_ten (P := P) (w := w) B
  have G_nearest := ok_nearest (P := P) (w := w) B
  have S : FnScope ["whole", "place", "unit", "found", "digits", "power", "below", "rest"] ["whole", "place"] (defScope (ts 29)) := ⟨rfl, rfl, rfl, by decide +kernel, rfl, by decide +kernel, by decide +kernel⟩
  refine mk_ok B 19 29 rfl rfl S (fun _ _ _ _ _ _ us hl => match us, hl with | [_, _], _ => rfl) (fun vs H Q E h => ?_) (fun f0 cdv A outer s H vs Q E hr h => ?_)
  · obtain ⟨b, D, z, t, rfl, hT, hD, h1, h2, q⟩ := h; rfl
  · obtain ⟨b, D, z, t, rfl, hT, hD, h1, h2, q⟩ := h
    have scn := S.nd
    refine ⟨_, (pss_cons (ps_asg (pv 0) (pg_tup rfl (pgs_cons (pg_name (i := 4) scn rfl (.inl rfl)) (pgs_cons (pg_name (i := 5) scn rfl (.inl rfl)) pgs_nil))))
      (pss_cons (ps_if (pt_cmpR op_le (pv 1) (pv 5) (nomark _))
        (pss_one (ps_ret (pe_lst (pa_cons (pe_op op_mulX (pv 4) (pe_callD G_ten (hr.mono (by decide)) (by rfl) (pa_cons (pe_op op_sub (pv 5) (pv 1)) pa_nil))) pa_nil))))
        pss_nil)
      (pss_cons (ps_set (i := 2) scn rfl (.inl rfl) (pe_callD G_ten (hr.mono (by decide)) (by rfl) (pa_cons (pe_op op_sub (pv 1) (pv 5)) pa_nil)))
      (pss_cons (ps_asg (pe_callB call_divmodW (by rfl) (B.fre 50) (by decide +kernel) (pa_cons (pv 4) (pa_cons (pv 2) pa_nil))) (pg_tup rfl (pgs_cons (pg_name (i := 6) scn rfl (.inl rfl)) (pgs_cons (pg_name (i := 7) scn rfl (.inl rfl)) pgs_nil))))
      (pss_cons (ps_if (pt_cmpR op_eq (pv 7) pe_int (nomark _))
        (pss_one (ps_ret (pe_lst (pa_cons (pv 6) pa_nil))))
        pss_nil)
      (pss_cons (ps_set (i := 3) scn rfl (.inl rfl) (pe_callD G_nearest (hr.mono (by decide)) (by rfl) (pa_cons (pv 4) (pa_cons (pv 2) pa_nil))))
      (pss_one (ps_ret (pe_lst (pa_cons (pv 3) (pa_cons (pe_op op_sub (pe_op op_add (pe_op op_mulX pe_int (pv 6)) pe_int) (pv 3)) pa_nil))))))))))), ?_⟩
    refine ⟨_, rfl, b, _, rfl, hT, rfl, _, _, rfl, _, _, rfl, rfl, ?_⟩
    refine ⟨_, rfl, _, rfl, _, _, rfl, rfl, _, rfl, ifD (fun h => ?_) (fun h => ?_)⟩
    · have e : z - t = ((0 : Nat) : Int) := by omega
      refine ⟨_, rfl, _, rfl, _, rfl, _, _, rfl, rfl, 0, by rw [← e]; rfl, by omega, _, _, rfl, rfl, cmulN (b := 2) hD (by decide), l1, fun p hp => q p _ (same_new hp) ?_⟩
      rw [upd_same]
      unfold near
      rw [if_pos h, show (z - t).toNat = 0 by omega]
      simp
    have e : t - z = (((t - z).toNat : Nat) : Int) := (Int.toNat_of_nonneg (by omega)).symm
    have hu : 10 ^ (t - z).toNat < 2 ^ 4000 := ten_le (by omega)
    have hu0 := ten_pos (t - z).toNat
    refine ⟨_, rfl, _, rfl, _, _, rfl, rfl, (t - z).toNat, by rw [← e]; rfl, by omega, ?_⟩
    refine ⟨_, rfl, _, rfl, _, _, rfl, cdivPN hu0 hu, fun p hp => ?_⟩
    refine ⟨p, _, rfl, sq_t, rfl, _, _, rfl, _, _, rfl, rfl, ?_⟩
    have s1 := same_new (o := .tup [.int ((D : Int) / ((10 ^ (t - z).toNat : Nat) : Int)), .int ((D : Int) % ((10 ^ (t - z).toNat : Nat) : Int))]) hp
    refine ⟨_, rfl, rfl, _, rfl, ifD (fun h3 => ?_) (fun h3 => ?_)⟩
    · have h4 : (D : Int) % ((10 ^ (t - z).toNat : Nat) : Int) = 0 := V.int.inj h3
      rw [← Int.natCast_emod] at h4
      refine ⟨_, rfl, l1, fun pp hp2 => q pp _ (s1.trans (same_new hp2)) ?_⟩
      rw [upd_same]
      unfold near
      rw [if_neg h, if_pos (Int.ofNat.inj h4)]
      rfl
    have h4 : ¬ D % 10 ^ (t - z).toNat = 0 := fun y => h3 (congrArg V.int (by rw [← Int.natCast_emod, y]; rfl))
    refine ⟨_, rfl, _, rfl, D, _, rfl, lt_more hD, hu0, lt_more hu, fun H2 s2 => ?_⟩
    have hb : D / 10 ^ (t - z).toNat < 2 ^ 4000 := Nat.lt_of_le_of_lt (Nat.div_le_self _ _) hD
    refine ⟨_, rfl, _, rfl, _, _, rfl, rfl, cmulN (n := 2) (a := 2) (m := D / 10 ^ (t - z).toNat) (by decide) hb, _, _, rfl, rfl, _, rfl, _, _, rfl, rfl, l2, fun pp hp2 => q pp _ ((s1.trans s2).trans (same_new hp2)) ?_⟩
    rw [upd_same]
    unfold near
    rw [if_neg h, if_neg h4]
    have n2 := nearest_two D (10 ^ (t - z).toNat)
    have e2 : (2 : Int) * ((D : Int) / ((10 ^ (t - z).toNat : Nat) : Int)) + 1 - ((nearest D (10 ^ (t - z).toNat) : Nat) : Int) = ((2 * (D / 10 ^ (t - z).toNat) + 1 - nearest D (10 ^ (t - z).toNat) : Nat) : Int) := by
      rw [← Int.natCast_ediv]
      omega
    exact congrArg (fun v => some (HO.lst [V.int ((nearest D (10 ^ (t - z).toNat) : Nat) : Int), v])) (congrArg V.int e2)

def sp_plain_decimal (K : PySem.W.Frag) : Sp := fun vs H Q _ => ∃ (b : Addr) (x : Nat) (t : Int), vs = [.ref b] ∧ SqT K H b [.int (x : Int), .int t] ∧ 0 < x ∧ ∀ p H', Same H H' → H' p = some (.tup [.int ((strip x t).1 : Nat), .int (strip x t).2]) → Q (.ref p) H'
theorem ok_plain_decimal (B : Bs K mg base) : OkD P w K mg base "plain_decimal" 1 ["decimal"] (sp_plain_decimal K) := by
  have S : FnScope ["decimal", "digits", "power"] ["decimal"] (defScope (ts 15)) := ⟨rfl, rfl, rfl, by decide +kernel, rfl, by decide +kernel, by decide +kernel⟩
  refine mk_ok B 7 15 rfl rfl S (fun _ _ _ _ _ _ us hl => match us, hl with | [_], _ => rfl) (fun vs H Q E h => ?_) (fun f0 cdv A outer s H vs Q E hr h => ?_)
  · obtain ⟨b, x, t, rfl, hT, hx, q⟩ := h; rfl
  · obtain ⟨b, x, t, rfl, hT, hx, q⟩ := h
    have scn := S.nd
    refine ⟨_, (pss_cons (ps_asg (pv 0) (pg_tup rfl (pgs_cons (pg_name (i := 1) scn rfl (.inl rfl)) (pgs_cons (pg_name (i := 2) scn rfl (.inl rfl)) pgs_nil))))
      (pss_cons (ps_if (pt_cmpR op_eq (pv 1) pe_int (nomark _))
        (pss_one (ps_ret (pe_tup (pa_cons pe_int (pa_cons pe_int pa_nil)))))
        pss_nil)
      (pss_cons (ps_while PassesOwn.never (pt_cmpR op_eq (pe_op op_mod (pv 1) pe_int) pe_int (nomark _))
        (pss_one (ps_par (i := 1) (j := 2) rfl scn rfl rfl (by decide) rfl rfl (pa_cons (pe_op op_fdivW (pv 1) pe_int) (pa_cons (pe_op op_add (pv 2) pe_int) pa_nil)) (by rfl))))
      (pss_one (ps_ret (pe_tup (pa_cons (pv 1) (pa_cons (pv 2) pa_nil)))))))), ?_⟩
    refine ⟨_, rfl, b, _, rfl, hT, rfl, _, _, rfl, _, _, rfl, rfl, ?_⟩
    refine ⟨_, rfl, rfl, _, rfl, ifD (fun h => ?_) (fun h => ?_)⟩
    · exact absurd (V.int.inj h) (by omega)
    refine ⟨fun m σ H1 => ∃ z : Int, σ = [some (.ref b), some (.int (m : Int)), some (.int z)] ∧ H1 = H ∧ 0 < m ∧ strip m z = strip x t, ⟨x, t, rfl, rfl, hx, rfl⟩, fun m σ H1 hW => ?_⟩
    obtain ⟨z, rfl, rfl, hm, e⟩ := hW
    refine ⟨_, rfl, _, _, rfl, rfl, (show (0 : Int) < 10 by decide), rfl, _, rfl, ifD (fun h2 => ?_) (fun h2 => ?_)⟩
    · have h3 : m % 10 = 0 := by
        have := V.int.inj h2
        omega
      refine ⟨fun σ' H' => σ' = [some (.ref b), some (.int ((m / 10 : Nat) : Int)), some (.int (z + 1))] ∧ H' = H1, fun σ' H' hN => ?_, ?_⟩
      · obtain ⟨rfl, rfl⟩ := hN
        exact ⟨m / 10, by omega, z + 1, rfl, rfl, by omega, by rw [← e, strip_go h3 (by omega)]⟩
      · refine ⟨_, rfl, _, _, rfl, rfl, cdiv (b := 10) (by decide) (by decide), _, rfl, _, _, rfl, rfl, _, _, rfl, ?_, rfl⟩
        rw [Int.natCast_ediv]
        rfl
    · have h3 : m % 10 ≠ 0 := fun y => h2 (congrArg V.int (by omega))
      refine ⟨_, rfl, _, rfl, l2, fun p hp => q p _ (same_new hp) ?_⟩
      rw [upd_same, ← e, strip_end h3]

def sp_shortest (K : PySem.W.Frag) : Sp := fun vs H Q _ => ∃ (a : Addr) (f : Fm) (W : Way) (c : Nat), vs = [.ref a, .str W.nm, .int (c : Int)] ∧ Frm K H a f ∧ GF f ∧ c < f.N ∧ ∀ p H', Same H H' → H' p = some (.tup [.int ((f.short W c).1 : Nat), .int (f.short W c).2]) → Q (.ref p) H'
theorem ok_shortest (B : Bs K mg base) : OkD P w K mg base "shortest" 5 ["form", "way", "code"] (sp_shortest K) := by
  have G_whole_of := ok_whole_of (P := P) (w := w) B
  have G_first_place := ok_first_place (P := P) (w := w) B
  have G_near_multiples := ok_near_multiples (P := P) (w := w) B
  have G_fraction_of := ok_fraction_of (P := P) (w := w) B
  have G_read_fraction := ok_read_fraction (P := P) (w := w) B
  have G_plain_decimal := ok_plain_decimal (P := P) (w := w) B
  have S : FnScope ["form", "way", "code", "whole", "place", "digits", "num", "den"] ["form", "way", "code"] (defScope (ts 30)) := ⟨rfl, rfl, rfl, by decide +kernel, rfl, by decide +kernel, by decide +kernel⟩
  refine mk_ok B 20 30 rfl rfl S (fun _ _ _ _ _ _ us hl => match us, hl with | [_, _, _], _ => rfl) (fun vs H Q E h => ?_) (fun f0 cdv A outer s H vs Q E hr h => ?_)
  · obtain ⟨a, f, W, c, rfl, hF, g, hc, q⟩ := h; rfl
  · obtain ⟨a, f, W, c, rfl, hF, g, hc, q⟩ := h
    have scn := S.nd
    refine ⟨_, (pss_cons (ps_if (pt_cmpR op_eq (pv 2) pe_int (nomark _))
        (pss_one (ps_ret (pe_tup (pa_cons pe_int (pa_cons pe_int pa_nil)))))
        pss_nil)
      (pss_cons (ps_set (i := 3) scn rfl (.inl rfl) (pe_callD G_whole_of (hr.mono (by decide)) (by rfl) (pa_cons (pv 0) (pa_cons (pv 2) pa_nil))))
      (pss_cons (ps_set (i := 4) scn rfl (.inl rfl) (pe_callD G_first_place (hr.mono (by decide)) (by rfl) (pa_cons (pv 3) pa_nil)))
      (pss_one (ps_while PassesOwn.never (pt_val pe_bl)
      (pss_cons (ps_for PassesOwn.never rfl (pi_list (pe_callD G_near_multiples (hr.mono (by decide)) (by rfl) (pa_cons (pv 3) (pa_cons (pv 4) pa_nil)))) (pg_name (i := 5) scn rfl (.inl rfl))
          (pss_cons (ps_asg (pe_callD G_fraction_of (hr.mono (by decide)) (by rfl) (pa_cons (pe_tup (pa_cons (pv 5) (pa_cons (pv 4) pa_nil))) pa_nil)) (pg_tup rfl (pgs_cons (pg_name (i := 6) scn rfl (.inl rfl)) (pgs_cons (pg_name (i := 7) scn rfl (.inl rfl)) pgs_nil))))
            (pss_one (ps_if (pt_cmpR op_eq (pe_callD G_read_fraction (hr.mono (by decide)) (by rfl) (pa_cons (pv 0) (pa_cons (pv 1) (pa_cons (pv 6) (pa_cons (pv 7) pa_nil))))) (pv 2) (nomark _))
            (pss_one (ps_ret (pe_callD G_plain_decimal (hr.mono (by decide)) (by rfl) (pa_cons (pe_tup (pa_cons (pv 5) (pa_cons (pv 4) pa_nil))) pa_nil))))
            pss_nil))))
        (pss_one (ps_set (i := 4) scn rfl (.inl rfl) (pe_op op_sub (pv 4) pe_int))))))))), ?_⟩
    have fb := g.fb
    have hwd := g.wdb hc
    have hwq := g.wq c
    have hwl := f.wq_le c
    have own := f.own fb.ok W hc
    refine ⟨_, rfl, rfl, _, rfl, ifD (fun h => ?_) (fun h => ?_)⟩
    · have h0 : c = 0 := by
        have := V.int.inj h
        omega
      subst h0
      exact ⟨l2, fun p hp => q p _ (same_new hp) (by rw [upd_same]; unfold Fm.short; rw [if_pos rfl]; rfl)⟩
    have h0 : c ≠ 0 := fun z => h (congrArg V.int (by omega))
    have hsh : f.short W c = strip (f.srch W c (f.wd c) (f.wq c) ((ds (f.wd c)).length - 1)).1 (f.srch W c (f.wd c) (f.wq c) ((ds (f.wd c)).length - 1)).2 := by
      unfold Fm.short
      rw [if_neg h0]
    rw [hsh] at q
    refine ⟨_, rfl, _, rfl, a, f, c, rfl, hF, g, hc, fun p1 H1 s1 hp1 => ?_⟩
    have hT1 : SqT K H1 p1 [.int (f.wd c : Nat), .int (f.wq c)] := .inl (.inl hp1)
    refine ⟨_, rfl, p1, f.wd c, f.wq c, rfl, hT1, hwd, ?_⟩
    refine ⟨fun m σ H2 => ∃ v5 v6 v7, σ = [some (.ref a), some (.str W.nm), some (.int (c : Int)), some (.ref p1), some (.int (f.wq c + (m : Int))), v5, v6, v7] ∧ Same H1 H2 ∧ m ≤ (ds (f.wd c)).length - 1 ∧ f.srch W c (f.wd c) (f.wq c) m = f.srch W c (f.wd c) (f.wq c) ((ds (f.wd c)).length - 1), ⟨(ds (f.wd c)).length - 1, none, none, none, rfl, Same.refl H1, Nat.le_refl _, rfl⟩, fun m σ H2 hW => ?_⟩
    obtain ⟨v5, v6, v7, rfl, s2, hm, es⟩ := hW
    refine ⟨true, rfl, iteT ?_⟩
    have hml : m ≤ 1200 := by
      have := ds_short hwd
      have := ds_le (k := 1100) (by decide) (g.wd hc)
      omega
    refine ⟨fun σ' H' => ∃ v5 v6 v7, σ' = [some (.ref a), some (.str W.nm), some (.int (c : Int)), some (.ref p1), some (.int (f.wq c + (m : Int) - 1)), v5, v6, v7] ∧ Same H1 H' ∧ f.look W c (f.wd c) (f.wq c) (f.wq c + (m : Int)) = none, fun σ' H' hN => ?_, ?_⟩
    · obtain ⟨u5, u6, u7, rfl, s3, hl⟩ := hN
      cases m with
      | zero =>
        have e0 : f.wq c + ((0 : Nat) : Int) = f.wq c := by simp
        rw [e0, f.look_last own] at hl
        cases hl
      | succ m =>
        refine ⟨m, by omega, u5, u6, u7, ?_, s3, by omega, by rw [← es, f.srch_miss hl]⟩
        rw [show f.wq c + ((m + 1 : Nat) : Int) - 1 = f.wq c + (m : Int) by push_cast; omega]
    refine ⟨_, rfl, _, rfl, p1, f.wd c, f.wq c, f.wq c + (m : Int), rfl, Same.sqt s2 hT1, hwd, by omega, by omega, fun pl H3 s3 hpl => ?_⟩
    have hL3 : SqL K H3 pl ((near (f.wd c) (f.wq c) (f.wq c + (m : Int))).map fun x : Nat => V.int (x : Int)) := .inl (.inl hpl)
    refine ⟨pl, rfl, ⟨_, hL3⟩, ?_⟩
    refine for_list (K := K) (a := pl) (xs := (near (f.wd c) (f.wq c) (f.wq c + (m : Int))).map fun x : Nat => V.int (x : Int)) (fun i σ H4 => ∃ v5 v6 v7, σ = [some (.ref a), some (.str W.nm), some (.int (c : Int)), some (.ref p1), some (.int (f.wq c + (m : Int))), v5, v6, v7] ∧ Same H3 H4 ∧ ∀ y ∈ (near (f.wd c) (f.wq c) (f.wq c + (m : Int))).take i, decide (f.readD W y (f.wq c + (m : Int)) = c) = false)
      ⟨v5, v6, v7, rfl, Same.refl H3, fun y hy => by simp at hy⟩ (fun i σ H4 _ hP => ?_) (fun i x σ H4 hi hP => ?_) (fun σ H4 hP => ?_)
    · obtain ⟨_, _, _, _, s4, _⟩ := hP
      exact s4.seq hL3
    · obtain ⟨u5, u6, u7, rfl, s4, hb⟩ := hP
      obtain ⟨y, hy, rfl⟩ : ∃ y : Nat, (near (f.wd c) (f.wq c) (f.wq c + (m : Int)))[i]? = some y ∧ V.int (y : Int) = x := by
        rw [List.getElem?_map] at hi
        obtain ⟨y, h1, h2⟩ := Option.map_eq_some_iff.mp hi
        exact ⟨y, h1, h2⟩
      have hmem := List.mem_of_getElem? hy
      have hbits := near_bits g hc h0 (t := f.wq c + (m : Int)) (by omega) (by omega) hmem
      have hyb : y < 2 ^ 4000 := Nat.lt_trans (Nat.lt_of_le_of_lt (Nat.le_mul_of_pos_right _ (ten_pos _)) hbits) ten1101
      have hnum : y * 10 ^ (f.wq c + (m : Int)).toNat < 2 ^ 4000 := Nat.lt_trans (Nat.lt_of_le_of_lt (Nat.mul_le_mul_left _ (Nat.pow_le_pow_right (by decide) (by omega))) hbits) ten1101
      have hden : 10 ^ (-(f.wq c + (m : Int))).toNat < 2 ^ 4000 := ten_le (by omega)
      refine ⟨_, rfl, _, rfl, l2, fun pd hpd => ?_⟩
      have s5 := same_new (o := .tup [.int (y : Int), .int (f.wq c + (m : Int))]) hpd
      refine ⟨pd, y, _, rfl, sq_t, lt_more hyb, by omega, by omega, fun pf H5 s6 hpf => ?_⟩
      refine ⟨pf, _, rfl, .inl (.inl hpf), rfl, _, _, rfl, _, _, rfl, rfl, ?_⟩
      have sA : Same H H5 := (((s1.trans s2).trans s3).trans s4).trans (s5.trans s6)
      refine ⟨_, rfl, _, rfl, _, rfl, _, rfl, a, f, W, _, _, rfl, hF.up sA, fb, hnum, ten_pos _, hden, fun H6 s7 => ?_⟩
      refine ⟨_, rfl, rfl, _, rfl, ifD (fun h2 => ?_) (fun h2 => ?_)⟩
      · have hr : f.readD W y (f.wq c + (m : Int)) = c := Int.ofNat.inj (V.int.inj h2)
        have hlook : f.look W c (f.wd c) (f.wq c) (f.wq c + (m : Int)) = some y := find_at hy (decide_eq_true hr) hb
        rw [← es, f.srch_hit hlook] at q
        have hy0 : 0 < y := Nat.pos_of_ne_zero fun z => by
          subst z
          rw [f.read_zero fb.ok] at hr
          exact h0 hr.symm
        refine ⟨_, rfl, _, rfl, l2, fun pe hpe => ?_⟩
        refine ⟨pe, y, _, rfl, sq_t, hy0, fun pz H7 s8 hz => q pz H7 ((sA.trans s7).trans ((same_new hpe).trans s8)) hz⟩
      · refine ⟨_, _, _, rfl, ((s4.trans s5).trans s6).trans s7, fun z hz => ?_⟩
        rw [List.take_add_one, hy] at hz
        rcases List.mem_append.mp hz with hz | hz
        · exact hb z hz
        · have e : z = y := by simpa using hz
          subst e
          exact decide_eq_false fun y2 => h2 (congrArg V.int (congrArg Int.ofNat y2))
    · obtain ⟨u5, u6, u7, rfl, s4, hb⟩ := hP
      refine ⟨_, rfl, _, _, rfl, rfl, u5, u6, u7, rfl, (s2.trans s3).trans s4, ?_⟩
      unfold Fm.look
      rw [List.find?_eq_none]
      intro x hx
      rw [List.length_map] at hb
      rw [List.take_of_length_le (Nat.le_refl _)] at hb
      rw [hb x hx]
      decide

end
end NT
/-! text W5 -/
set_option Elab.async false
set_option linter.all false
set_option maxRecDepth 100000
set_option maxHeartbeats 2000000
namespace NT
open PySem PySem.Spec PyProof.Rows L2 PySem.NumText
/-! ### plain scanners -/
/-- digits with at most one point among them -/
def dgs (S : List Nat) (most : Nat) : List Nat → List Nat → Option Nat → List Nat × Option Nat × List Nat
  | [], acc, fr => (acc, fr, [])
  | c :: r, acc, fr => if c = 46 ∧ fr = none then dgs S most r acc (some acc.length) else if c ∈ S ∧ acc.length < most then dgs S most r (acc ++ [c]) fr else (acc, fr, c :: r)
/-- a power's digits -/
def pwr (most : Nat) : List Nat → Nat → Nat × List Nat
  | [], v => (v, [])
  | c :: r, v => if c ∈ [48, 49, 50, 51, 52, 53, 54, 55, 56, 57] ∧ v * 10 + (c - 48) ≤ most then pwr most r (v * 10 + (c - 48)) else (v, c :: r)
def frV : Option Nat → V
  | none => .non
  | some k => .int (k : Int)
def behind (acc : List Nat) : Option Nat → Int
  | none => 0
  | some k => (acc.length : Int) - (k : Int)
theorem S_inj {a b : List Nat} (h : V.str (SX.S a) = V.str (SX.S b)) : a = b := by
  have h1 := V.str.inj h
  have h2 := congrArg (fun s : Str => s.cps.toList) h1
  simpa [SX.S] using h2
theorem dec_S (a b : List Nat) : decide (V.str (SX.S a) = V.str (SX.S b)) = decide (a = b) := by
  rw [Bool.eq_iff_iff, decide_eq_true_eq, decide_eq_true_eq]
  exact ⟨S_inj, fun h => by rw [h]⟩
theorem eqV_S (a b : List Nat) : eqV (V.str (SX.S a)) (V.str (SX.S b)) = decide (b = a) := by
  show (SX.S a == SX.S b) = _
  rw [Bool.eq_iff_iff, decide_eq_true_eq, beq_iff_eq]
  exact ⟨fun h => (S_inj (congrArg V.str h)).symm, fun h => by rw [h]⟩
theorem in_signs (l : List Nat) : inV (V.str (SX.S l)) [.str (SX.S [45]), .str (SX.S [43])] = (decide (l = [45]) || decide (l = [43])) := by
  show (eqV (V.str (SX.S [45])) (V.str (SX.S l)) || (eqV (V.str (SX.S [43])) (V.str (SX.S l)) || false)) = _
  rw [eqV_S, eqV_S, Bool.or_false]
theorem drop_at {L r : List Nat} {c k : Nat} (h : L.drop k = c :: r) : L[k]? = some c ∧ L.drop (k + 1) = r ∧ k < L.length := by
  have h1 : k < L.length := by
    by_cases z : k < L.length
    · exact z
    · rw [List.drop_of_length_le (by omega)] at h
      cases h
  refine ⟨?_, ?_, h1⟩
  · have := congrArg (fun l : List Nat => l[0]?) h
    simpa using this
  · have := congrArg (fun l : List Nat => l.drop 1) h
    simpa [List.drop_drop] using this
theorem drop_end {L : List Nat} {k : Nat} (h : L.drop k = []) : L.length ≤ k := by simpa using h
theorem dgs_none {S : List Nat} {most : Nat} : ∀ {R acc : List Nat} {fr : Option Nat}, (R = [] ∨ ∃ c r, R = c :: r ∧ c ∉ S ∧ (c ≠ 46 ∨ fr ≠ none)) → dgs S most R acc fr = (acc, fr, R)
  | [], _, _, _ => rfl
  | c :: r, acc, fr, h => by
    rcases h with h | ⟨c', r', e, h1, h2⟩
    · cases h
    · cases e
      unfold dgs
      rw [if_neg (fun z : c = 46 ∧ fr = none => h2.elim (fun y => y z.1) (fun y => y z.2)), if_neg (fun z : c ∈ S ∧ acc.length < most => h1 z.1)]
theorem dgs_run {S : List Nat} {most : Nat} (hS : 46 ∉ S) {R : List Nat} {fr : Option Nat} : ∀ {A acc : List Nat}, (∀ c ∈ A, c ∈ S) → acc.length + A.length ≤ most → dgs S most (A ++ R) acc fr = dgs S most R (acc ++ A) fr
  | [], acc, _, _ => by simp
  | c :: A, acc, h, hl => by
    have hc : c ∈ S := h c (by simp)
    rw [List.cons_append]
    conv => lhs; unfold dgs
    rw [List.length_cons] at hl
    rw [if_neg (fun z : c = 46 ∧ fr = none => hS (z.1 ▸ hc)), if_pos ⟨hc, by omega⟩, dgs_run hS (fun x hx => h x (by simp [hx])) (by rw [List.length_append, List.length_singleton]; omega)]
    simp
/-- without a point -/
theorem dgs_whole {S : List Nat} {most : Nat} (hS : 46 ∉ S) {A R : List Nat} (hA : ∀ c ∈ A, c ∈ S) (hl : A.length ≤ most) (hR : R = [] ∨ ∃ c r, R = c :: r ∧ c ∉ S ∧ c ≠ 46) : dgs S most (A ++ R) [] none = (A, none, R) := by
  rw [dgs_run hS hA (by simpa using hl), dgs_none, List.nil_append]
  rcases hR with h | ⟨c, r, h1, h2, h3⟩
  · exact .inl h
  · exact .inr ⟨c, r, h1, h2, .inl h3⟩
/-- with a point -/
theorem dgs_point {S : List Nat} {most : Nat} (hS : 46 ∉ S) {A B R : List Nat} (hA : ∀ c ∈ A ++ B, c ∈ S) (hl : (A ++ B).length ≤ most) (hR : R = [] ∨ ∃ c r, R = c :: r ∧ c ∉ S) : dgs S most (A ++ 46 :: (B ++ R)) [] none = (A ++ B, some A.length, R) := by
  rw [List.length_append] at hl
  rw [dgs_run hS (fun c hc => hA c (by simp [hc])) (by simp; omega), List.nil_append]
  conv => lhs; unfold dgs
  rw [if_pos ⟨rfl, rfl⟩, dgs_run hS (fun c hc => hA c (by simp [hc])) (by omega), dgs_none]
  rcases hR with h | ⟨c, r, h1, h2⟩
  · exact .inl h
  · exact .inr ⟨c, r, h1, h2, .inr nofun⟩
theorem pwr_run {most : Nat} : ∀ {D : List Nat} {v : Nat}, AllDigits D → v * 10 ^ D.length + digitsVal D ≤ most → pwr most D v = (v * 10 ^ D.length + digitsVal D, [])
  | [], v, _, _ => by simp [pwr, digitsVal]
  | c :: D, v, h, hm => by
    have hc := h c (by simp)
    have e := val_app [c] D
    rw [List.singleton_append, show digitsVal [c] = c - 48 by simp [digitsVal]] at e
    have e2 : v * 10 ^ (c :: D).length + digitsVal (c :: D) = (v * 10 + (c - 48)) * 10 ^ D.length + digitsVal D := by
      rw [e, List.length_cons, Nat.pow_succ, Nat.add_mul, Nat.mul_assoc, Nat.mul_comm 10, Nat.add_assoc]
    rw [e2] at hm ⊢
    unfold pwr
    have hin : c ∈ [48, 49, 50, 51, 52, 53, 54, 55, 56, 57] := by
      simp only [List.mem_cons, List.mem_nil_iff, or_false]
      omega
    rw [if_pos ⟨hin, Nat.le_trans (Nat.le_trans (Nat.le_mul_of_pos_right _ (ten_pos D.length)) (Nat.le_add_right _ _)) hm⟩]
    exact pwr_run (fun x hx => h x (by simp [hx])) hm
theorem pwr_ds {most n : Nat} (h : n ≤ most) : pwr most (ds n) 0 = (n, []) := by
  have := pwr_run (most := most) (D := ds n) (v := 0) (ds_dig n) (by rw [ds_val]; omega)
  rw [this, ds_val]
  simp
section
variable {P : Program} {w : World} {K : PySem.W.Frag} {mg : Str → Option Value} {base : Heap}

def sp_scan_digits (K : PySem.W.Frag) : Sp := fun vs H Q _ => ∃ (L Z : List Nat) (a most : Nat), vs = [.str (SX.S L), .int (a : Int), .str (SX.S Z), .int (most : Int)] ∧ L.length ≤ 100000 ∧ a ≤ L.length ∧ (dgs Z most (L.drop a) [] none).1 ≠ [] ∧ ∀ p H', Same H H' → H' p = some (.tup [.str (SX.S (dgs Z most (L.drop a) [] none).1), .int (behind (dgs Z most (L.drop a) [] none).1 (dgs Z most (L.drop a) [] none).2.1), .int ((L.length - (dgs Z most (L.drop a) [] none).2.2.length : Nat) : Int)]) → Q (.ref p) H'
theorem ok_scan_digits (B : Bs K mg base) : OkD P w K mg base "scan_digits" 1 ["text", "at", "signs", "most"] (sp_scan_digits K) := by
  have S : FnScope ["text", "at", "signs", "most", "digits", "front"] ["text", "at", "signs", "most"] (defScope (ts 40)) := ⟨rfl, rfl, rfl, by decide +kernel, rfl, by decide +kernel, by decide +kernel⟩
  refine mk_ok B 21 40 rfl rfl S (fun _ _ _ _ _ _ us hl => match us, hl with | [_, _, _, _], _ => rfl) (fun vs H Q E h => ?_) (fun f0 cdv A outer s H vs Q E hr h => ?_)
  · obtain ⟨L, Z, a, most, rfl, hL, ha, hne, q⟩ := h; rfl
  · obtain ⟨L, Z, a, most, rfl, hL, ha, hne, q⟩ := h
    have scn := S.nd
    refine ⟨_, (pss_cons (ps_asg (pe_tup (pa_cons (pe_strS [] (by decide +kernel)) (pa_cons pe_non pa_nil))) (pg_tup rfl (pgs_cons (pg_name (i := 4) scn rfl (.inl rfl)) (pgs_cons (pg_name (i := 5) scn rfl (.inl rfl)) pgs_nil))))
      (pss_cons (ps_while PassesOwn.never (pt_cmpR op_lt (pv 1) (pe_callB call_lenL (by rfl) (B.fre 54) PySem.boot_len (pa_cons (pv 0) pa_nil)) (nomark _))
        (pss_cons (ps_if (PW.pt (pw_and (pt_cmpR op_eq (pe_ix ix_S (pv 0) (pv 1) (fun _ _ => rfl)) (pe_strS [46] (by decide +kernel)) (nomark _)) (pw_and1 (pt_cmpR op_isN (pv 5) pe_non (nomark _)))))
            (pss_one (ps_set (i := 5) scn rfl (.inl rfl) (pe_callB call_lenL (by rfl) (B.fre 54) PySem.boot_len (pa_cons (pv 4) pa_nil))))
            (pss_one (ps_if (PW.pt (pw_and (pt_cmpR op_inL (pe_ix ix_S (pv 0) (pv 1) (fun _ _ => rfl)) (pv 2) (by rfl)) (pw_and1 (pt_cmpR op_lt (pe_callB call_lenL (by rfl) (B.fre 54) PySem.boot_len (pa_cons (pv 4) pa_nil)) (pv 3) (nomark _)))))
              (pss_one (ps_set (i := 4) scn rfl (.inl rfl) (pe_op op_addL (pv 4) (pe_ix ix_S (pv 0) (pv 1) (fun _ _ => rfl)))))
              (pss_one ps_break))))
          (pss_one (ps_set (i := 1) scn rfl (.inl rfl) (pe_op op_add (pv 1) pe_int)))))
      (pss_cons (ps_if (pt_cmpR op_eq (pv 4) (pe_strS [] (by decide +kernel)) (nomark _))
        (pss_one ps_never)
        pss_nil)
      (pss_one (ps_ret (pe_tup (pa_cons (pv 4) (pa_cons (pe_ifExp (pt_cmpR op_isN (pv 5) pe_non (nomark _)) pe_int (pe_op op_sub (pe_callB call_lenL (by rfl) (B.fre 54) PySem.boot_len (pa_cons (pv 4) pa_nil)) (pv 5))) (pa_cons (pv 1) pa_nil))))))))), ?_⟩
    generalize hR : dgs Z most (L.drop a) [] none = R at hne q
    refine ⟨l2, fun p0 hp0 => ⟨p0, _, rfl, sq_t, rfl, _, _, rfl, _, _, rfl, rfl, ?_⟩⟩
    have s0 := same_new (o := .tup [.str (SX.S []), .non]) hp0
    generalize upd H p0 (.tup [.str (SX.S []), .non]) = H0 at s0 ⊢
    refine ⟨fun m σ H1 => ∃ (k : Nat) (acc : List Nat) (fr : Option Nat), σ = [some (.str (SX.S L)), some (.int (k : Int)), some (.str (SX.S Z)), some (.int (most : Int)), some (.str (SX.S acc)), some (frV fr)] ∧ H1 = H0 ∧ k + m = L.length ∧ acc.length ≤ k ∧ dgs Z most (L.drop k) acc fr = R,
      ⟨L.length - a, a, [], none, rfl, rfl, by omega, Nat.zero_le _, hR⟩, fun m σ H1 hW => ?_⟩
    obtain ⟨k, acc, fr, rfl, rfl, hk, hak, e⟩ := hW
    refine ⟨_, rfl, _, rfl, L, rfl, by omega, _, _, rfl, rfl, _, rfl, ifD (fun h => ?_) (fun h => ?_)⟩
    · have hkl : k < L.length := by omega
      obtain ⟨c, r, hd⟩ : ∃ c r, L.drop k = c :: r := by
        cases z : L.drop k with
        | nil => have := drop_end z; omega
        | cons c r => exact ⟨c, r, rfl⟩
      obtain ⟨h1, h2, _⟩ := drop_at hd
      rw [hd] at e
      refine ⟨fun σ' H' => ∃ (acc : List Nat) (fr : Option Nat), σ' = [some (.str (SX.S L)), some (.int ((k + 1 : Nat) : Int)), some (.str (SX.S Z)), some (.int (most : Int)), some (.str (SX.S acc)), some (frV fr)] ∧ H' = H1 ∧ acc.length ≤ k + 1 ∧ dgs Z most r acc fr = R, fun σ' H' hN => ?_, ?_⟩
      · obtain ⟨acc', fr', rfl, rfl, hl, e'⟩ := hN
        exact ⟨m - 1, by omega, k + 1, acc', fr', rfl, rfl, by omega, hl, by rw [h2]; exact e'⟩
      refine ⟨_, rfl, _, rfl, L, k, c, rfl, rfl, by omega, h1, rfl, _, rfl, ifD (fun g1 => ?_) (fun g1 => ?_)⟩
      · refine ⟨_, rfl, rfl, _, rfl, ifD (fun g2 => ?_) (fun g2 => ?_)⟩
        · have g3 := S_inj g1
          have g4 : c = 46 := by simpa using g3
          have g5 : fr = none := by
            cases fr with
            | none => rfl
            | some j => cases g2
          unfold dgs at e
          rw [if_pos ⟨g4, g5⟩] at e
          exact ⟨_, rfl, acc, rfl, by omega, _, rfl, _, _, rfl, rfl, acc, some acc.length, by rw [g5]; rfl, rfl, by omega, e⟩
        · have hn : ¬ (c = 46 ∧ fr = none) := fun z => g2 (by rw [z.2]; rfl)
          refine ⟨_, rfl, _, rfl, L, k, c, rfl, rfl, by omega, h1, _, rfl, c, Z, rfl, rfl, _, rfl, ifD (fun g2 => ?_) (fun g2 => ?_)⟩
          · have g3 : c ∈ Z := g2
            refine ⟨_, rfl, acc, rfl, by omega, _, rfl, _, _, rfl, rfl, _, rfl, ifD (fun g4 => ?_) (fun g4 => ?_)⟩
            · have g5 : acc.length < most := by omega
              unfold dgs at e
              rw [if_neg hn, if_pos ⟨g3, g5⟩] at e
              exact ⟨_, rfl, _, rfl, _, rfl, L, k, c, rfl, rfl, by omega, h1, acc, [c], rfl, rfl, by simp; omega, _, rfl, _, _, rfl, rfl, acc ++ [c], fr, rfl, rfl, by simp; omega, e⟩
            · unfold dgs at e
              rw [if_neg hn, if_neg (fun z => g4 (by omega))] at e
              have e' := e.symm
              subst e'
              have hat : L.length - (c :: r).length = k := by
                have := congrArg List.length hd
                rw [List.length_drop] at this
                omega
              refine ⟨_, rfl, rfl, _, rfl, ifD (fun h => absurd (S_inj h) hne) (fun _ => ?_)⟩
              cases fr with
              | none => exact ⟨_, rfl, _, rfl, rfl, _, rfl, ifD (fun _ => ⟨_, rfl, l3, fun p hp => q p _ (s0.trans (same_new hp)) (tup3_ rfl rfl (congrArg V.int (congrArg Int.ofNat hat.symm)))⟩) (fun h => absurd rfl h)⟩
              | some j => exact ⟨_, rfl, _, rfl, rfl, _, rfl, ifD (fun h => nomatch h) (fun _ => ⟨_, rfl, acc, rfl, by omega, _, rfl, _, _, rfl, rfl, _, rfl, l3, fun p hp => q p _ (s0.trans (same_new hp)) (tup3_ rfl rfl (congrArg V.int (congrArg Int.ofNat hat.symm)))⟩)⟩
          · have g3 : ¬ c ∈ Z := g2
            unfold dgs at e
            rw [if_neg hn, if_neg (fun z => g3 z.1)] at e
            have e' := e.symm
            subst e'
            have hat : L.length - (c :: r).length = k := by
              have := congrArg List.length hd
              rw [List.length_drop] at this
              omega
            refine ⟨_, rfl, rfl, _, rfl, ifD (fun h => absurd (S_inj h) hne) (fun _ => ?_)⟩
            cases fr with
            | none => exact ⟨_, rfl, _, rfl, rfl, _, rfl, ifD (fun _ => ⟨_, rfl, l3, fun p hp => q p _ (s0.trans (same_new hp)) (tup3_ rfl rfl (congrArg V.int (congrArg Int.ofNat hat.symm)))⟩) (fun h => absurd rfl h)⟩
            | some j => exact ⟨_, rfl, _, rfl, rfl, _, rfl, ifD (fun h => nomatch h) (fun _ => ⟨_, rfl, acc, rfl, by omega, _, rfl, _, _, rfl, rfl, _, rfl, l3, fun p hp => q p _ (s0.trans (same_new hp)) (tup3_ rfl rfl (congrArg V.int (congrArg Int.ofNat hat.symm)))⟩)⟩
      · have hn : ¬ (c = 46 ∧ fr = none) := fun z => g1 (by rw [z.1])
        refine ⟨_, rfl, _, rfl, L, k, c, rfl, rfl, by omega, h1, _, rfl, c, Z, rfl, rfl, _, rfl, ifD (fun g2 => ?_) (fun g2 => ?_)⟩
        · have g3 : c ∈ Z := g2
          refine ⟨_, rfl, acc, rfl, by omega, _, rfl, _, _, rfl, rfl, _, rfl, ifD (fun g4 => ?_) (fun g4 => ?_)⟩
          · have g5 : acc.length < most := by omega
            unfold dgs at e
            rw [if_neg hn, if_pos ⟨g3, g5⟩] at e
            exact ⟨_, rfl, _, rfl, _, rfl, L, k, c, rfl, rfl, by omega, h1, acc, [c], rfl, rfl, by simp; omega, _, rfl, _, _, rfl, rfl, acc ++ [c], fr, rfl, rfl, by simp; omega, e⟩
          · unfold dgs at e
            rw [if_neg hn, if_neg (fun z => g4 (by omega))] at e
            have e' := e.symm
            subst e'
            have hat : L.length - (c :: r).length = k := by
              have := congrArg List.length hd
              rw [List.length_drop] at this
              omega
            refine ⟨_, rfl, rfl, _, rfl, ifD (fun h => absurd (S_inj h) hne) (fun _ => ?_)⟩
            cases fr with
            | none => exact ⟨_, rfl, _, rfl, rfl, _, rfl, ifD (fun _ => ⟨_, rfl, l3, fun p hp => q p _ (s0.trans (same_new hp)) (tup3_ rfl rfl (congrArg V.int (congrArg Int.ofNat hat.symm)))⟩) (fun h => absurd rfl h)⟩
            | some j => exact ⟨_, rfl, _, rfl, rfl, _, rfl, ifD (fun h => nomatch h) (fun _ => ⟨_, rfl, acc, rfl, by omega, _, rfl, _, _, rfl, rfl, _, rfl, l3, fun p hp => q p _ (s0.trans (same_new hp)) (tup3_ rfl rfl (congrArg V.int (congrArg Int.ofNat hat.symm)))⟩)⟩
        · have g3 : ¬ c ∈ Z := g2
          unfold dgs at e
          rw [if_neg hn, if_neg (fun z => g3 z.1)] at e
          have e' := e.symm
          subst e'
          have hat : L.length - (c :: r).length = k := by
            have := congrArg List.length hd
            rw [List.length_drop] at this
            omega
          refine ⟨_, rfl, rfl, _, rfl, ifD (fun h => absurd (S_inj h) hne) (fun _ => ?_)⟩
          cases fr with
          | none => exact ⟨_, rfl, _, rfl, rfl, _, rfl, ifD (fun _ => ⟨_, rfl, l3, fun p hp => q p _ (s0.trans (same_new hp)) (tup3_ rfl rfl (congrArg V.int (congrArg Int.ofNat hat.symm)))⟩) (fun h => absurd rfl h)⟩
          | some j => exact ⟨_, rfl, _, rfl, rfl, _, rfl, ifD (fun h => nomatch h) (fun _ => ⟨_, rfl, acc, rfl, by omega, _, rfl, _, _, rfl, rfl, _, rfl, l3, fun p hp => q p _ (s0.trans (same_new hp)) (tup3_ rfl rfl (congrArg V.int (congrArg Int.ofNat hat.symm)))⟩)⟩
    · have hr : L.drop k = [] := List.drop_of_length_le (by omega)
      rw [hr] at e
      have e' : R = (acc, fr, []) := e.symm
      subst e'
      have hat : L.length - ([] : List Nat).length = k := by simp; omega
      refine ⟨_, rfl, rfl, _, rfl, ifD (fun h => absurd (S_inj h) hne) (fun _ => ?_)⟩
      cases fr with
      | none => exact ⟨_, rfl, _, rfl, rfl, _, rfl, ifD (fun _ => ⟨_, rfl, l3, fun p hp => q p _ (s0.trans (same_new hp)) (tup3_ rfl rfl (congrArg V.int (congrArg Int.ofNat hat.symm)))⟩) (fun h => absurd rfl h)⟩
      | some j => exact ⟨_, rfl, _, rfl, rfl, _, rfl, ifD (fun h => nomatch h) (fun _ => ⟨_, rfl, acc, rfl, by omega, _, rfl, _, _, rfl, rfl, _, rfl, l3, fun p hp => q p _ (s0.trans (same_new hp)) (tup3_ rfl rfl (congrArg V.int (congrArg Int.ofNat hat.symm)))⟩)⟩

def sp_scan_power (K : PySem.W.Frag) : Sp := fun vs H Q _ => ∃ (L : List Nat) (a most : Nat) (e : Int), vs = [.str (SX.S L), .int (a : Int), .int (most : Int)] ∧ L.length ≤ 100000 ∧ L.drop a = sd e ∧ e.natAbs ≤ most ∧ most ≤ 2000 ∧ ∀ H', Same H H' → Q (.int e) H'
theorem ok_scan_power (B : Bs K mg base) : OkD P w K mg base "scan_power" 1 ["text", "at", "most"] (sp_scan_power K) := by
  have S : FnScope ["text", "at", "most", "is_minus", "found", "begin"] ["text", "at", "most"] (defScope (ts 41)) := ⟨rfl, rfl, rfl, by decide +kernel, rfl, by decide +kernel, by decide +kernel⟩
  refine mk_ok B 22 41 rfl rfl S (fun _ _ _ _ _ _ us hl => match us, hl with | [_, _, _], _ => rfl) (fun vs H Q E h => ?_) (fun f0 cdv A outer s H vs Q E hr h => ?_)
  · obtain ⟨L, a, most, e, rfl, hL, hd, he, hm, q⟩ := h; rfl
  · obtain ⟨L, a, most, e, rfl, hL, hd, he, hm, q⟩ := h
    have scn := S.nd
    refine ⟨_, (pss_cons (ps_set (i := 3) scn rfl (.inl rfl) (pe_cmpR op_eq (pe_slice sl_S (pv 0) (po_some (pv 1)) (po_some (pe_op op_add (pv 1) pe_int))) (pe_strS [45] (by decide +kernel)) (nomark _)))
      (pss_cons (ps_set (i := 1) scn rfl (.inl rfl) (pe_op op_add (pv 1) (pe_callTy call_int1 (by rfl) (B.fre 52) (by decide +kernel) (pa_cons (pe_cmpR op_in_seq (pe_slice sl_S (pv 0) (po_some (pv 1)) (po_some (pe_op op_add (pv 1) pe_int))) (pe_tup (pa_cons (pe_strS [45] (by decide +kernel)) (pa_cons (pe_strS [43] (by decide +kernel)) pa_nil))) (by rfl)) pa_nil))))
      (pss_cons (ps_par (i := 4) (j := 5) rfl scn rfl rfl (by decide) rfl rfl (pa_cons pe_int (pa_cons (pv 1) pa_nil)) (by rfl))
      (pss_cons (ps_while PassesOwn.never (PW.pt (pw_and (pt_cmpR op_lt (pv 1) (pe_callB call_lenL (by rfl) (B.fre 54) PySem.boot_len (pa_cons (pv 0) pa_nil)) (nomark _)) (pw_and (pt_cmpR op_inL (pe_ix ix_S (pv 0) (pv 1) (fun _ _ => rfl)) (pe_gstr [48, 49, 50, 51, 52, 53, 54, 55, 56, 57] (by rfl) (B.kstr 61) (by decide +kernel)) (by rfl)) (pw_and1 (pt_cmpR op_le (pe_op op_add (pe_op op_mulX (pv 4) pe_int) (pe_callTy (call_intD B.nd) (by rfl) (B.fre 52) (by decide +kernel) (pa_cons (pe_ix ix_S (pv 0) (pv 1) (fun _ _ => rfl)) pa_nil))) (pv 2) (nomark _))))))
        (pss_cons (ps_set (i := 4) scn rfl (.inl rfl) (pe_op op_add (pe_op op_mulX (pv 4) pe_int) (pe_callTy (call_intD B.nd) (by rfl) (B.fre 52) (by decide +kernel) (pa_cons (pe_ix ix_S (pv 0) (pv 1) (fun _ _ => rfl)) pa_nil))))
          (pss_one (ps_set (i := 1) scn rfl (.inl rfl) (pe_op op_add (pv 1) pe_int)))))
      (pss_cons (ps_if (PW.pt (pw_or (pt_cmpR op_eq (pv 1) (pv 5) (nomark _)) (pw_or1 (pt_cmpR op_lt (pv 1) (pe_callB call_lenL (by rfl) (B.fre 54) PySem.boot_len (pa_cons (pv 0) pa_nil)) (nomark _)))))
        (pss_one ps_never)
        pss_nil)
      (pss_one (ps_ret (pe_ifExp (pt_val (pv 3)) (pe_op op_sub pe_int (pv 4)) (pv 4))))))))), ?_⟩
    have hsd : ∃ (n : Nat) (b : Bool), sd e = (if b = true then 45 :: ds n else ds n) ∧ n ≤ most ∧ (if b = true then 0 - (n : Int) else (n : Int)) = e := by
      unfold sd
      by_cases z : e < 0
      · exact ⟨e.natAbs, true, by rw [if_pos z, if_pos rfl], he, by rw [if_pos rfl]; omega⟩
      · exact ⟨e.natAbs, false, by rw [if_neg z, if_neg Bool.false_ne_true], he, by rw [if_neg Bool.false_ne_true]; omega⟩
    obtain ⟨n, b, e1, hn, e2⟩ := hsd
    rw [← e2] at q
    have hdsn : ∃ c r, ds n = c :: r ∧ 48 ≤ c ∧ c ≤ 57 := by
      cases z : ds n with
      | nil => exact absurd z (ds_ne n)
      | cons c r => exact ⟨c, r, rfl, ds_dig n c (by rw [z]; simp)⟩
    obtain ⟨c0, r0, ec, hc1, hc2⟩ := hdsn
    have hsl : cutL L (some (a : Int)) (some ((a : Int) + 1)) = (if b = true then [45] else [c0]) := by
      rw [show (a : Int) + 1 = ((a + 1 : Nat) : Int) by omega, cut_mid, hd, e1, show a + 1 - a = 1 by omega]
      cases b with
      | true => rfl
      | false => rw [if_neg Bool.false_ne_true, if_neg Bool.false_ne_true, ec]; rfl
    have hda : L.drop (a + (if b = true then 1 else 0)) = ds n := by
      rw [← List.drop_drop, hd, e1]
      cases b with
      | true => rfl
      | false => rfl
    have hcut := cutL L (some (a : Int)) (some ((a : Int) + 1))
    have hal : a + (if b = true then 1 else 0) < L.length := by
      rw [ec] at hda
      exact (drop_at hda).2.2
    have hb : V.str (SX.S (if b = true then [45] else [c0])) = V.str (SX.S [45]) ↔ b = true := by
      cases b with
      | true => simp
      | false =>
        constructor
        · intro h
          have := S_inj h
          simp at this
          omega
        · nofun
    refine ⟨_, rfl, _, rfl, _, rfl, _, rfl, _, _, rfl, rfl, _, rfl, L, rfl, by omega, ?_⟩
    rw [hsl]
    refine ⟨rfl, ?_⟩
    refine ⟨_, rfl, _, rfl, _, rfl, _, rfl, _, rfl, _, _, rfl, rfl, _, rfl, L, rfl, by omega, ?_⟩
    rw [hsl]
    have hdec : decide (V.str (SX.S (if b = true then [45] else [c0])) = V.str (SX.S [45])) = b := by
      rw [Bool.eq_iff_iff, decide_eq_true_eq]
      exact hb
    have hin : inV (V.str (SX.S (if b = true then [45] else [c0]))) [.str (SX.S [45]), .str (SX.S [43])] = b := by
      rw [in_signs]
      cases b with
      | true => rfl
      | false =>
        rw [if_neg Bool.false_ne_true, decide_eq_false (fun z : [c0] = [45] => by simp at z; omega), decide_eq_false (fun z : [c0] = [43] => by simp at z; omega)]
        rfl
    rw [hdec]
    refine ⟨l2, fun p0 hp0 => ⟨p0, _, rfl, .inr sq_t, rfl, rfl, ?_⟩⟩
    rw [if_neg Bool.false_ne_true, hin]
    have s0 := same_new (o := .tup [.str (SX.S [45]), .str (SX.S [43])]) hp0
    generalize upd H p0 (.tup [.str (SX.S [45]), .str (SX.S [43])]) = H0 at s0 ⊢
    refine .inr ⟨b, rfl, ?_⟩
    refine ⟨_, _, rfl, rfl, ?_⟩
    have hat : (a : Int) + (if b = true then 1 else 0) = ((a + (if b = true then 1 else 0) : Nat) : Int) := by split <;> omega
    show gName 1 (V.int (_ + _)) _ _ _
    rw [hat]
    generalize a + (if b = true then 1 else 0) = st at hda hal
    refine ⟨_, rfl, _, _, rfl, ?_⟩
    refine ⟨fun m σ H1 => ∃ (k v : Nat), σ = [some (.str (SX.S L)), some (.int (k : Int)), some (.int (most : Int)), some (.bl b), some (.int (v : Int)), some (.int (st : Int))] ∧ H1 = H0 ∧ k + m = L.length ∧ pwr most (L.drop k) v = (n, []) ∧ v ≤ most,
      ⟨L.length - st, st, 0, rfl, rfl, by omega, by rw [hda]; exact pwr_ds hn, Nat.zero_le _⟩, fun m σ H1 hW => ?_⟩
    obtain ⟨k, v, rfl, rfl, hk, e, hv⟩ := hW
    refine ⟨_, rfl, _, rfl, L, rfl, by omega, _, _, rfl, rfl, _, rfl, ifD (fun h => ?_) (fun h => ?_)⟩
    · have hkl : k < L.length := by omega
      obtain ⟨c, r, hdk⟩ : ∃ c r, L.drop k = c :: r := by
        cases z : L.drop k with
        | nil => have := drop_end z; omega
        | cons c r => exact ⟨c, r, rfl⟩
      obtain ⟨h1, h2, _⟩ := drop_at hdk
      rw [hdk] at e
      unfold pwr at e
      split at e
      case isFalse => cases e
      rename_i hc
      have hd1 : ∀ x ∈ [c], 48 ≤ x ∧ x ≤ 57 := fun x hx => by
        have h3 := hc.1
        simp only [List.mem_cons, List.mem_nil_iff, or_false] at h3 hx
        omega
      have hdv : ((digitsVal [c] : Nat) : Int) = ((c - 48 : Nat) : Int) := by simp [digitsVal]
      have hvv : (v : Int) * 10 + ((digitsVal [c] : Nat) : Int) = ((v * 10 + (c - 48) : Nat) : Int) := by rw [hdv]; omega
      have hmul : CMulX (v : Int) 10 := cmulN (a := 11) (b := 4) (n := v) (m := 10) (Nat.lt_of_le_of_lt (Nat.le_trans hv hm) (by decide)) (by decide)
      refine ⟨_, rfl, _, rfl, L, k, c, rfl, rfl, by omega, h1, c, [48, 49, 50, 51, 52, 53, 54, 55, 56, 57], rfl, rfl, _, rfl, ifD (fun _ => ?_) (fun g => absurd hc.1 g)⟩
      refine ⟨_, rfl, _, _, rfl, rfl, hmul, _, rfl, _, rfl, L, k, c, rfl, rfl, by omega, h1, [c], rfl, by simp, hd1, by simp, _, _, rfl, rfl, _, rfl, _, _, rfl, rfl, _, rfl, ifD (fun _ => ?_) (fun g => absurd (by rw [hvv]; exact Int.ofNat_le.mpr hc.2) g)⟩
      refine ⟨fun σ' H' => σ' = [some (.str (SX.S L)), some (.int ((k + 1 : Nat) : Int)), some (.int (most : Int)), some (.bl b), some (.int ((v * 10 + (c - 48) : Nat) : Int)), some (.int (st : Int))] ∧ H' = H1, fun σ' H' hN => ?_, ?_⟩
      · obtain ⟨rfl, rfl⟩ := hN
        exact ⟨m - 1, by omega, k + 1, _, rfl, rfl, by omega, by rw [h2]; exact e, hc.2⟩
      refine ⟨_, rfl, _, _, rfl, rfl, hmul, _, rfl, _, rfl, L, k, c, rfl, rfl, by omega, h1, [c], rfl, by simp, hd1, by simp, _, _, rfl, rfl, _, rfl, _, _, rfl, rfl, ?_, rfl⟩
      show [_, some (V.int ((k : Int) + 1)), _, _, some (V.int (_ + _)), _] = _
      rw [hvv]
      rfl
    · have hkl : k = L.length := by omega
      rw [List.drop_of_length_le (by omega)] at e
      have e3 : v = n := by
        unfold pwr at e
        exact congrArg Prod.fst e
      subst e3
      refine iteF ?_
      refine ⟨_, rfl, _, rfl, rfl, _, rfl, ifD (fun g => absurd (V.int.inj g) (by omega)) (fun _ => ?_)⟩
      refine ⟨_, rfl, _, rfl, L, rfl, by omega, _, _, rfl, rfl, _, rfl, ifD (fun g => absurd g (by omega)) (fun _ => ?_)⟩
      refine ⟨_, rfl, b, rfl, ?_⟩
      cases b with
      | true => exact iteT ⟨_, rfl, _, _, rfl, rfl, q _ s0⟩
      | false => exact iteF ⟨_, rfl, q _ s0⟩

theorem for_enumS {l : List Nat} {g : TG} {tb : TS} {D : Ends} {σ : L2.St} {H : Hp} (Pv : Nat → L2.St → Hp → Prop) (h0 : Pv 0 σ H)
    (hs : ∀ i c σ H T, l[i]? = some c → Pv i σ H → H T = none → g (.ref T) σ (upd H T (.tup [.int (i : Nat), .str (SX.S [c])])) fun σ2 H2 => tb { D with nx := Pv (i + 1), ct := Pv (i + 1), bk := D.nx } σ2 H2) (hd : ∀ σ H, Pv l.length σ H → D.nx σ H) :
    ∃ W : Nat → Nat → L2.St → Hp → Prop, (∃ m, W 0 m σ H) ∧ ∀ i m σ H, W i m σ H →
      ((ItS (SX.S l)).stop i H ∧ D.nx σ H) ∨ ((ItS (SX.S l)).go i H ∧ ∃ N : L2.St → Hp → Prop, (∀ σ' H', N σ' H' → ∃ m', m' < m ∧ W (i + 1) m' σ' H') ∧ ∀ x H', (ItS (SX.S l)).yld i H x H' → g x σ H' fun σ2 H2 => tb { D with nx := N, ct := N, bk := D.nx } σ2 H2) := by
  have hz : (SX.S l).cps.size = l.length := by simp [SX.S]
  refine ⟨fun i m σ H => m = l.length - i ∧ i ≤ l.length ∧ Pv i σ H, ⟨l.length, by simp, Nat.zero_le _, h0⟩, ?_⟩
  rintro i m σ H ⟨rfl, hi, p⟩
  by_cases hlt : i < l.length
  · refine .inr ⟨by show i < _; rw [hz]; exact hlt, Pv (i + 1), fun σ' H' p' => ⟨l.length - (i + 1), by omega, rfl, hlt, p'⟩, fun x H' y => ?_⟩
    obtain ⟨T, c, rfl, hT, hc, rfl⟩ := y
    exact hs i c σ H T (by simpa [SX.S] using hc) p hT
  · have e : i = l.length := by omega
    subst e
    exact .inl ⟨hz, hd σ H p⟩

def sp_scan_word (K : PySem.W.Frag) : Sp := fun vs H Q _ => ∃ (L Z : List Nat) (a : Nat), vs = [.str (SX.S L), .int (a : Int), .str (SX.S Z)] ∧ L.length ≤ 100000 ∧ a ≤ L.length ∧ L.drop a = Z ∧ ∀ H', Same H H' → Q .non H'
theorem ok_scan_word (B : Bs K mg base) : OkD P w K mg base "scan_word" 1 ["text", "at", "word"] (sp_scan_word K) := by
  have S : FnScope ["text", "at", "word", "index", "sign"] ["text", "at", "word"] (defScope (ts 42)) := ⟨rfl, rfl, rfl, by decide +kernel, rfl, by decide +kernel, by decide +kernel⟩
  refine mk_ok B 23 42 rfl rfl S (fun _ _ _ _ _ _ us hl => match us, hl with | [_, _, _], _ => rfl) (fun vs H Q E h => ?_) (fun f0 cdv A outer s H vs Q E hr h => ?_)
  · obtain ⟨L, Z, a, rfl, hL, ha, hd, q⟩ := h; rfl
  · obtain ⟨L, Z, a, rfl, hL, ha, hd, q⟩ := h
    have scn := S.nd
    refine ⟨_, (pss_cons (ps_for PassesOwn.never rfl (pi_enumS (by rfl) (B.fre 51) (pa_cons (pv 2) pa_nil)) (pg_tup rfl (pgs_cons (pg_name (i := 3) scn rfl (.inl rfl)) (pgs_cons (pg_name (i := 4) scn rfl (.inl rfl)) pgs_nil)))
        (pss_one (ps_if (pt_cmpR op_ne (pe_slice sl_S (pv 0) (po_some (pe_op op_add (pv 1) (pv 3))) (po_some (pe_op op_add (pe_op op_add (pv 1) (pv 3)) pe_int))) (pv 4) (nomark _))
          (pss_one ps_never)
          pss_nil)))
      (pss_one (ps_if (pt_cmpR op_gt (pe_callB call_lenL (by rfl) (B.fre 54) PySem.boot_len (pa_cons (pv 0) pa_nil)) (pe_op op_add (pv 1) (pe_callB call_lenL (by rfl) (B.fre 54) PySem.boot_len (pa_cons (pv 2) pa_nil))) (nomark _))
      (pss_one ps_never)
      pss_nil))), ?_⟩
    have hlen : a + Z.length = L.length := by
      have := congrArg List.length hd
      rw [List.length_drop] at this
      omega
    refine ⟨_, rfl, _, rfl, ?_⟩
    refine for_enumS (l := Z) (fun i σ H1 => ∃ u v, σ = [some (.str (SX.S L)), some (.int (a : Int)), some (.str (SX.S Z)), u, v] ∧ Same H H1) ⟨none, none, rfl, Same.refl H⟩ (fun i c σ H1 T hi hP hT => ?_) (fun σ H1 hP => ?_)
    · obtain ⟨u, v, rfl, s1⟩ := hP
      refine ⟨T, _, rfl, sq_t, rfl, _, _, rfl, _, _, rfl, rfl, ?_⟩
      refine ⟨_, rfl, _, rfl, _, rfl, _, _, rfl, rfl, _, rfl, _, rfl, _, rfl, _, _, rfl, rfl, _, _, rfl, rfl, _, rfl, L, rfl, by omega, _, rfl, rfl, _, rfl, ifN (fun h => absurd (congrArg V.str (congrArg SX.S ?_)) h) (fun _ => ⟨_, _, rfl, s1.trans (same_new hT)⟩)⟩
      rw [show (a : Int) + (i : Int) = ((a + i : Nat) : Int) by omega, show ((a + i : Nat) : Int) + 1 = ((a + i + 1 : Nat) : Int) by omega, cut_mid, ← List.drop_drop, hd, show a + i + 1 - (a + i) = 1 by omega]
      have hl : i < Z.length := by
        by_cases z : i < Z.length
        · exact z
        · rw [List.getElem?_eq_none (by omega)] at hi
          cases hi
      rw [List.drop_eq_getElem_cons hl]
      rw [List.getElem?_eq_getElem hl] at hi
      rw [Option.some.inj hi]
      rfl
    · obtain ⟨u, v, rfl, s1⟩ := hP
      exact ⟨_, rfl, L, rfl, by omega, _, rfl, _, rfl, Z, rfl, by omega, _, _, rfl, rfl, _, _, rfl, rfl, _, rfl, ifD (fun h => absurd h (by omega)) (fun _ => q _ s1)⟩

def sp_scan_decimal (K : PySem.W.Frag) : Sp := fun vs H Q _ => ∃ (L A R Z : List Nat) (a : Nat) (b : Option Nat) (e : Int), vs = [.str (SX.S L), .int (a : Int)] ∧ L.length ≤ 100000 ∧ a ≤ L.length ∧ L.drop a = Z ∧ dgs [48, 49, 50, 51, 52, 53, 54, 55, 56, 57] 1300 Z [] none = (A, b, R) ∧ A ≠ [] ∧ AllDigits A ∧ A.length ≤ 1300 ∧ R.length ≤ Z.length ∧ Z.drop (Z.length - R.length) = R ∧ ((R = [] ∧ e = 0) ∨ (R = 101 :: sd e ∧ e.natAbs ≤ 1200)) ∧ ∀ p H', Same H H' → H' p = some (.tup [.int 10, .int (digitsVal A : Nat), .int (e - behind A b)]) → Q (.ref p) H'
theorem ok_scan_decimal (B : Bs K mg base) : OkD P w K mg base "scan_decimal" 2 ["text", "at"] (sp_scan_decimal K) := by
  have G_scan_digits := ok_scan_digits (P := P) (w := w) B
  have G_scan_power := ok_scan_power (P := P) (w := w) B
  have S : FnScope ["text", "at", "power", "digits", "behind"] ["text", "at"] (defScope (ts 43)) := ⟨rfl, rfl, rfl, by decide +kernel, rfl, by decide +kernel, by decide +kernel⟩
  refine mk_ok B 24 43 rfl rfl S (fun _ _ _ _ _ _ us hl => match us, hl with | [_, _], _ => rfl) (fun vs H Q E h => ?_) (fun f0 cdv A outer s H vs Q E hr h => ?_)
  · obtain ⟨L, A, R, Z, a, b, e, rfl, hL, ha, hd, hs, hne, hA, hAl, hRl, hR, hz, q⟩ := h; rfl
  · obtain ⟨L, A, R, Z, a, b, e, rfl, hL, ha, hd, hs, hne, hA, hAl, hRl, hR, hz, q⟩ := h
    have scn := S.nd
    refine ⟨_, (pss_cons (ps_asg (pe_callD G_scan_digits (hr.mono (by decide)) (by rfl) (pa_cons (pv 0) (pa_cons (pv 1) (pa_cons (pe_gstr [48, 49, 50, 51, 52, 53, 54, 55, 56, 57] (by rfl) (B.kstr 61) (by decide +kernel)) (pa_cons (pe_gint (by rfl) (B.kint 63)) pa_nil))))) (pg_tup rfl (pgs_cons (pg_name (i := 3) scn rfl (.inl rfl)) (pgs_cons (pg_name (i := 4) scn rfl (.inl rfl)) (pgs_cons (pg_name (i := 1) scn rfl (.inl rfl)) pgs_nil)))))
      (pss_cons (ps_set (i := 2) scn rfl (.inl rfl) pe_int)
      (pss_cons (ps_if (pt_cmpR op_lt (pv 1) (pe_callB call_lenL (by rfl) (B.fre 54) PySem.boot_len (pa_cons (pv 0) pa_nil)) (nomark _))
        (pss_cons (ps_if (pt_cmpR op_ne (pe_ix ix_S (pv 0) (pv 1) (fun _ _ => rfl)) (pe_strS [101] (by decide +kernel)) (nomark _))
            (pss_one ps_never)
            pss_nil)
          (pss_one (ps_set (i := 2) scn rfl (.inl rfl) (pe_callD G_scan_power (hr.mono (by decide)) (by rfl) (pa_cons (pv 0) (pa_cons (pe_op op_add (pv 1) pe_int) (pa_cons (pe_gint (by rfl) (B.kint 65)) pa_nil)))))))
        pss_nil)
      (pss_one (ps_ret (pe_tup (pa_cons pe_int (pa_cons (pe_callTy (call_intD B.nd) (by rfl) (B.fre 52) (by decide +kernel) (pa_cons (pv 3) pa_nil)) (pa_cons (pe_op op_sub (pv 2) (pv 4)) pa_nil))))))))), ?_⟩
    have hlen : a + Z.length = L.length := by
      have := congrArg List.length hd
      rw [List.length_drop] at this
      omega
    have hdR : L.drop (L.length - R.length) = R := by
      refine Eq.trans ?_ hR
      rw [← hd, List.drop_drop]
      congr 1
      rw [List.length_drop]
      omega
    refine ⟨_, rfl, _, rfl, L, [48, 49, 50, 51, 52, 53, 54, 55, 56, 57], a, 1300, rfl, hL, ha, by rw [hd, hs]; exact hne, fun p1 H1 s1 hp1 => ?_⟩
    rw [hd, hs] at hp1
    refine ⟨p1, _, rfl, .inl (.inl hp1), rfl, _, _, rfl, _, _, rfl, _, _, rfl, rfl, ?_⟩
    refine ⟨_, rfl, _, rfl, L, rfl, by omega, _, _, rfl, rfl, _, rfl, ifD (fun h => ?_) (fun h => ?_)⟩
    · have hR0 : R ≠ [] := fun z => by
        rw [z] at h
        simp at h
      rcases hz with ⟨z, _⟩ | ⟨hz, he⟩
      · exact absurd z hR0
      have hd2 := hdR
      rw [hz] at hd2
      obtain ⟨h1, h2, _⟩ := drop_at hd2
      rw [← hz] at h1 h2
      refine ⟨_, rfl, _, rfl, L, L.length - R.length, 101, rfl, rfl, by omega, h1, rfl, _, rfl, ifN (fun z => absurd rfl z) (fun _ => ?_)⟩
      refine ⟨_, rfl, _, rfl, _, _, rfl, rfl, L, L.length - R.length + 1, 1200, e, rfl, hL, h2, he, by decide, fun H2 s2 => ?_⟩
      refine ⟨_, rfl, A, rfl, hne, hA, by omega, _, rfl, _, rfl, _, _, rfl, rfl, l3, fun p hp => q p _ ((s1.trans s2).trans (same_new hp)) (tup3_ rfl rfl rfl)⟩
    · have hR0 : R = [] := by
        cases hc : R with
        | nil => rfl
        | cons c r =>
          rw [hc, List.length_cons] at h
          rw [hc, List.length_cons] at hRl
          omega
      rcases hz with ⟨_, z⟩ | ⟨z, _⟩
      · subst z
        refine ⟨_, rfl, A, rfl, hne, hA, by omega, _, rfl, _, rfl, _, _, rfl, rfl, l3, fun p hp => q p _ (s1.trans (same_new hp)) (tup3_ rfl rfl rfl)⟩
      · rw [hR0] at z
        cases z

def sp_scan_hex (K : PySem.W.Frag) : Sp := fun vs H Q _ => ∃ (L A Z : List Nat) (a : Nat) (b : Option Nat) (e : Int), vs = [.str (SX.S L), .int (a : Int)] ∧ L.length ≤ 100000 ∧ a ≤ L.length ∧ L.drop a = Z ∧ dgs [48, 49, 50, 51, 52, 53, 54, 55, 56, 57, 97, 98, 99, 100, 101, 102] 300 Z [] none = (A, b, 112 :: sd e) ∧ A ≠ [] ∧ (∀ c ∈ A, Hx.IsHex c) ∧ A.length ≤ 300 ∧ Z.drop (Z.length - (112 :: sd e).length) = 112 :: sd e ∧ e.natAbs ≤ 1400 ∧ (behind A b).natAbs ≤ 1000 ∧ ∀ p H', Same H H' → H' p = some (.tup [.int 2, .int (Hx.hexNum A : Nat), .int (e - 4 * behind A b)]) → Q (.ref p) H'
theorem ok_scan_hex (B : Bs K mg base) : OkD P w K mg base "scan_hex" 2 ["text", "at"] (sp_scan_hex K) := by
  have G_scan_digits := ok_scan_digits (P := P) (w := w) B
  have G_scan_power := ok_scan_power (P := P) (w := w) B
  have S : FnScope ["text", "at", "digits", "behind"] ["text", "at"] (defScope (ts 44)) := ⟨rfl, rfl, rfl, by decide +kernel, rfl, by decide +kernel, by decide +kernel⟩
  refine mk_ok B 25 44 rfl rfl S (fun _ _ _ _ _ _ us hl => match us, hl with | [_, _], _ => rfl) (fun vs H Q E h => ?_) (fun f0 cdv A outer s H vs Q E hr h => ?_)
  · obtain ⟨L, A, Z, a, b, e, rfl, hL, ha, hd, hs, hne, hA, hAl, hR, he, hbb, q⟩ := h; rfl
  · obtain ⟨L, A, Z, a, b, e, rfl, hL, ha, hd, hs, hne, hA, hAl, hR, he, hbb, q⟩ := h
    have scn := S.nd
    refine ⟨_, (pss_cons (ps_asg (pe_callD G_scan_digits (hr.mono (by decide)) (by rfl) (pa_cons (pv 0) (pa_cons (pv 1) (pa_cons (pe_gstr [48, 49, 50, 51, 52, 53, 54, 55, 56, 57, 97, 98, 99, 100, 101, 102] (by rfl) (B.kstr 62) (by decide +kernel)) (pa_cons (pe_gint (by rfl) (B.kint 64)) pa_nil))))) (pg_tup rfl (pgs_cons (pg_name (i := 2) scn rfl (.inl rfl)) (pgs_cons (pg_name (i := 3) scn rfl (.inl rfl)) (pgs_cons (pg_name (i := 1) scn rfl (.inl rfl)) pgs_nil)))))
      (pss_cons (ps_if (pt_cmpR op_ne (pe_slice sl_S (pv 0) (po_some (pv 1)) (po_some (pe_op op_add (pv 1) pe_int))) (pe_strS [112] (by decide +kernel)) (nomark _))
        (pss_one ps_never)
        pss_nil)
      (pss_one (ps_ret (pe_tup (pa_cons pe_int (pa_cons (pe_callTy call_int_hex (by rfl) (B.fre 52) (by decide +kernel) (pa_cons (pv 2) (pa_cons pe_int pa_nil))) (pa_cons (pe_op op_sub (pe_callD G_scan_power (hr.mono (by decide)) (by rfl) (pa_cons (pv 0) (pa_cons (pe_op op_add (pv 1) pe_int) (pa_cons (pe_gint (by rfl) (B.kint 66)) pa_nil)))) (pe_op op_mulX pe_int (pv 3))) pa_nil)))))))), ?_⟩
    have hlen : a + Z.length = L.length := by
      have := congrArg List.length hd
      rw [List.length_drop] at this
      omega
    have hRl : (112 :: sd e).length ≤ Z.length := by
      by_cases z : (112 :: sd e).length ≤ Z.length
      · exact z
      · have h2 := congrArg List.length hR
        rw [List.length_drop] at h2
        rw [List.length_cons] at h2 z
        omega
    have hdR : L.drop (L.length - (112 :: sd e).length) = 112 :: sd e := by
      refine Eq.trans ?_ hR
      rw [← hd, List.drop_drop]
      congr 1
      rw [List.length_drop]
      omega
    refine ⟨_, rfl, _, rfl, L, [48, 49, 50, 51, 52, 53, 54, 55, 56, 57, 97, 98, 99, 100, 101, 102], a, 300, rfl, hL, ha, by rw [hd, hs]; exact hne, fun p1 H1 s1 hp1 => ?_⟩
    rw [hd, hs] at hp1
    refine ⟨p1, _, rfl, .inl (.inl hp1), rfl, _, _, rfl, _, _, rfl, _, _, rfl, rfl, ?_⟩
    obtain ⟨h1, h2, h3⟩ := drop_at hdR
    generalize L.length - (112 :: sd e).length = k at h1 h2 h3 hdR ⊢
    have hb : CMulX 4 (behind A b) := cmul_of (a := 3) (b := 12) (by decide) (by omega) (by decide)
    refine ⟨_, rfl, _, rfl, _, rfl, _, rfl, _, _, rfl, rfl, _, rfl, L, rfl, by omega, rfl, _, rfl, ifN (fun z => absurd (congrArg V.str (congrArg SX.S ?_)) z) (fun _ => ?_)⟩
    · rw [show (k : Int) + 1 = ((k + 1 : Nat) : Int) by omega, cut_mid, hdR, show k + 1 - k = 1 by omega]
      rfl
    refine ⟨_, rfl, A, rfl, hne, by omega, hA, ?_⟩
    refine ⟨_, rfl, _, rfl, _, _, rfl, rfl, L, k + 1, 1400, e, rfl, hL, h2, he, by decide, fun H2 s2 => ?_⟩
    exact ⟨_, rfl, _, _, rfl, rfl, hb, _, _, rfl, rfl, l3, fun p hp => q p _ ((s1.trans s2).trans (same_new hp)) (tup3_ rfl rfl rfl)⟩

end
end NT
/-! text W6 -/
set_option Elab.async false
set_option linter.all false
set_option maxRecDepth 100000
set_option maxHeartbeats 2000000
namespace NT
open PySem PySem.Spec PyProof.Rows L2 PySem.NumText
/-! ### what a text says -/
def fr (sg : Bool) : List Nat := if sg = true then [45] else []
def sgi (sg : Bool) : Int := if sg = true then 1 else 0
structure IsDec (Z : List Nat) (n : Nat) (k : Int) : Prop where
  ex : ∃ (A R : List Nat) (b : Option Nat) (e : Int), dgs [48, 49, 50, 51, 52, 53, 54, 55, 56, 57] 1300 Z [] none = (A, b, R) ∧ A ≠ [] ∧ AllDigits A ∧ A.length ≤ 1300 ∧ R.length ≤ Z.length ∧ Z.drop (Z.length - R.length) = R ∧ ((R = [] ∧ e = 0) ∨ (R = 101 :: sd e ∧ e.natAbs ≤ 1200)) ∧ n = digitsVal A ∧ k = e - behind A b
  one : ∃ c r, Z = c :: r ∧ 48 ≤ c ∧ c ≤ 57
  two : Z.take 2 ≠ [48, 120]
structure IsHexT (Z : List Nat) (n : Nat) (k : Int) : Prop where
  ex : ∃ (A Y : List Nat) (b : Option Nat) (e : Int), Z = 48 :: 120 :: Y ∧ dgs [48, 49, 50, 51, 52, 53, 54, 55, 56, 57, 97, 98, 99, 100, 101, 102] 300 Y [] none = (A, b, 112 :: sd e) ∧ A ≠ [] ∧ (∀ c ∈ A, Hx.IsHex c) ∧ A.length ≤ 300 ∧ Y.drop (Y.length - (112 :: sd e).length) = 112 :: sd e ∧ e.natAbs ≤ 1400 ∧ (behind A b).natAbs ≤ 1000 ∧ n = Hx.hexNum A ∧ k = e - 4 * behind A b
def inf : List Nat := [105, 110, 102]
inductive Parsed (Z : List Nat) : List V → Prop where
  | inf (h : Z = inf) : Parsed Z [.str (SX.S inf)]
  | hex {n : Nat} {k : Int} (h : IsHexT Z n k) : Parsed Z [.int 2, .int (n : Int), .int k]
  | dec {n : Nat} {k : Int} (h : IsDec Z n k) : Parsed Z [.int 10, .int (n : Int), .int k]
inductive Reads (f : Fm) (W : Way) : List V → Nat → Prop where
  | inf : Reads f W [.str (SX.S inf)] f.N
  | hex {n : Nat} {k : Int} (h1 : n < 2 ^ 2000) (h2 : -3000 ≤ k) (h3 : k ≤ 1900) : Reads f W [.int 2, .int (n : Int), .int k] (f.read W (n * p2 k) (p2 (-k)))
  | dec {n : Nat} {k : Int} (h1 : n * 10 ^ k.toNat < 2 ^ 4000) (h2 : 10 ^ (-k).toNat < 2 ^ 4000) (h3 : -5000 ≤ k) (h4 : k ≤ 5000) : Reads f W [.int 10, .int (n : Int), .int k] (f.readD W n k)
theorem Parsed.head {Z : List Nat} {r : List V} (h : Parsed Z r) : ∃ c y, Z = c :: y ∧ c ≠ 45 ∧ c ≠ 43 := by
  cases h with
  | inf h => exact ⟨105, [110, 102], h, by decide, by decide⟩
  | hex h =>
    obtain ⟨A, Y, b, e, h1, _⟩ := h.ex
    exact ⟨48, _, h1, by decide, by decide⟩
  | dec h =>
    obtain ⟨c, y, h1, h2, h3⟩ := h.one
    exact ⟨c, y, h1, by omega, by omega⟩
section
variable {P : Program} {w : World} {K : PySem.W.Frag} {mg : Str → Option Value} {base : Heap}

def sp_parse_text (K : PySem.W.Frag) : Sp := fun vs H Q _ => ∃ (sg : Bool) (Z : List Nat) (r : List V), vs = [.str (SX.S (fr sg ++ Z))] ∧ (fr sg ++ Z).length ≤ 90000 ∧ Parsed Z r ∧ ∀ p H', Same H H' → H' p = some (.tup (.int (sgi sg) :: r)) → Q (.ref p) H'
theorem ok_parse_text (B : Bs K mg base) : OkD P w K mg base "parse_text" 3 ["value"] (sp_parse_text K) := by
  have G_scan_word := ok_scan_word (P := P) (w := w) B
  have G_scan_decimal := ok_scan_decimal (P := P) (w := w) B
  have G_scan_hex := ok_scan_hex (P := P) (w := w) B
  have S : FnScope ["value", "sign", "at"] ["value"] (defScope (ts 45)) := ⟨rfl, rfl, rfl, by decide +kernel, rfl, by decide +kernel, by decide +kernel⟩
  refine mk_ok B 26 45 rfl rfl S (fun _ _ _ _ _ _ us hl => match us, hl with | [_], _ => rfl) (fun vs H Q E h => ?_) (fun f0 cdv A outer s H vs Q E hr h => ?_)
  · obtain ⟨sg, Z, r, rfl, hL, hp, q⟩ := h; rfl
  · obtain ⟨sg, Z, r, rfl, hL, hp, q⟩ := h
    have scn := S.nd
    refine ⟨_, (pss_cons (ps_if (pt_not (pt_val (pe_callB call_isi (by rfl) (B.fre 53) (by decide +kernel) (pa_cons (pv 0) (pa_cons (pe_bltn (v := .ty "str") (by rfl) (B.fre 58) (by decide +kernel) rfl) pa_nil)))))
        (pss_one ps_never)
        pss_nil)
      (pss_cons (ps_set (i := 1) scn rfl (.inl rfl) (pe_callTy call_int1 (by rfl) (B.fre 52) (by decide +kernel) (pa_cons (pe_cmpR op_eq (pe_slice sl_S (pv 0) po_none (po_some pe_int)) (pe_strS [45] (by decide +kernel)) (nomark _)) pa_nil)))
      (pss_cons (ps_set (i := 2) scn rfl (.inl rfl) (pe_callTy call_int1 (by rfl) (B.fre 52) (by decide +kernel) (pa_cons (pe_cmpR op_in_seq (pe_slice sl_S (pv 0) po_none (po_some pe_int)) (pe_tup (pa_cons (pe_strS [45] (by decide +kernel)) (pa_cons (pe_strS [43] (by decide +kernel)) pa_nil))) (by rfl)) pa_nil)))
      (pss_cons (ps_if (pt_cmpR op_eq (pe_slice sl_S (pv 0) (po_some (pv 2)) (po_some (pe_op op_add (pv 2) pe_int))) (pe_strS [105] (by decide +kernel)) (nomark _))
        (pss_cons (ps_expr (pe_callD G_scan_word (hr.mono (by decide)) (by rfl) (pa_cons (pv 0) (pa_cons (pv 2) (pa_cons (pe_strS [105, 110, 102] (by decide +kernel)) pa_nil)))))
          (pss_one (ps_ret (pe_tup (pa_cons (pv 1) (pa_cons (pe_strS [105, 110, 102] (by decide +kernel)) pa_nil))))))
        pss_nil)
      (pss_cons (ps_if (pt_cmpR op_eq (pe_slice sl_S (pv 0) (po_some (pv 2)) (po_some (pe_op op_add (pv 2) pe_int))) (pe_strS [48, 120] (by decide +kernel)) (nomark _))
        (pss_one (ps_ret (pe_tup (pa_cons (pv 1) (StX.pa_star (pe_callD G_scan_hex (hr.mono (by decide)) (by rfl) (pa_cons (pv 0) (pa_cons (pe_op op_add (pv 2) pe_int) pa_nil))) pa_nil)))))
        pss_nil)
      (pss_one (ps_ret (pe_tup (pa_cons (pv 1) (StX.pa_star (pe_callD G_scan_decimal (hr.mono (by decide)) (by rfl) (pa_cons (pv 0) (pa_cons (pv 2) pa_nil))) pa_nil)))))))))), ?_⟩
    obtain ⟨c, y, hc, hc1, hc2⟩ := hp.head
    generalize hLd : fr sg ++ Z = L at hL
    have hz : (fr sg).length ≤ 1 := by cases sg <;> decide
    have hLd2 : L.drop (fr sg).length = Z := by rw [← hLd]; simp
    have hLl : (fr sg).length + Z.length = L.length := by rw [← hLd]; simp
    have hone : cutL L none (some 1) = [if sg = true then 45 else c] := by
      rw [show (1 : Int) = ((1 : Nat) : Int) by rfl, cut_to, ← hLd, hc]
      cases sg <;> rfl
    have hd45 : decide (V.str (SX.S [if sg = true then 45 else c]) = V.str (SX.S [45])) = sg := by
      rw [dec_S]
      cases sg with
      | true => rfl
      | false => exact decide_eq_false fun z => hc1 (by simpa using z)
    have hin : inV (V.str (SX.S [if sg = true then 45 else c])) [.str (SX.S [45]), .str (SX.S [43])] = sg := by
      rw [in_signs]
      cases sg with
      | true => rfl
      | false =>
        rw [decide_eq_false fun z => hc1 (by simpa using z), decide_eq_false fun z => hc2 (by simpa using z)]
        rfl
    have hcut : ∀ (j k : Nat), k = (fr sg).length + j → cutL L (some ((fr sg).length : Int)) (some (k : Int)) = Z.take j := by
      intro j k e
      rw [cut_mid, hLd2, e, Nat.add_sub_cancel_left]
    have hcut1 : cutL L (some ((fr sg).length : Int)) (some (((fr sg).length : Int) + 1)) = Z.take 1 := by
      rw [show ((fr sg).length : Int) + 1 = (((fr sg).length + 1 : Nat) : Int) by omega, hcut 1 _ rfl]
    have hcut2 : cutL L (some ((fr sg).length : Int)) (some (((fr sg).length : Int) + 2)) = Z.take 2 := by
      rw [show ((fr sg).length : Int) + 2 = (((fr sg).length + 2 : Nat) : Int) by omega, hcut 2 _ rfl]
    have hfl : ((fr sg).length : Int) = sgi sg := by cases sg <;> rfl
    refine ⟨_, rfl, _, _, _, _, true, rfl, .ty "str", .base (.str _), kit_ty (by decide +kernel), true, rfl, iteF ?_⟩
    have e : (if sg = true then (1 : Int) else 0) = ((fr sg).length : Int) := by cases sg <;> rfl
    have cal : ∀ (j : Nat), ((fr sg).length : Int) + (j : Int) = (((fr sg).length + j : Nat) : Int) := fun j => by omega
    refine ⟨_, rfl, _, rfl, L, rfl, by omega, ?_⟩
    rw [hone]
    refine ⟨rfl, ?_⟩
    rw [hd45]
    refine .inr ⟨sg, rfl, ?_⟩
    refine ⟨_, rfl, _, rfl, L, rfl, by omega, ?_⟩
    rw [hone]
    refine ⟨l2, fun p0 hp0 => ⟨p0, _, rfl, .inr sq_t, rfl, rfl, ?_⟩⟩
    rw [if_neg Bool.false_ne_true, hin]
    have s0 := same_new (o := .tup [.str (SX.S [45]), .str (SX.S [43])]) hp0
    generalize upd H p0 (.tup [.str (SX.S [45]), .str (SX.S [43])]) = H0 at s0 ⊢
    refine .inr ⟨sg, rfl, ?_⟩
    show gName 2 (V.int (if sg = true then 1 else 0)) _ _ _
    rw [e]
    refine ⟨_, rfl, _, rfl, _, rfl, _, rfl, _, _, rfl, rfl, _, rfl, L, rfl, by omega, ?_⟩
    rw [hcut1]
    refine ⟨rfl, _, rfl, ifD (fun h => ?_) (fun h => ?_)⟩
    · have h1 := S_inj h
      rw [hc] at h1
      have h2 : c = 105 := by simpa using h1
      cases hp with
      | inf hz2 =>
        refine ⟨_, rfl, _, rfl, L, Z, (fr sg).length, ?_, by omega, by omega, hLd2, fun H1 s1 => ?_⟩
        · rw [hz2]
          rfl
        · exact ⟨_, rfl, l2, fun p hp => q p _ ((s0.trans s1).trans (same_new hp)) (tup2_ (congrArg V.int hfl) rfl)⟩
      | hex hh =>
        obtain ⟨A, Y, b, e, g1, _⟩ := hh.ex
        rw [g1] at hc
        cases hc
        exact absurd h2 (by decide)
      | dec hh =>
        obtain ⟨c', y', g1, g2, g3⟩ := hh.one
        rw [g1] at hc
        cases hc
        omega
    refine ⟨_, rfl, _, rfl, _, rfl, _, rfl, _, _, rfl, rfl, _, rfl, L, rfl, by omega, ?_⟩
    rw [hcut2]
    refine ⟨rfl, _, rfl, ifD (fun h4 => ?_) (fun h4 => ?_)⟩
    · have h5 := S_inj h4
      cases hp with
      | inf hz2 =>
        rw [hz2] at h5
        exact absurd h5 (by decide)
      | hex hh =>
        obtain ⟨A, Y, b, e, g1, g2, g3, g4, g5, g6, g7, g8, g9, g10⟩ := hh.ex
        refine ⟨_, rfl, _, rfl, _, rfl, _, _, rfl, rfl, L, A, Y, (fr sg).length + 2, b, e, rfl, by omega, ?_, ?_, g2, g3, g4, g5, g6, g7, g8, fun p1 H1 s1 hp1 => ?_⟩
        · rw [← hLl, g1, List.length_cons, List.length_cons]
          omega
        · rw [← List.drop_drop, hLd2, g1]
          rfl
        · refine ⟨p1, _, rfl, .inl (.inl (.inl hp1)), ?_⟩
          refine ⟨by show (4 : Nat) ≤ sizeLine; decide, fun p hp => q p _ ((s0.trans s1).trans (same_new hp)) ?_⟩
          rw [← hfl, g9, g10, upd_same]
          rfl
      | dec hh => exact absurd h5 hh.two
    · cases hp with
      | inf hz2 => exact absurd (by rw [hz2]; rfl) h
      | hex hh =>
        obtain ⟨A, Y, b, e, g1, _⟩ := hh.ex
        exact absurd (by rw [g1]; rfl) h4
      | dec hh =>
        obtain ⟨A, R, b, e, g2, g3, g4, g5, g6, g7, g8, g9, g10⟩ := hh.ex
        refine ⟨_, rfl, _, rfl, _, rfl, L, A, R, Z, (fr sg).length, b, e, rfl, by omega, by omega, hLd2, g2, g3, g4, g5, g6, g7, g8, fun p1 H1 s1 hp1 => ?_⟩
        refine ⟨p1, _, rfl, .inl (.inl (.inl hp1)), ?_⟩
        refine ⟨by show (4 : Nat) ≤ sizeLine; decide, fun p hp => q p _ ((s0.trans s1).trans (same_new hp)) ?_⟩
        rw [← hfl, g9, g10, upd_same]
        rfl

def sp_read_text (K : PySem.W.Frag) : Sp := fun vs H Q _ => ∃ (a : Addr) (f : Fm) (W : Way) (sg : Bool) (Z : List Nat) (r : List V) (out : Nat), vs = [.ref a, .str W.nm, .str (SX.S (fr sg ++ Z))] ∧ Frm K H a f ∧ FB f ∧ (fr sg ++ Z).length ≤ 90000 ∧ Parsed Z r ∧ Reads f W r out ∧ ∀ p H', Same H H' → H' p = some (.tup [.int (sgi sg), .int (out : Nat)]) → Q (.ref p) H'
theorem ok_read_text (B : Bs K mg base) : OkD P w K mg base "read_text" 6 ["form", "way", "value"] (sp_read_text K) := by
  have G_parse_text := ok_parse_text (P := P) (w := w) B
  have G_read_fraction := ok_read_fraction (P := P) (w := w) B
  have G_count_of := ok_count_of (P := P) (w := w) B
  have G_read := ok_read (P := P) (w := w) B
  have S : FnScope ["form", "way", "value", "parsed", "sign", "base", "number", "power"] ["form", "way", "value"] (defScope (ts 46)) := ⟨rfl, rfl, rfl, by decide +kernel, rfl, by decide +kernel, by decide +kernel⟩
  refine mk_ok B 27 46 rfl rfl S (fun _ _ _ _ _ _ us hl => match us, hl with | [_, _, _], _ => rfl) (fun vs H Q E h => ?_) (fun f0 cdv A outer s H vs Q E hr h => ?_)
  · obtain ⟨a, f, W, sg, Z, r, out, rfl, hF, fb, hL, hp, hrd, q⟩ := h; rfl
  · obtain ⟨a, f, W, sg, Z, r, out, rfl, hF, fb, hL, hp, hrd, q⟩ := h
    have scn := S.nd
    refine ⟨_, (pss_cons (ps_set (i := 3) scn rfl (.inl rfl) (pe_callD G_parse_text (hr.mono (by decide)) (by rfl) (pa_cons (pv 2) pa_nil)))
      (pss_cons (ps_if (pt_cmpR op_eq (pe_ix ix_tup (pv 3) pe_int (fun _ _ => rfl)) (pe_strS [105, 110, 102] (by decide +kernel)) (nomark _))
        (pss_one (ps_ret (pe_tup (pa_cons (pe_ix ix_tup (pv 3) pe_int (fun _ _ => rfl)) (pa_cons (pe_callD G_count_of (hr.mono (by decide)) (by rfl) (pa_cons (pv 0) pa_nil)) pa_nil)))))
        pss_nil)
      (pss_cons (ps_asg (pv 3) (pg_tup rfl (pgs_cons (pg_name (i := 4) scn rfl (.inl rfl)) (pgs_cons (pg_name (i := 5) scn rfl (.inl rfl)) (pgs_cons (pg_name (i := 6) scn rfl (.inl rfl)) (pgs_cons (pg_name (i := 7) scn rfl (.inl rfl)) pgs_nil))))))
      (pss_cons (ps_if (pt_cmpR op_eq (pv 5) pe_int (nomark _))
        (pss_one (ps_ret (pe_tup (pa_cons (pv 4) (pa_cons (pe_callD G_read (hr.mono (by decide)) (by rfl) (pa_cons (pv 0) (pa_cons (pv 1) (pa_cons (pe_tup (pa_cons (pv 6) (pa_cons (pv 7) pa_nil))) pa_nil)))) pa_nil)))))
        pss_nil)
      (pss_one (ps_ret (pe_tup (pa_cons (pv 4) (pa_cons (pe_callD G_read_fraction (hr.mono (by decide)) (by rfl) (pa_cons (pv 0) (pa_cons (pv 1) (pa_cons (pe_op op_shlW (pv 6) (pe_callB (call_max2 rfl) (by rfl) (B.fre 55) (by decide +kernel) (pa_cons pe_int (pa_cons (pv 7) pa_nil)))) (pa_cons (pe_op op_shlW pe_int (pe_callB (call_max2 rfl) (by rfl) (B.fre 55) (by decide +kernel) (pa_cons pe_int (pa_cons (pe_op op_sub pe_int (pv 7)) pa_nil)))) pa_nil))))) pa_nil))))))))), ?_⟩
    have b1 := fb.p
    have b2 := fb.l
    have b3 := fb.h
    refine ⟨_, rfl, sg, Z, r, rfl, hL, hp, fun p1 H1 s1 hp1 => ?_⟩
    have hT : SqT K H1 p1 (.int (sgi sg) :: r) := .inl (.inl hp1)
    cases hrd with
    | inf =>
      refine ⟨_, rfl, p1, _, 1, _, rfl, rfl, hT, rfl, rfl, _, rfl, ifD (fun _ => ?_) (fun h => absurd rfl h)⟩
      refine ⟨_, rfl, p1, _, 0, _, rfl, rfl, hT, rfl, ?_⟩
      refine ⟨_, rfl, a, f, rfl, hF.up s1, fb.ok, by omega, by omega, l2, fun p hp2 => q p _ (s1.trans (same_new hp2)) (tup2_ rfl rfl)⟩
    | hex h1 h2 h3 =>
      rename_i n k
      refine ⟨_, rfl, p1, _, 1, _, rfl, rfl, hT, rfl, rfl, _, rfl, ifD (fun h => nomatch h) (fun _ => ?_)⟩
      refine ⟨_, rfl, p1, _, rfl, hT, rfl, _, _, rfl, _, _, rfl, _, _, rfl, _, _, rfl, rfl, ?_⟩
      refine ⟨_, rfl, rfl, _, rfl, ifD (fun h => absurd (V.int.inj h) (by decide)) (fun _ => ?_)⟩
      have e1 : (if k > 0 then k else 0) = ((k.toNat : Nat) : Int) := by split <;> omega
      have e2 : (if 0 - k > 0 then 0 - k else 0) = (((-k).toNat : Nat) : Int) := by split <;> omega
      have hp : p2 k < 2 ^ 1901 := p2_lt (by omega) (by decide)
      have hp2 : p2 (-k) < 2 ^ 3001 := p2_lt (by omega) (by decide)
      have hn : n * p2 k < 2 ^ 4000 := lt_more (mul_lt2 (a := 2000) (b := 1901) h1 hp)
      refine ⟨_, rfl, _, rfl, _, rfl, _, rfl, _, rfl, _, _, rfl, _, _, rfl, rfl, ?_⟩
      rw [e1]
      refine ⟨cshl (n := 2000) (by rw [nab]; exact h1) (by omega) (by omega), ?_⟩
      refine ⟨_, rfl, _, _, rfl, rfl, _, _, rfl, _, _, rfl, rfl, ?_⟩
      rw [e2]
      refine ⟨cshl (n := 2000) (by decide) (by omega) (by omega), ?_⟩
      refine ⟨a, f, W, n * p2 k, p2 (-k), ?_, hF.up s1, fb, hn, p2_pos _, lt_more hp2, fun H3 s3 => ?_⟩
      · have g1 : (n : Int) * 2 ^ ((k.toNat : Nat) : Int).toNat = ((n * p2 k : Nat) : Int) := shl_nat n
        have g2 : (1 : Int) * 2 ^ (((-k).toNat : Nat) : Int).toNat = ((p2 (-k) : Nat) : Int) := by
          have := shl_nat 1 (k := -k)
          rw [Nat.one_mul] at this
          exact this
        rw [← g1, ← g2]
        rfl
      · exact ⟨l2, fun p hp => q p _ (s1.trans (s3.trans (same_new hp))) (tup2_ rfl rfl)⟩
    | dec h1 h2 h3 h4 =>
      rename_i n k
      refine ⟨_, rfl, p1, _, 1, _, rfl, rfl, hT, rfl, rfl, _, rfl, ifD (fun h => nomatch h) (fun _ => ?_)⟩
      refine ⟨_, rfl, p1, _, rfl, hT, rfl, _, _, rfl, _, _, rfl, _, _, rfl, _, _, rfl, rfl, ?_⟩
      refine ⟨_, rfl, rfl, _, rfl, ifD (fun _ => ?_) (fun h => absurd rfl h)⟩
      have hn : n < 2 ^ 4000 := Nat.lt_of_le_of_lt (Nat.le_mul_of_pos_right _ (ten_pos _)) h1
      refine ⟨_, rfl, _, rfl, _, rfl, _, rfl, _, rfl, l2, fun p2 hp2 => ?_⟩
      have s2 := same_new (o := .tup [.int (n : Int), .int k]) hp2
      refine ⟨a, f, W, p2, n, k, rfl, hF.up (s1.trans s2), fb, sq_t, h1, h2, hn, h3, h4, fun H3 s3 => ?_⟩
      exact ⟨l2, fun p hp => q p _ ((s1.trans s2).trans (s3.trans (same_new hp))) (tup2_ rfl rfl)⟩

end
end NT
/-! text M4 -/
set_option Elab.async false
set_option linter.all false
set_option maxHeartbeats 1000000
namespace NT
open PySem PySem.NumText L2
/-! ### hexadecimal digits -/
def hdg (n : Nat) : Nat := if n < 10 then 48 + n else 87 + n
theorem hx_small {n : Nat} (h : n < 16) : hx n = [hdg n] := by
  unfold hx
  rw [Nat.toDigits_of_lt_base h]
  have : ∀ m : Nat, m < 16 → [Nat.digitChar m].map Char.toNat = [hdg m] := by decide
  exact this n h
theorem hx_step {n : Nat} (h : 16 ≤ n) : hx n = hx (n / 16) ++ [hdg (n % 16)] := by
  have e := Nat.toDigits_append_toDigits (b := 16) (n := n / 16) (d := n % 16) (by decide) (by omega) (Nat.mod_lt _ (by decide))
  rw [Nat.div_add_mod] at e
  unfold hx
  rw [← e, List.map_append]
  have := hx_small (n := n % 16) (Nat.mod_lt _ (by decide))
  unfold hx at this
  rw [this]
abbrev HD : List Nat := [48, 49, 50, 51, 52, 53, 54, 55, 56, 57, 97, 98, 99, 100, 101, 102]
theorem hdg_in {n : Nat} (h : n < 16) : hdg n ∈ HD := by
  have : ∀ m : Nat, m < 16 → hdg m ∈ HD := by decide
  exact this n h
theorem hdg_at {n : Nat} (h : n < 16) : HD[n]? = some (hdg n) := by
  have : ∀ m : Nat, m < 16 → HD[m]? = some (hdg m) := by decide
  exact this n h
theorem hdg_hv {n : Nat} (h : n < 16) : Hx.hv (hdg n) = n := by
  have : ∀ m : Nat, m < 16 → Hx.hv (hdg m) = m := by decide
  exact this n h
theorem hd_hex {c : Nat} (h : c ∈ HD) : Hx.IsHex c := by
  unfold Hx.IsHex
  simp only [HD, List.mem_cons, List.mem_nil_iff, or_false] at h
  omega
theorem hx_in : ∀ n : Nat, ∀ c ∈ hx n, c ∈ HD := by
  intro n
  induction n using Nat.strongRecOn with
  | ind n ih =>
    intro c hc
    rcases Nat.lt_or_ge n 16 with h | h
    · rw [hx_small h, List.mem_singleton] at hc
      rw [hc]
      exact hdg_in h
    · rw [hx_step h] at hc
      rcases List.mem_append.mp hc with hc | hc
      · exact ih _ (by omega) c hc
      · rw [List.mem_singleton] at hc
        rw [hc]
        exact hdg_in (Nat.mod_lt _ (by decide))
theorem hx_ne (n : Nat) : hx n ≠ [] := by
  rcases Nat.lt_or_ge n 16 with h | h
  · rw [hx_small h]; simp
  · rw [hx_step h]; simp
theorem hx_pos (n : Nat) : 0 < (hx n).length := List.length_pos_iff.mpr (hx_ne n)
theorem hex_app (a b : List Nat) : Hx.hexNum (a ++ b) = Hx.hexNum a * 16 ^ b.length + Hx.hexNum b := by
  have key : ∀ (b : List Nat) (x : Nat), b.foldl (fun a c => a * 16 + Hx.hv c) x = x * 16 ^ b.length + b.foldl (fun a c => a * 16 + Hx.hv c) 0 := by
    intro b
    induction b with
    | nil => intro x; simp
    | cons c b ih =>
      intro x
      rw [List.foldl_cons, ih, List.foldl_cons, ih (0 * 16 + Hx.hv c), List.length_cons, Nat.pow_succ]
      grind
  unfold Hx.hexNum
  rw [List.foldl_append, key b]
theorem hx_val : ∀ n : Nat, Hx.hexNum (hx n) = n := by
  intro n
  induction n using Nat.strongRecOn with
  | ind n ih =>
    rcases Nat.lt_or_ge n 16 with h | h
    · rw [hx_small h]
      show 0 * 16 + Hx.hv (hdg n) = n
      rw [hdg_hv h]
      omega
    · rw [hx_step h, hex_app, ih _ (by omega)]
      show n / 16 * 16 ^ 1 + (0 * 16 + Hx.hv (hdg (n % 16))) = n
      rw [hdg_hv (Nat.mod_lt _ (by decide))]
      omega
theorem hx_le : ∀ {k n : Nat}, 1 ≤ k → n < 16 ^ k → (hx n).length ≤ k
  | 0, _, h, _ => by omega
  | k + 1, n, _, h => by
    rcases Nat.lt_or_ge n 16 with g | g
    · rw [hx_small g]
      simp
    · rw [hx_step g, List.length_append, List.length_singleton]
      have h1 : n / 16 < 16 ^ k := by
        rw [Nat.pow_succ] at h
        omega
      cases k with
      | zero => simp at h1; omega
      | succ k =>
        have := hx_le (k := k + 1) (n := n / 16) (by omega) h1
        omega
theorem hx_ge : ∀ {k n : Nat}, 16 ^ k ≤ n → k + 1 ≤ (hx n).length
  | 0, n, _ => hx_pos n
  | k + 1, n, h => by
    have g : 16 ≤ n := Nat.le_trans (by rw [Nat.pow_succ]; exact Nat.le_mul_of_pos_left _ (Nat.pow_pos (by decide))) h
    rw [hx_step g, List.length_append, List.length_singleton]
    have := hx_ge (k := k) (n := n / 16) (by rw [Nat.pow_succ] at h; omega)
    omega
theorem hx_short {n : Nat} (h : n < 2 ^ 400) : (hx n).length ≤ 101 :=
  hx_le (by decide) (Nat.lt_of_lt_of_le h (by decide +kernel))
theorem hex_zeros (k : Nat) (l : List Nat) : Hx.hexNum (List.replicate k 48 ++ l) = Hx.hexNum l := by
  induction k with
  | zero => rfl
  | succ k ih =>
    rw [List.replicate_succ, List.cons_append]
    have := hex_app [48] (List.replicate k 48 ++ l)
    rw [List.singleton_append] at this
    rw [this, ih]
    show (0 * 16 + 0) * _ + _ = _
    simp
end NT
/-! text W7 -/
set_option Elab.async false
set_option linter.all false
set_option maxRecDepth 100000
set_option maxHeartbeats 2000000
namespace NT
open PySem PySem.Spec PyProof.Rows L2 PySem.NumText
/-! ### texts of decimals -/
def plainT (D : List Nat) (q : Int) : List Nat :=
  if 0 ≤ q then D ++ List.replicate q.toNat 48
  else (padL D (1 - q).toNat 48).take ((padL D (1 - q).toNat 48).length - (-q).toNat) ++ 46 :: (padL D (1 - q).toNat 48).drop ((padL D (1 - q).toNat 48).length - (-q).toNat)
def powerT (D : List Nat) (p : Int) : List Nat := D.take 1 ++ (if 1 < D.length then 46 :: D.drop 1 else []) ++ 101 :: sd p
inductive Kd where
  | plain
  | power
  | auto
def Kd.nm : Kd → Str
  | .plain => "plain"
  | .power => "power"
  | .auto => "auto"
def Kd.far (k : Kd) (p : Int) : Prop := k = .power ∨ (k = .auto ∧ ¬ (-4 ≤ p ∧ p < 16))
instance (k : Kd) (p : Int) : Decidable (k.far p) := by
  unfold Kd.far
  cases k
  · exact .isFalse (fun h => h.elim nofun (fun z => nomatch z.1))
  · exact .isTrue (.inl rfl)
  · exact if h : ¬ (-4 ≤ p ∧ p < 16) then .isTrue (.inr ⟨rfl, h⟩) else .isFalse (fun z => z.elim nofun (fun y => h y.2))
def firstP (d : Nat) (q : Int) : Int := q + ((ds d).length : Int) - 1
def decT (k : Kd) (d : Nat) (q : Int) : List Nat := if k.far (firstP d q) then powerT (ds d) (firstP d q) else plainT (ds d) q
def dueT (f : Fm) (W : Way) (c : Nat) (k : Kd) : List Nat := if c = f.N then inf else decT k (f.short W c).1 (f.short W c).2
structure ShB (d : Nat) (q : Int) : Prop where
  dl : d < 10 ^ 1101
  lo : -1074 ≤ q
  hi : q ≤ 1101
  len : (ds d).length + q.toNat ≤ 1102
  num : d * 10 ^ q.toNat < 10 ^ 1101
theorem short_b {f : Fm} (g : GF f) (W : Way) {c : Nat} (hc : c < f.N) : ShB (f.short W c).1 (f.short W c).2 := by
  by_cases h0 : c = 0
  · unfold Fm.short
    rw [if_pos h0]
    exact ⟨Nat.pow_pos (by decide), by decide, by decide, by decide, by rw [Nat.zero_mul]; exact Nat.pow_pos (by decide)⟩
  have h := f.short_spec g.fb.ok W hc h0
  generalize f.short W c = r at h
  obtain ⟨d, q⟩ := r
  obtain ⟨h1, h2, h3, h4⟩ := h
  have hw := g.wd2 hc
  have hq := g.wq c
  have hq0 := f.wq_le c
  have k1 : 0 < d := h1
  have k2 : f.wq c ≤ q := h3
  have k3 : d * 10 ^ (q - f.wq c).toNat < 10 ^ 1101 := Nat.lt_of_le_of_lt h4 hw
  have k4 : 10 ^ (q - f.wq c).toNat < 10 ^ 1101 := Nat.lt_of_le_of_lt (Nat.le_mul_of_pos_left _ k1) k3
  have k5 := (Nat.pow_lt_pow_iff_right (by decide)).mp k4
  have k6 : d * 10 ^ q.toNat < 10 ^ 1101 := Nat.lt_of_le_of_lt (Nat.mul_le_mul_left _ (Nat.pow_le_pow_right (by decide) (by omega))) k3
  have k7 : 10 ^ ((ds d).length - 1 + q.toNat) < 10 ^ 1101 := by
    rw [Nat.pow_add]
    exact Nat.lt_of_le_of_lt (Nat.mul_le_mul_right _ (ds_low k1)) k6
  have k8 := (Nat.pow_lt_pow_iff_right (by decide)).mp k7
  exact ⟨Nat.lt_of_le_of_lt (Nat.le_mul_of_pos_right _ (Nat.pow_pos (by decide))) k3, by show -1074 ≤ q; omega, by show q ≤ 1101; omega, by show (ds d).length + q.toNat ≤ 1102; omega, k6⟩
theorem log2_small {n : Nat} (h : n < 2 ^ 64) : n.log2 < 1920 := by
  by_cases z : n = 0
  · subst z
    decide
  · have := (Nat.log2_lt z).mpr h
    omega
theorem jl {a b : List Nat} (h : a.length + b.length ≤ 16777216) : (SX.S a ++ SX.S b).length ≤ sizeLine := by
  rw [SX.S_cat, SX.S_len, sizeLine_eq, List.length_append]
  exact h
theorem sl_len {a : List Nat} (h : a.length ≤ 16777216) : (SX.S a).length ≤ sizeLine := by
  rw [SX.S_len, sizeLine_eq]
  exact h
theorem jx {x : Str} {a b : List Nat} (hx : x = SX.S a) (h : a.length + b.length ≤ 16777216) : (x ++ SX.S b).length ≤ sizeLine := by
  rw [hx]
  exact jl h
theorem cat3 (a b c : List Nat) : SX.S a ++ SX.S b ++ SX.S c = SX.S (a ++ b ++ c) := by rw [SX.S_cat a b, SX.S_cat (a ++ b) c]
theorem cat4 (a b c d : List Nat) : SX.S a ++ SX.S b ++ SX.S c ++ SX.S d = SX.S (a ++ b ++ c ++ d) := by rw [cat3 a b c, SX.S_cat (a ++ b ++ c) d]
theorem cat5 (a b c d e : List Nat) : SX.S a ++ SX.S b ++ SX.S c ++ SX.S d ++ SX.S e = SX.S (a ++ b ++ c ++ d ++ e) := by rw [cat4 a b c d, SX.S_cat (a ++ b ++ c ++ d) e]
theorem cat6 (a b c d e g : List Nat) : SX.S a ++ SX.S b ++ SX.S c ++ SX.S d ++ SX.S e ++ SX.S g = SX.S (a ++ b ++ c ++ d ++ e ++ g) := by rw [cat5 a b c d e, SX.S_cat (a ++ b ++ c ++ d ++ e) g]
section
variable {P : Program} {w : World} {K : PySem.W.Frag} {mg : Str → Option Value} {base : Heap}

def sp_plain_digits (K : PySem.W.Frag) : Sp := fun vs H Q _ => ∃ (D : List Nat) (q : Int), vs = [.str (SX.S D), .int q] ∧ D.length ≤ 5000 ∧ -5000 ≤ q ∧ q ≤ 5000 ∧ Q (.str (SX.S (plainT D q))) H
theorem ok_plain_digits (B : Bs K mg base) : OkD P w K mg base "plain_digits" 1 ["digits", "power"] (sp_plain_digits K) := by
  have S : FnScope ["digits", "power"] ["digits", "power"] (defScope (ts 47)) := ⟨rfl, rfl, rfl, by decide +kernel, rfl, by decide +kernel, by decide +kernel⟩
  refine mk_ok B 28 47 rfl rfl S (fun _ _ _ _ _ _ us hl => match us, hl with | [_, _], _ => rfl) (fun vs H Q E h => ?_) (fun f0 cdv A outer s H vs Q E hr h => ?_)
  · obtain ⟨D, z, rfl, h1, h2, h3, q⟩ := h; rfl
  · obtain ⟨D, z, rfl, h1, h2, h3, q⟩ := h
    have scn := S.nd
    refine ⟨_, (pss_cons (ps_if (pt_cmpR op_ge (pv 1) pe_int (nomark _))
        (pss_one (ps_ret (pe_op op_addL (pv 0) (pe_op op_mulS (pe_strS [48] (by decide +kernel)) (pv 1)))))
        pss_nil)
      (pss_cons (ps_set (i := 0) scn rfl (.inl rfl) (pe_bm PySem.F.plainAttrs_str F.slot_str_rjust F.type_str_rjust mt_rjustL (pv 0) (pa_cons (pe_op op_sub pe_int (pv 1)) (pa_cons (pe_strS [48] (by decide +kernel)) pa_nil))))
      (pss_one (ps_ret (pe_op op_addL (pe_op op_addL (pe_slice sl_S (pv 0) po_none (po_some (pv 1))) (pe_strS [46] (by decide +kernel))) (pe_slice sl_S (pv 0) (po_some (pv 1)) po_none)))))), ?_⟩
    unfold plainT at q
    refine ⟨_, rfl, _, _, rfl, rfl, _, rfl, ifD (fun h => ?_) (fun h => ?_)⟩
    · rw [if_pos h] at q
      refine ⟨_, rfl, _, rfl, [48], z, rfl, rfl, by omega, by decide, by omega, D, _, rfl, rfl, ?_, ?_⟩
      · simp
        omega
      · rw [show (List.replicate z.toNat [48]).flatten = List.replicate z.toNat 48 by
          generalize z.toNat = n
          induction n with
          | zero => rfl
          | succ n ih => rw [List.replicate_succ, List.flatten_cons, ih, List.replicate_succ]; rfl]
        exact q
    rw [if_neg h] at q
    have e1 : 1 - z = (((1 - z).toNat : Nat) : Int) := by omega
    have e2 : z = -(((-z).toNat : Nat) : Int) := by omega
    refine ⟨_, rfl, rfl, _, rfl, _, _, rfl, rfl, D, (1 - z).toNat, 48, rfl, by rw [← e1], by omega, ?_⟩
    have hp : (-z).toNat ≤ (padL D (1 - z).toNat 48).length := by
      unfold padL
      rw [List.length_append, List.length_replicate]
      omega
    have hp2 : (padL D (1 - z).toNat 48).length ≤ 10001 := by
      unfold padL
      rw [List.length_append, List.length_replicate]
      omega
    generalize padL D (1 - z).toNat 48 = E at q hp hp2 ⊢
    have c1 : cutL E none (some z) = E.take (E.length - (-z).toNat) := by
      conv => lhs; rw [e2]
      rw [cut_toNeg _ _ (by omega) hp]
    have c2 : cutL E (some z) none = E.drop (E.length - (-z).toNat) := by
      conv => lhs; rw [e2]
      rw [cut_fromNeg _ _ (by omega) hp]
    refine ⟨_, rfl, _, rfl, _, rfl, E, rfl, by omega, ?_⟩
    rw [c1]
    refine ⟨_, _, rfl, rfl, by simp; omega, ?_⟩
    refine ⟨_, rfl, _, rfl, _, rfl, E, rfl, by omega, ?_⟩
    rw [c2]
    refine ⟨_, _, rfl, rfl, by simp; omega, ?_⟩
    rw [List.append_assoc]
    exact q

def sp_power_digits (K : PySem.W.Frag) : Sp := fun vs H Q _ => ∃ (D : List Nat) (p : Int), vs = [.str (SX.S D), .int p] ∧ D ≠ [] ∧ D.length ≤ 5000 ∧ -10000 ≤ p ∧ p ≤ 10000 ∧ Q (.str (SX.S (powerT D p))) H
theorem ok_power_digits (B : Bs K mg base) : OkD P w K mg base "power_digits" 1 ["digits", "first"] (sp_power_digits K) := by
  have S : FnScope ["digits", "first", "more"] ["digits", "first"] (defScope (ts 48)) := ⟨rfl, rfl, rfl, by decide +kernel, rfl, by decide +kernel, by decide +kernel⟩
  refine mk_ok B 29 48 rfl rfl S (fun _ _ _ _ _ _ us hl => match us, hl with | [_, _], _ => rfl) (fun vs H Q E h => ?_) (fun f0 cdv A outer s H vs Q E hr h => ?_)
  · obtain ⟨D, z, rfl, h0, h1, h2, h3, q⟩ := h; rfl
  · obtain ⟨D, z, rfl, h0, h1, h2, h3, q⟩ := h
    have scn := S.nd
    refine ⟨_, (pss_cons (ps_set (i := 2) scn rfl (.inl rfl) (pe_ifExp (pt_cmpR op_gt (pe_callB call_lenL (by rfl) (B.fre 54) PySem.boot_len (pa_cons (pv 0) pa_nil)) pe_int (nomark _)) (pe_joined (.cons (pe_strS [46] (by decide +kernel)) (.cons (pe_fmt (pe_slice sl_S (pv 0) (po_some pe_int) po_none)) .nil))) (pe_strS [] (by decide +kernel))))
      (pss_one (ps_ret (pe_joined (.cons (pe_fmt (pe_ix ix_S (pv 0) pe_int (fun _ _ => rfl))) (.cons (pe_fmt (pv 2)) (.cons (pe_strS [101] (by decide +kernel)) (.cons (pe_fmt (pv 1)) .nil)))))))), ?_⟩
    obtain ⟨c, r, rfl⟩ : ∃ c r, D = c :: r := by
      cases D with
      | nil => exact absurd rfl h0
      | cons c r => exact ⟨c, r, rfl⟩
    have hsd : (sd z).length ≤ 10002 := by
      have h4 := ds_le (n := z.natAbs) (k := 5) (by decide) (by omega)
      unfold sd
      split
      · rw [List.length_cons]
        omega
      · omega
    rw [List.length_cons] at h1
    have fin : ∀ M : List Nat, M.length ≤ 6000 → M = (if 1 < (c :: r).length then 46 :: r else []) → ∀ σ' : L2.St, σ' = [some (.str (SX.S (c :: r))), some (.int z), some (.str (SX.S M))] → tJs [tFmt (tOp rIxL0 (tVar 0) (tC (.int 0))), tFmt (tVar 2), tC (.str (SX.S [101])), tFmt (tVar 1)] Str.empty σ' H fun out H1 => Q (.str out) H1 := by
      intro M hM eM σ' es
      subst es
      refine ⟨_, rfl, c :: r, 0, c, rfl, rfl, by rw [List.length_cons]; omega, rfl, .inl ⟨_, rfl, sl_len (by simp), ?_⟩⟩
      refine ⟨_, rfl, jl (a := []) (by simp), ?_⟩
      refine ⟨_, rfl, .inl ⟨_, rfl, sl_len (by omega), _, rfl, ?_, ?_⟩⟩
      · exact jx (SX.S_cat [] [c]) (by simp; omega)
      refine ⟨_, rfl, ?_, ?_⟩
      · exact jx (cat3 [] [c] M) (by simp; omega)
      refine ⟨_, rfl, .inr ⟨z, rfl, log2_small (by omega), _, rfl, ?_, ?_⟩⟩
      · show ((((SX.S [] ++ SX.S [c]) ++ SX.S M) ++ SX.S [101]) ++ Str.ofString (toString z)).length ≤ _
        rw [str_sd]
        exact jx (cat4 [] [c] M [101]) (by simp; omega)
      show Q (.str ((((SX.S [] ++ SX.S [c]) ++ SX.S M) ++ SX.S [101]) ++ Str.ofString (toString z))) H
      rw [str_sd, cat5 [] [c] M [101] (sd z), eM]
      have e : ([] ++ [c] ++ (if 1 < (c :: r).length then 46 :: r else []) ++ [101]) ++ sd z = powerT (c :: r) z := by
        unfold powerT
        simp
      rw [e]
      exact q
    refine ⟨_, rfl, c :: r, rfl, by rw [List.length_cons]; omega, _, _, rfl, rfl, _, rfl, ifD (fun h => ?_) (fun h => ?_)⟩
    · rw [List.length_cons] at h
      refine ⟨_, rfl, jl (a := []) (by simp), _, rfl, _, rfl, c :: r, rfl, by rw [List.length_cons]; omega, ?_⟩
      rw [show (1 : Int) = ((1 : Nat) : Int) by rfl, cut_from]
      refine .inl ⟨_, rfl, sl_len (by simp; omega), _, rfl, ?_, ?_⟩
      · exact jx (SX.S_cat [] [46]) (by simp; omega)
      show tJs [] (SX.S [] ++ SX.S [46] ++ SX.S (List.drop 1 (c :: r))) _ _ _
      rw [cat3 [] [46] _]
      exact fin (46 :: r) (by rw [List.length_cons]; omega) (by rw [if_pos (by rw [List.length_cons]; omega)]) _ rfl
    · rw [List.length_cons] at h
      exact fin [] (by simp) (by rw [if_neg (by rw [List.length_cons]; omega)]) _ rfl

end
structure OkW (P : Program) (w : World) (K : PySem.W.Frag) (mg : Str → Option Value) (base : Heap) (x : Str) (k : Nat) (ps : List Str) (sp : Sp) : Prop where
  ex : ∃ (f : Addr) (fd : FuncData) (ds : List Value), FnOk P w K mg base CX0 k f fd ps sp ∧ mg x = some (.ref f) ∧ PySem.W.keepIn K (.ref f) = true ∧ Vals [.str "auto"] ds ∧ Binds K fd ps ds ∧ KBn K fd ps 4 ["style"] (fun us ws => us ++ ws) (fun vs zs => vs ++ zs)
section
variable {P : Program} {w : World} {K : PySem.W.Frag} {mg : Str → Option Value} {base : Heap}
theorem mk_kw (B : Bs K mg base) {k : Nat} {sp : Sp} {N : List Str} (S : FnScope N ["form", "way", "sign", "code", "style"] (defScope (ts 49)))
    (len : ∀ vs H Q E, sp vs H Q E → vs.length = 5)
    (hb : ∀ (f : Addr) (cdv : Value) (A : Around) (outer : List Env) (s : Shared) (H : Hp) (vs : List V) (Q : VK) (E : XK), Room k (A.deeper (envOfC "number_text" (defScope (ts 49)) s.heap.objs.size f cdv)) → sp vs H Q E →
      ∃ t, PSs (cxOf CX0 P w K mg base N "number_text" (defScope (ts 49)) f cdv A outer s H E).nox (defBody (ts 49)) t ∧ t { nx := fun _ H' => Q .non H', rt := Q } (start N vs) H) : OkW P w K mg base "number_text" (k + 1) ["form", "way", "sign", "code", "style"] sp := by
  have h : fnL[30]? = some (dd 49 "number_text" [("style", .str "auto")]) := rfl
  obtain ⟨fd, F⟩ := B.c.def_ 30 h
  have F' : FunD K "number_text" "number_text" (defArgs (ts 49)) (defBody (ts 49)) (defScope (ts 49)) [] [("style", .str "auto")] (He.fAd K ("number_text", none)) fd := F
  obtain ⟨ds, v1, b1⟩ := F'.binds0 (ps := ["form", "way", "sign", "code", "style"]) 4 nofun rfl (fun D doc pm an cdv ct us ks h1 h2 => by
    match us, h1, ks, h2 with
    | [_, _, _, _], _, [_], _ => exact ⟨_, _, _, _, _, _, rfl, rfl, rfl⟩)
  obtain ⟨mv, b2⟩ := F'.kbinds0 (ps := ["form", "way", "sign", "code", "style"]) 4 ["style"] [] (fun us _ ws => us ++ ws) nofun nofun (fun r1 _ r2 => r1.append r2) (fun D doc pm an cdv ct us mv ws h1 h2 h3 => by
    match us, h1, ws, h3, mv, h2 with
    | [_, _, _, _], _, [_], _, [], _ => exact rfl)
  refine ⟨_, fd, ds, F'.ok S len fun cdv A outer s H vs Q E hr hs => ?_, He.glo_ok B.X B.G (B.c.fact 30 (by rfl)), F'.kp, v1, b1, b2⟩
  obtain ⟨t, h1, h2⟩ := hb _ cdv A outer s H vs Q E hr hs
  exact ⟨t, h1.nox, h2⟩

theorem pe_callW {X : Cx} {k : Nat} {ps : List Str} {sp : Sp} {x : Str} {p pos : Pos} {e : Expr} {es : List Expr} {t : TA} (G : OkW X.prog X.w X.K X.mg X.base x k ps sp) (hr : Room k X.A) (hg : Gl X x) (ha : PA X (e :: es) t)
    (hx : Passes CX0 X E0 := by exact pass0) (hdb : (x == ("__debug__" : Str)) = false := by decide)
    (hs : starEach (e :: es) X.env = (false, eval e X.env) :: starEach es X.env := by rfl) (hp : (backTo pos (starEach es X.env)).any (·.1) = false := by rfl) : PE X (.Call (.Name x p) (e :: es) [] pos) (tCall sp [.str "auto"] E0 t) := by
  obtain ⟨f, fd, ds, F, hm, hk, v1, b1, b2⟩ := G.ex
  exact pe_call F hr hg hm hk b1 v1 hx ha hdb hs hp
theorem pe_callWK {X : Cx} {k : Nat} {ps : List Str} {sp : Sp} {x : Str} {p pos : Pos} {e : Expr} {es : List Expr} {kws : List Keyword} {t tk : TA} (G : OkW X.prog X.w X.K X.mg X.base x k ps sp) (hr : Room k X.A) (hg : Gl X x) (ha : PA X (e :: es) t) (hkw : PK X kws tk)
    (hx : Passes CX0 X E0 := by exact pass0) (hall : (backToKw pos (keywordEach kws X.env)).all (·.1.isSome) = true := by rfl) (hks : (backToKw pos (keywordEach kws X.env)).filterMap (·.1) = (["style"] : List Str) := by rfl)
    (hdb : (x == ("__debug__" : Str)) = false := by decide) (he : starEach (e :: es) X.env = (false, eval e X.env) :: starEach es X.env := by rfl)
    (hpl : ((backTo pos (starEach (e :: es) X.env)).any (·.1) || (backToKw pos (keywordEach kws X.env)).any (·.1.isNone)) = false := by rfl) :
    PE X (.Call (.Name x p) (e :: es) kws pos) (tCallN 4 1 sp (fun vs zs => vs ++ zs) E0 t tk) := by
  obtain ⟨f, fd, ds, F, hm, hk, v1, b1, b2⟩ := G.ex
  exact pe_callN F hr hg hm hk b2 hx ha hkw hall hks hdb he hpl
theorem pick {σ : L2.St} {H : Hp} {Q : VK} (sg : Bool) (h : Q (.str (SX.S (fr sg))) H) : if sg = true then tC (.str (SX.S [45])) σ H Q else tC (.str (SX.S [])) σ H Q := by
  cases sg with
  | true => exact iteT h
  | false => exact iteF h
theorem dec_sg (sg : Bool) : decide (V.int (sgi sg) = V.int 1) = sg := by cases sg <;> rfl
theorem fr_len (sg : Bool) : (fr sg).length ≤ 1 := by cases sg <;> decide
theorem sd_len {z : Int} (h : z.natAbs < 10 ^ 5) : (sd z).length ≤ 6 := by
  have h4 := ds_le (n := z.natAbs) (k := 5) (by decide) h
  unfold sd
  split
  · rw [List.length_cons]
    omega
  · omega
theorem plain_len {D : List Nat} {q : Int} : (plainT D q).length ≤ D.length + q.natAbs + 2 := by
  unfold plainT
  split
  · simp
    omega
  · have e : (padL D (1 - q).toNat 48).length ≤ D.length + (1 - q).toNat := by
      unfold padL
      simp
      omega
    simp
    omega
theorem power_len {D : List Nat} {p : Int} (h : p.natAbs < 10 ^ 5) : (powerT D p).length ≤ D.length + 9 := by
  have := sd_len h
  unfold powerT
  split
  · simp
    omega
  · simp
    omega
theorem decT_len {d : Nat} {q : Int} (h : ShB d q) (k : Kd) : (decT k d q).length ≤ 9000 := by
  have h1 := h.lo
  have h2 := h.hi
  have h3 := h.len
  have h4 := ds_pos d
  unfold decT
  split
  · have := power_len (D := ds d) (p := firstP d q) (by unfold firstP; omega)
    omega
  · have := plain_len (D := ds d) (q := q)
    omega

def sp_number_text (K : PySem.W.Frag) : Sp := fun vs H Q _ => ∃ (a : Addr) (f : Fm) (W : Way) (sg : Bool) (c : Nat) (k : Kd), vs = [.ref a, .str W.nm, .int (sgi sg), .int (c : Int), .str k.nm] ∧ Frm K H a f ∧ GF f ∧ c ≤ f.N ∧ ∀ H', Same H H' → Q (.str (SX.S (fr sg ++ dueT f W c k))) H'
theorem ok_number_text (B : Bs K mg base) : OkW P w K mg base "number_text" 6 ["form", "way", "sign", "code", "style"] (sp_number_text K) := by
  have G_shortest := ok_shortest (P := P) (w := w) B
  have G_count_of := ok_count_of (P := P) (w := w) B
  have G_plain_digits := ok_plain_digits (P := P) (w := w) B
  have G_power_digits := ok_power_digits (P := P) (w := w) B
  have S : FnScope ["form", "way", "sign", "code", "style", "front", "digits", "first", "number", "power"] ["form", "way", "sign", "code", "style"] (defScope (ts 49)) := ⟨rfl, rfl, rfl, by decide +kernel, rfl, by decide +kernel, by decide +kernel⟩
  refine mk_kw B S (fun vs H Q E h => ?_) (fun f0 cdv A outer s H vs Q E hr h => ?_)
  · obtain ⟨a, f, W, sg, c, k, rfl, hF, g, hc, q⟩ := h; rfl
  · obtain ⟨a, f, W, sg, c, k, rfl, hF, g, hc, q⟩ := h
    have scn := S.nd
    refine ⟨_, (pss_cons (ps_set (i := 5) scn rfl (.inl rfl) (pe_ifExp (pt_cmpR op_eq (pv 2) pe_int (nomark _)) (pe_strS [45] (by decide +kernel)) (pe_strS [] (by decide +kernel))))
      (pss_cons (ps_if (pt_cmpR op_eq (pv 3) (pe_callD G_count_of (hr.mono (by decide)) (by rfl) (pa_cons (pv 0) pa_nil)) (nomark _))
        (pss_one (ps_ret (pe_op op_addL (pv 5) (pe_strS [105, 110, 102] (by decide +kernel)))))
        pss_nil)
      (pss_cons (ps_asg (pe_callD G_shortest (hr.mono (by decide)) (by rfl) (pa_cons (pv 0) (pa_cons (pv 1) (pa_cons (pv 3) pa_nil)))) (pg_tup rfl (pgs_cons (pg_name (i := 8) scn rfl (.inl rfl)) (pgs_cons (pg_name (i := 9) scn rfl (.inl rfl)) pgs_nil))))
      (pss_cons (ps_set (i := 6) scn rfl (.inl rfl) (pe_callTy (call_strI rfl B.nd) (by rfl) (B.fre 58) (by decide +kernel) (pa_cons (pv 8) pa_nil)))
      (pss_cons (ps_set (i := 7) scn rfl (.inl rfl) (pe_op op_sub (pe_op op_add (pv 9) (pe_callB call_lenL (by rfl) (B.fre 54) PySem.boot_len (pa_cons (pv 6) pa_nil))) pe_int))
      (pss_cons (ps_if (PW.pt (pw_or (pt_cmpR op_eq (pv 4) pe_str (nomark _)) (pw_or1 (PW.pt (pw_and (pt_cmpR op_eq (pv 4) pe_str (nomark _)) (pw_and1 (pt_not (pt_chain op_le op_lt (pe_gint (by rfl) (B.kint 67)) (pv 7) (pe_gint (by rfl) (B.kint 68))))))))))
        (pss_one (ps_ret (pe_op op_addL (pv 5) (pe_callD G_power_digits (hr.mono (by decide)) (by rfl) (pa_cons (pv 6) (pa_cons (pv 7) pa_nil))))))
        pss_nil)
      (pss_one (ps_ret (pe_op op_addL (pv 5) (pe_callD G_plain_digits (hr.mono (by decide)) (by rfl) (pa_cons (pv 6) (pa_cons (pv 9) pa_nil)))))))))))), ?_⟩
    have fb := g.fb
    have b1 := fb.p
    have b2 := fb.l
    have b3 := fb.h
    have hfr := fr_len sg
    refine ⟨_, rfl, rfl, _, rfl, ?_⟩
    rw [dec_sg]
    refine pick sg ?_
    refine ⟨_, rfl, _, rfl, a, f, rfl, hF, fb.ok, by omega, by omega, rfl, _, rfl, ifD (fun h => ?_) (fun h => ?_)⟩
    · have e : c = f.N := Int.ofNat.inj (V.int.inj h)
      unfold dueT at q
      rw [if_pos e] at q
      exact ⟨_, rfl, _, _, rfl, rfl, by simp; omega, q _ (Same.refl H)⟩
    have hcN : c ≠ f.N := fun z => h (congrArg V.int (congrArg Int.ofNat z))
    unfold dueT at q
    rw [if_neg hcN] at q
    have hs := short_b g W (show c < f.N by omega)
    generalize hsh : f.short W c = r at q hs
    obtain ⟨d, z⟩ := r
    have q' : ∀ H', Same H H' → Q (.str (SX.S (fr sg ++ decT k d z))) H' := q
    clear q
    have hs' : ShB d z := hs
    have hd : (ds d).length ≤ 1102 := by
      have := hs'.len
      omega
    have hz1 := hs'.lo
    have hz2 := hs'.hi
    have hdp := ds_pos d
    have hdl := decT_len hs' k
    refine ⟨_, rfl, _, rfl, _, rfl, a, f, W, c, rfl, hF, g, by omega, fun p1 H1 s1 hp1 => ?_⟩
    rw [hsh] at hp1
    refine ⟨p1, _, rfl, .inl (.inl hp1), rfl, _, _, rfl, _, _, rfl, rfl, ?_⟩
    refine ⟨_, rfl, _, rfl, by rw [nab]; exact Nat.lt_trans hs'.dl (Nat.pow_lt_pow_right (by decide) (by decide)), ?_⟩
    show gName 6 (V.str (SX.S (sd (d : Int)))) _ _ _
    rw [sd_nat]
    refine ⟨_, rfl, _, rfl, ds d, rfl, by omega, _, _, rfl, rfl, _, _, rfl, rfl, ?_⟩
    have pw : k.far (firstP d z) → Q (.str (SX.S (fr sg ++ powerT (ds d) (firstP d z)))) H1 := fun h2 => by
      have := q' H1 s1
      unfold decT at this
      rw [if_pos h2] at this
      exact this
    have pl : ¬ k.far (firstP d z) → Q (.str (SX.S (fr sg ++ plainT (ds d) z))) H1 := fun h2 => by
      have := q' H1 s1
      unfold decT at this
      rw [if_neg h2] at this
      exact this
    have lw := power_len (D := ds d) (p := firstP d z) (by unfold firstP; omega)
    have ll := plain_len (D := ds d) (q := z)
    have A : ¬ k.far (firstP d z) → ∀ u7 : V, ∀ σ : L2.St, σ = [some (.ref a), some (.str W.nm), some (.int (sgi sg)), some (.int (c : Int)), some (.str k.nm), some (.str (SX.S (fr sg))), some (.str (SX.S (ds d))), some (.int (firstP d z)), some (.int (d : Int)), some (.int z)] → tOp rAddL (tVar 5) (tCall (sp_plain_digits K) [] E0 (tCons (tVar 6) (tCons (tVar 9) tNil))) σ H1 Q := fun h2 u7 σ e => by
      subst e
      exact ⟨_, rfl, _, rfl, _, rfl, ds d, z, rfl, by omega, by omega, by omega, _, _, rfl, rfl, by omega, pl h2⟩
    have Bp : k.far (firstP d z) → ∀ σ : L2.St, σ = [some (.ref a), some (.str W.nm), some (.int (sgi sg)), some (.int (c : Int)), some (.str k.nm), some (.str (SX.S (fr sg))), some (.str (SX.S (ds d))), some (.int (firstP d z)), some (.int (d : Int)), some (.int z)] → tOp rAddL (tVar 5) (tCall (sp_power_digits K) [] E0 (tCons (tVar 6) (tCons (tVar 7) tNil))) σ H1 Q := fun h2 σ e => by
      subst e
      exact ⟨_, rfl, _, rfl, _, rfl, ds d, firstP d z, rfl, ds_ne d, by omega, by unfold firstP; omega, by unfold firstP; omega, _, _, rfl, rfl, by omega, pw h2⟩
    cases k with
    | plain =>
      refine ⟨_, rfl, rfl, _, rfl, ifD (fun h => absurd h (by decide)) (fun _ => ?_)⟩
      refine ⟨_, rfl, rfl, _, rfl, ifD (fun h => absurd h (by decide)) (fun _ => iteF ?_)⟩
      exact A (fun y => y.elim nofun fun y => nomatch y.1) .non _ rfl
    | power =>
      refine ⟨_, rfl, rfl, _, rfl, ifD (fun _ => iteT ?_) (fun h => absurd rfl h)⟩
      exact Bp (.inl rfl) _ rfl
    | auto =>
      refine ⟨_, rfl, rfl, _, rfl, ifD (fun h => absurd h (by decide)) (fun _ => ?_)⟩
      refine ⟨_, rfl, rfl, _, rfl, ifD (fun _ => ?_) (fun h => absurd rfl h)⟩
      refine ⟨_, rfl, _, _, rfl, rfl, _, rfl, ifD (fun g1 => ?_) (fun g1 => ?_)⟩
      · refine ⟨_, _, rfl, rfl, _, rfl, ifN (fun g2 => ?_) (fun g2 => ?_)⟩
        · exact Bp (.inr ⟨rfl, fun y => g2 y.2⟩) _ rfl
        · exact A (fun y => y.elim nofun fun y => y.2 ⟨g1, g2⟩) .non _ rfl
      · exact ⟨_, rfl, iteT (Bp (.inr ⟨rfl, fun y => g1 y.1⟩) _ rfl)⟩

/-! ### hexadecimal texts -/
def half2 (m : Nat) (e : Int) : Nat × Int := if h : m % 2 = 0 ∧ m ≠ 0 then half2 (m / 2) (e + 1) else (m, e)
termination_by m
decreasing_by omega
theorem half2_go {m : Nat} {e : Int} (h : m % 2 = 0) (h0 : m ≠ 0) : half2 m e = half2 (m / 2) (e + 1) := by
  rw [half2, dif_pos ⟨h, h0⟩]
theorem half2_end {m : Nat} {e : Int} (h : ¬ (m % 2 = 0 ∧ m ≠ 0)) : half2 m e = (m, e) := by
  rw [half2, dif_neg h]
theorem half2_spec : ∀ (m : Nat) (e : Int), 0 < m → ∃ j : Nat, m = (half2 m e).1 * 2 ^ j ∧ (half2 m e).2 = e + j ∧ 0 < (half2 m e).1 := by
  intro m
  induction m using Nat.strongRecOn with
  | ind m ih =>
    intro e hm
    by_cases h : m % 2 = 0
    · rw [half2_go h (by omega)]
      obtain ⟨j, e1, e2, e3⟩ := ih (m / 2) (by omega) (e + 1) (by omega)
      refine ⟨j + 1, ?_, by rw [e2]; push_cast; omega, e3⟩
      rw [Nat.pow_succ, ← Nat.mul_assoc, ← e1]
      omega
    · rw [half2_end (fun z => h z.1)]
      exact ⟨0, by simp, by simp, hm⟩
def hexT (m : Nat) (e : Int) : List Nat := 48 :: 120 :: (hx (half2 m e).1 ++ 112 :: sd (if (half2 m e).1 ≠ 0 then (half2 m e).2 else 0))
def hexDue (f : Fm) (c : Nat) : List Nat := if c = f.N then inf else hexT (f.m c) (f.e c)

def sp_hex_text (K : PySem.W.Frag) : Sp := fun vs H Q _ => ∃ (a : Addr) (f : Fm) (sg : Bool) (c : Nat), vs = [.ref a, .int (sgi sg), .int (c : Int)] ∧ Frm K H a f ∧ FB f ∧ c ≤ f.N ∧ ∀ H', Same H H' → Q (.str (SX.S (fr sg ++ hexDue f c))) H'
theorem ok_hex_text (B : Bs K mg base) : OkD P w K mg base "hex_text" 4 ["form", "sign", "code"] (sp_hex_text K) := by
  have G_value_of := ok_value_of (P := P) (w := w) B
  have G_count_of := ok_count_of (P := P) (w := w) B
  have S : FnScope ["form", "sign", "code", "front", "number", "power"] ["form", "sign", "code"] (defScope (ts 50)) := ⟨rfl, rfl, rfl, by decide +kernel, rfl, by decide +kernel, by decide +kernel⟩
  refine mk_ok B 31 50 rfl rfl S (fun _ _ _ _ _ _ us hl => match us, hl with | [_, _, _], _ => rfl) (fun vs H Q E h => ?_) (fun f0 cdv A outer s H vs Q E hr h => ?_)
  · obtain ⟨a, f, sg, c, rfl, hF, fb, hc, q⟩ := h; rfl
  · obtain ⟨a, f, sg, c, rfl, hF, fb, hc, q⟩ := h
    have scn := S.nd
    refine ⟨_, (pss_cons (ps_set (i := 3) scn rfl (.inl rfl) (pe_ifExp (pt_cmpR op_eq (pv 1) pe_int (nomark _)) (pe_strS [45] (by decide +kernel)) (pe_strS [] (by decide +kernel))))
      (pss_cons (ps_if (pt_cmpR op_eq (pv 2) (pe_callD G_count_of (hr.mono (by decide)) (by rfl) (pa_cons (pv 0) pa_nil)) (nomark _))
        (pss_one (ps_ret (pe_op op_addL (pv 3) (pe_strS [105, 110, 102] (by decide +kernel)))))
        pss_nil)
      (pss_cons (ps_asg (pe_callD G_value_of (hr.mono (by decide)) (by rfl) (pa_cons (pv 0) (pa_cons (pv 2) pa_nil))) (pg_tup rfl (pgs_cons (pg_name (i := 4) scn rfl (.inl rfl)) (pgs_cons (pg_name (i := 5) scn rfl (.inl rfl)) pgs_nil))))
      (pss_cons (ps_while PassesOwn.never (PW.pt (pw_and (pt_cmpR op_ne (pv 4) pe_int (nomark _)) (pw_and1 (pt_cmpR op_eq (pe_op op_mod (pv 4) pe_int) pe_int (nomark _)))))
        (pss_one (ps_par (i := 4) (j := 5) rfl scn rfl rfl (by decide) rfl rfl (pa_cons (pe_op op_fdivW (pv 4) pe_int) (pa_cons (pe_op op_add (pv 5) pe_int) pa_nil)) (by rfl))))
      (pss_one (ps_ret (pe_joined (.cons (pe_fmt (pv 3)) (.cons (pe_strS [48, 120] (by decide +kernel)) (.cons (pe_fmtX (pv 4)) (.cons (pe_strS [112] (by decide +kernel)) (.cons (pe_fmt (pe_ifExp (pt_cmpR op_ne (pv 4) pe_int (nomark _)) (pv 5) pe_int)) .nil)))))))))))), ?_⟩
    have b1 := fb.p
    have b2 := fb.l
    have b3 := fb.h
    have hfr := fr_len sg
    refine ⟨_, rfl, rfl, _, rfl, ?_⟩
    rw [dec_sg]
    refine pick sg ?_
    refine ⟨_, rfl, _, rfl, a, f, rfl, hF, fb.ok, by omega, by omega, rfl, _, rfl, ifD (fun h => ?_) (fun h => ?_)⟩
    · have e : c = f.N := Int.ofNat.inj (V.int.inj h)
      unfold hexDue at q
      rw [if_pos e] at q
      exact ⟨_, rfl, _, _, rfl, rfl, by simp; omega, q _ (Same.refl H)⟩
    have hcN : c ≠ f.N := fun z => h (congrArg V.int (congrArg Int.ofNat z))
    unfold hexDue at q
    rw [if_neg hcN] at q
    have hm : f.m c < 2 ^ 400 := Nat.lt_of_lt_of_le (f.m_lt fb.ok c) (Nat.pow_le_pow_right (by decide) (by omega))
    have he1 := f.e_lo c
    have he2 := f.e_hi fb.ok (show c < f.N by omega)
    refine ⟨_, rfl, _, rfl, a, f, c, rfl, hF, fb, by omega, fun p1 H1 s1 hp1 => ?_⟩
    refine ⟨p1, _, rfl, .inl (.inl hp1), rfl, _, _, rfl, _, _, rfl, rfl, ?_⟩
    generalize f.m c = m0 at q hm
    generalize f.e c = e0 at q he1 he2
    refine ⟨fun k σ H2 => ∃ (m : Nat) (e : Int), σ = [some (.ref a), some (.int (sgi sg)), some (.int (c : Int)), some (.str (SX.S (fr sg))), some (.int (m : Int)), some (.int e)] ∧ H2 = H1 ∧ m = k ∧ m < 2 ^ 400 ∧ half2 m e = half2 m0 e0 ∧ e0 ≤ e ∧ m * 2 ^ (e - e0).toNat = m0, ⟨m0, m0, e0, rfl, rfl, rfl, hm, rfl, Int.le_refl _, by simp⟩, fun k σ H2 hW => ?_⟩
    obtain ⟨m, e, rfl, rfl, rfl, hk, eq, he3, he4⟩ := hW
    have fin : ¬ (m % 2 = 0 ∧ m ≠ 0) → tJs [tFmt (tVar 3), tC (.str (SX.S [48, 120])), tFmtX (tVar 4), tC (.str (SX.S [112])), tFmt (tIf (tTest (tOp rNe (tVar 4) (tC (.int 0)))) (tVar 5) (tC (.int 0)))] Str.empty [some (.ref a), some (.int (sgi sg)), some (.int (c : Int)), some (.str (SX.S (fr sg))), some (.int (m : Int)), some (.int e)] H2 fun out H1 => Q (.str out) H1 := fun hn => by
      have q' := q H2 s1
      rw [half2_end hn] at eq
      unfold hexT at q'
      rw [← eq] at q'
      have hxl := hx_short hk
      have hz : ∀ z : Int, z.natAbs < 10 ^ 5 → z = (if m ≠ 0 then e else 0) → ∃ i : Int, V.int z = .int i ∧ i.natAbs.log2 < 1920 ∧ ∃ y : Str, V.str (toString i) = .str y ∧ (Str.empty ++ SX.S (fr sg) ++ SX.S [48, 120] ++ SX.S (hx m) ++ SX.S [112] ++ y).length ≤ sizeLine ∧ Q (.str (Str.empty ++ SX.S (fr sg) ++ SX.S [48, 120] ++ SX.S (hx m) ++ SX.S [112] ++ y)) H2 := by
        intro z h1 h2
        refine ⟨z, rfl, log2_small (by omega), _, rfl, ?_, ?_⟩
        · show ((((SX.S [] ++ SX.S (fr sg)) ++ SX.S [48, 120]) ++ SX.S (hx m) ++ SX.S [112]) ++ Str.ofString (toString z)).length ≤ _
          rw [str_sd]
          have := sd_len h1
          exact jx (cat5 [] (fr sg) [48, 120] (hx m) [112]) (by simp; omega)
        show Q (.str ((((SX.S [] ++ SX.S (fr sg)) ++ SX.S [48, 120]) ++ SX.S (hx m) ++ SX.S [112]) ++ Str.ofString (toString z))) H2
        rw [str_sd, cat6 [] (fr sg) [48, 120] (hx m) [112] (sd z), h2]
        simpa using q'
      refine ⟨_, rfl, .inl ⟨_, rfl, sl_len (by omega), ?_⟩⟩
      refine ⟨_, rfl, jl (a := []) (by simp; omega), ?_⟩
      refine ⟨_, rfl, jx (SX.S_cat [] (fr sg)) (by simp; omega), ?_⟩
      refine ⟨_, rfl, m, rfl, by omega, _, rfl, jx (cat3 [] (fr sg) [48, 120]) (by simp; omega), ?_⟩
      refine ⟨_, rfl, jx (cat4 [] (fr sg) [48, 120] (hx m)) (by simp; omega), ?_⟩
      refine ⟨_, rfl, rfl, _, rfl, ifN (fun h1 => ?_) (fun h1 => ?_)⟩
      · have hm0 : m ≠ 0 := fun z => h1 (congrArg V.int (by rw [z]; rfl))
        have h5 : 2 ^ (e - e0).toNat < 2 ^ 400 := Nat.lt_of_le_of_lt (Nat.le_mul_of_pos_left _ (Nat.pos_of_ne_zero hm0)) (he4 ▸ hm)
        have h6 := (Nat.pow_lt_pow_iff_right (by decide)).mp h5
        exact ⟨_, rfl, .inr (hz e (by omega) (if_pos hm0).symm)⟩
      · have hm0 : m = 0 := Int.ofNat.inj (V.int.inj h1)
        exact .inr (hz 0 (by decide) (if_neg (fun y => y hm0)).symm)
    refine ⟨_, rfl, rfl, _, rfl, ifN (fun h1 => ?_) (fun h1 => ?_)⟩
    · have hm0 : m ≠ 0 := fun z => h1 (congrArg V.int (by rw [z]; rfl))
      refine ⟨_, rfl, _, _, rfl, rfl, (show (0 : Int) < 2 by decide), rfl, _, rfl, ifD (fun h2 => ?_) (fun h2 => ?_)⟩
      · have h3 : m % 2 = 0 := by
          have := V.int.inj h2
          omega
        refine ⟨fun σ' H' => σ' = [some (.ref a), some (.int (sgi sg)), some (.int (c : Int)), some (.str (SX.S (fr sg))), some (.int ((m / 2 : Nat) : Int)), some (.int (e + 1))] ∧ H' = H2, fun σ' H' hN => ?_, ?_⟩
        · obtain ⟨rfl, rfl⟩ := hN
          exact ⟨m / 2, by omega, m / 2, e + 1, rfl, rfl, rfl, by omega, by rw [← eq, half2_go h3 hm0], by omega, by rw [show (e + 1 - e0).toNat = (e - e0).toNat + 1 by omega, Nat.pow_succ, Nat.mul_comm (2 ^ _) 2, ← Nat.mul_assoc, show m / 2 * 2 = m by omega]; exact he4⟩
        · refine ⟨_, rfl, _, _, rfl, rfl, cdiv (b := 10) (by decide) (by decide), _, rfl, _, _, rfl, rfl, _, _, rfl, ?_, rfl⟩
          rw [Int.natCast_ediv]
          rfl
      · exact fin (fun z => h2 (congrArg V.int (show (m : Int) % 2 = 0 by omega)))
    · have hm0 : m = 0 := by
        have := V.int.inj h1
        omega
      exact fin (fun z => z.2 hm0)

end
end NT
/-! text W8 -/
set_option Elab.async false
set_option linter.all false
set_option maxRecDepth 100000
set_option maxHeartbeats 2000000
namespace NT
open PySem PySem.Spec PyProof.Rows L2 PySem.NumText
/-! ### the deck of draws -/
theorem ne_of_none' {H : Hp} {a b : Addr} {o : HO} (h : H a = some o) (h2 : H b = none) : b ≠ a := fun e => by
  rw [e, h] at h2
  cases h2

structure DeckAt (H : Hp) (d c : Addr) (n : Nat) : Prop where
  ne : d ≠ c
  ex : ∃ xs : List Int, H d = some (.lst [.ref c, .int (n : Int)]) ∧ H c = some (.lst (xs.map V.int)) ∧ xs.length ≤ 100
def Keep (d c : Addr) (H H' : Hp) : Prop := ∀ b o, b ≠ d → b ≠ c → H b = some o → H' b = some o
theorem Keep.refl (d c : Addr) (H : Hp) : Keep d c H H := fun _ _ _ _ h => h
theorem Keep.trans {d c : Addr} {H1 H2 H3 : Hp} (h1 : Keep d c H1 H2) (h2 : Keep d c H2 H3) : Keep d c H1 H3 := fun b o e1 e2 h => h2 b o e1 e2 (h1 b o e1 e2 h)
theorem Keep.of_same {d c : Addr} {H H' : Hp} (h : Same H H') : Keep d c H H' := fun b o _ _ e => h b o e
theorem DeckAt.up {H H' : Hp} {d c : Addr} {n : Nat} (h : DeckAt H d c n) (s : Same H H') : DeckAt H' d c n := by
  obtain ⟨ne, xs, h1, h2, h3⟩ := h
  exact ⟨ne, xs, s _ _ h1, s _ _ h2, h3⟩
theorem DeckAt.nd {H : Hp} {d c b : Addr} {n : Nat} (h : DeckAt H d c n) (hb : H b = none) : b ≠ d ∧ b ≠ c := by
  obtain ⟨_, xs, h1, h2, _⟩ := h
  exact ⟨ne_of_none' h1 hb, ne_of_none' h2 hb⟩
theorem keep_upd {d c b : Addr} {H : Hp} {o : HO} (h : b = d ∨ b = c) : Keep d c H (upd H b o) := fun x ob e1 e2 e => by
  rw [upd_ne (by rcases h with h | h <;> rw [h] <;> assumption)]
  exact e
theorem l1' {x : V} : [x].length ≤ sizeLine := by show 1 ≤ sizeLine; decide
theorem mod_nat {x : Int} {m : Nat} (h : 0 < m) : ∃ r : Nat, x % (m : Int) = (r : Int) ∧ r < m := by
  have h1 : 0 ≤ x % (m : Int) := Int.emod_nonneg x (by omega)
  have h2 : x % (m : Int) < (m : Int) := Int.emod_lt_of_pos x (by omega)
  exact ⟨(x % (m : Int)).toNat, by omega, by omega⟩
theorem ixN_of {n j : Nat} (hj : j < n) : ixN n (j : Int) = some j := by
  unfold ixN
  rw [if_pos (by omega), if_pos (by omega)]
  simp
theorem same_at {H H2 : Hp} {D : Addr} {o : HO} (h : H D = none) (s : Same H H2) : Same H (upd H2 D o) := fun b x e => by
  rw [upd_ne (ne_of_none e h)]
  exact s b x e
theorem Same.none {H H' : Hp} {D : Addr} (s : Same H H') (h : H' D = none) : H D = none := by
  cases e : H D with
  | none => rfl
  | some o =>
    rw [s _ _ e] at h
    cases h
section
variable {P : Program} {w : World} {K : PySem.W.Frag} {mg : Str → Option Value} {base : Heap}

def sp__law_draw (K : PySem.W.Frag) : Sp := fun vs H Q _ => ∃ (d c : Addr) (n many : Nat), vs = [.ref d, .int (many : Int)] ∧ DeckAt H d c n ∧ n ≤ 100000 ∧ 0 < many ∧ many < 2 ^ 64 ∧ ∀ (r : Nat) H', r < many → DeckAt H' d c (n + 1) → Keep d c H H' → Q (.int (r : Int)) H'
theorem ok__law_draw (B : Bs K mg base) : OkD P w K mg base "_law_draw" 1 ["_law_deck_here", "_law_many"] (sp__law_draw K) := by
  have S : FnScope ["_law_deck_here", "_law_many", "_law_place", "_law_cell", "_law_mixed"] ["_law_deck_here", "_law_many"] (defScope (ts 53)) := ⟨rfl, rfl, rfl, by decide +kernel, rfl, by decide +kernel, by decide +kernel⟩
  refine mk_ok B 33 53 rfl rfl S (fun _ _ _ _ _ _ us hl => match us, hl with | [_, _], _ => rfl) (fun vs H Q E h => ?_) (fun f0 cdv A outer s H vs Q E hr h => ?_)
  · obtain ⟨d, c, n, many, rfl, hD, hn, hm, hm2, q⟩ := h; rfl
  · obtain ⟨d, c, n, many, rfl, hD, hn, hm, hm2, q⟩ := h
    have scn := S.nd
    refine ⟨_, (pss_cons (ps_asg (pe_op op_add (pe_ix ix_list (pv 0) pe_int (fun _ _ => rfl)) pe_int) (pg_sub (pv 0) pe_int set_list))
      (pss_cons (ps_set (i := 2) scn rfl (.inl rfl) (pe_op op_mod (pe_callTy call_int1 (by rfl) (B.fre 52) (by decide +kernel) (pa_cons (pe_ix ix_list (pv 0) pe_int (fun _ _ => rfl)) pa_nil)) (pe_callB (call_max2 rfl) (by rfl) (B.fre 55) (by decide +kernel) (pa_cons pe_int (pa_cons (pe_callB call_len_seq (by rfl) (B.fre 54) PySem.boot_len (pa_cons (pe_ix ix_list (pv 0) pe_int (fun _ _ => rfl)) pa_nil)) pa_nil)))))
      (pss_cons (ps_set (i := 3) scn rfl (.inl rfl) (pe_ix ix_list (pe_op op_cat (pe_ix ix_list (pv 0) pe_int (fun _ _ => rfl)) (pe_lst (pa_cons pe_int pa_nil))) (pv 2) (fun _ _ => rfl)))
      (pss_cons (ps_if (pt_cmpR op_ge (pv 3) (pe_op op_pow pe_int pe_int) (nomark _))
        (pss_cons (ps_asg (pe_op op_fdivW (pv 3) (pv 1)) (pg_sub (pe_ix ix_list (pv 0) pe_int (fun _ _ => rfl)) (pv 2) set_list))
          (pss_one (ps_ret (pe_op op_mod (pe_callTy call_int1 (by rfl) (B.fre 52) (by decide +kernel) (pa_cons (pv 3) pa_nil)) (pv 1)))))
        pss_nil)
      (pss_cons (ps_set (i := 4) scn rfl (.inl rfl) (pe_op op_pow (pe_op op_add (pe_op op_add (pe_op op_mod (pe_callTy call_int1 (by rfl) (B.fre 52) (by decide +kernel) (pa_cons (pv 3) pa_nil)) pe_int) (pe_op op_mulX pe_int (pe_ix ix_list (pv 0) pe_int (fun _ _ => rfl)))) pe_int) pe_int))
      (pss_one (ps_ret (pe_op op_mod (pe_callTy call_int1 (by rfl) (B.fre 52) (by decide +kernel) (pa_cons (pe_op op_mod (pe_callTy call_int1 (by rfl) (B.fre 52) (by decide +kernel) (pa_cons (pv 4) pa_nil)) pe_int) pa_nil)) (pv 1))))))))), ?_⟩
    obtain ⟨ne, xs, hd, hc, hl⟩ := hD
    refine ⟨_, rfl, d, _, 1, _, rfl, rfl, .inl (.inl hd), rfl, _, _, rfl, rfl, _, rfl, d, _, 1, 1, rfl, rfl, hd, rfl, ?_⟩
    have k1 : Keep d c H (upd H d (.lst ([V.ref c, .int (n : Int)].set 1 (.int ((n : Int) + 1))))) := keep_upd (.inl rfl)
    have d1 : upd H d (.lst ([V.ref c, .int (n : Int)].set 1 (.int ((n : Int) + 1)))) d = some (.lst [.ref c, .int ((n + 1 : Nat) : Int)]) := by
      rw [upd_same]
      rfl
    have c1 : upd H d (.lst ([V.ref c, .int (n : Int)].set 1 (.int ((n : Int) + 1)))) c = some (.lst (xs.map V.int)) := by
      rw [upd_ne ne.symm]
      exact hc
    generalize upd H d (.lst ([V.ref c, .int (n : Int)].set 1 (.int ((n : Int) + 1)))) = H1 at k1 d1 c1 ⊢
    have L1 : SqL K H1 d [.ref c, .int ((n + 1 : Nat) : Int)] := .inl (.inl d1)
    have L2 : SqL K H1 c (xs.map V.int) := .inl (.inl c1)
    refine ⟨_, rfl, d, _, 1, _, rfl, rfl, L1, rfl, .inl ⟨_, rfl, ?_⟩⟩
    refine ⟨_, rfl, d, _, 0, _, rfl, rfl, L1, rfl, c, _, rfl, .inl L2, _, _, rfl, ?_⟩
    have e1 : (if (((xs.map V.int).length : Nat) : Int) > 1 then (((xs.map V.int).length : Nat) : Int) else 1) = ((max 1 xs.length : Nat) : Int) := by
      rw [List.length_map]
      split <;> omega
    rw [e1]
    obtain ⟨pl, hpl, hpl2⟩ := mod_nat (x := ((n + 1 : Nat) : Int)) (m := max 1 xs.length) (by omega)
    refine ⟨_, _, rfl, rfl, by omega, ?_⟩
    show gName 2 (V.int (_ % _)) _ _ _
    rw [hpl]
    refine ⟨_, rfl, d, _, 0, _, rfl, rfl, L1, rfl, l1', fun p1 hp1 => ?_⟩
    have s1 := same_new (o := .lst [.int 0]) hp1
    refine ⟨c, p1, _, _, rfl, rfl, s1 _ _ c1, upd_same, ?_, fun p2 hp2 => ?_⟩
    · rw [List.length_map, sizeLine_eq]
      show _ + 1 ≤ _
      omega
    have s2 := s1.trans (same_new (o := .lst (xs.map V.int ++ [.int 0])) hp2)
    have hcell : ∃ x : Int, (xs.map V.int ++ [.int 0])[pl]? = some (.int x) := by
      have e : xs.map V.int ++ [.int 0] = (xs ++ [0]).map V.int := by simp
      rw [e, List.getElem?_map]
      have hb : pl < (xs ++ [0]).length := by
        rw [List.length_append, List.length_singleton]
        omega
      rw [List.getElem?_eq_getElem hb]
      exact ⟨_, rfl⟩
    obtain ⟨x, hx⟩ := hcell
    refine ⟨_, rfl, p2, _, pl, _, rfl, rfl, sq_l, atI_nat (j := pl) hx, ?_⟩
    generalize upd (upd H1 p1 (.lst [.int 0])) p2 (.lst (xs.map V.int ++ [.int 0])) = H2 at s2 ⊢
    have d2 := s2 _ _ d1
    have c2 := s2 _ _ c1
    have L3 : SqL K H2 d [.ref c, .int ((n + 1 : Nat) : Int)] := .inl (.inl d2)
    have k2 : Keep d c H H2 := k1.trans (Keep.of_same s2)
    have hmb : (many : Int).natAbs < 2 ^ 64 := by omega
    refine ⟨_, rfl, _, _, rfl, rfl, ⟨by decide, by decide, by decide⟩, _, _, rfl, rfl, _, rfl, ifD (fun h => ?_) (fun h => ?_)⟩
    · have hlt : pl < xs.length := by
        by_cases z : pl < xs.length
        · exact z
        · have e : xs.map V.int ++ [.int 0] = (xs ++ [0]).map V.int := by simp
          rw [e, List.getElem?_map] at hx
          have hb : pl = xs.length := by omega
          rw [hb, List.getElem?_concat_length] at hx
          cases hx
          exact absurd h (by decide)
      obtain ⟨r, hr, hr2⟩ := mod_nat (x := x) hm
      refine ⟨_, rfl, _, rfl, _, _, rfl, rfl, cdiv (b := 64) (by omega) hmb, _, rfl, d, _, 0, _, rfl, rfl, L3, rfl, _, rfl, c, _, pl, pl, rfl, rfl, c2, ?_, ?_⟩
      · exact ixN_of (by rw [List.length_map]; exact hlt)
      · refine ⟨_, rfl, .inl ⟨_, rfl, _, rfl, _, _, rfl, rfl, by omega, ?_⟩⟩
        show Q (V.int (_ % _)) _
        rw [hr]
        refine q r _ hr2 ⟨ne, xs.set pl (x / (many : Int)), ?_, ?_, ?_⟩ (k2.trans (keep_upd (.inr rfl)))
        · rw [upd_ne ne]
          exact d2
        · rw [upd_same, List.map_set]
        · rw [List.length_set]
          exact hl
    · obtain ⟨r, hr, hr2⟩ := mod_nat (x := x) (m := 2147483587) (by decide)
      have hr' : x % 2147483587 = (r : Int) := hr
      refine ⟨_, rfl, .inl ⟨_, rfl, _, _, rfl, rfl, (show (0 : Int) < 2147483587 by decide), ?_⟩⟩
      refine ⟨_, rfl, d, _, 1, _, rfl, rfl, L3, rfl, _, _, rfl, rfl, cmulN (n := 7919) (m := n + 1) (a := 13) (b := 17) (by decide) (by omega), _, _, rfl, rfl, _, _, rfl, rfl, _, _, rfl, rfl, ?_⟩
      refine ⟨⟨by decide, by decide, ?_⟩, ?_⟩
      · show (x % 2147483587 + 7919 * ((n + 1 : Nat) : Int) + 1).natAbs < 2 ^ 64
        rw [hr']
        omega
      obtain ⟨r2, hr2, hr3⟩ := mod_nat (x := (x % 2147483587 + 7919 * ((n + 1 : Nat) : Int) + 1) ^ 5 % 2147483647) hm
      refine ⟨_, rfl, .inl ⟨_, rfl, _, _, rfl, rfl, (show (0 : Int) < 2147483647 by decide), .inl ⟨_, rfl, _, rfl, _, _, rfl, rfl, by omega, ?_⟩⟩⟩
      show Q (V.int ((x % 2147483587 + 7919 * ((n + 1 : Nat) : Int) + 1) ^ 5 % 2147483647 % (many : Int))) _
      rw [hr2]
      exact q r2 _ hr3 ⟨ne, xs, d2, c2, hl⟩ k2

def sp__law_deck (K : PySem.W.Frag) : Sp := fun vs H Q _ => ∃ (a : Addr) (xs : List Int), vs = [.ref a] ∧ SqL K H a (xs.map V.int) ∧ xs.length ≤ 100 ∧ ∀ d c H', DeckAt H' d c 0 → Same H H' → Q (.ref d) H'
theorem ok__law_deck (B : Bs K mg base) : OkD P w K mg base "_law_deck" 1 ["_law_script"] (sp__law_deck K) := by
  have S : FnScope ["_law_script", "_law_cell"] ["_law_script"] (defScope (ts 52)) := ⟨rfl, rfl, rfl, by decide +kernel, rfl, by decide +kernel, by decide +kernel⟩
  refine mk_ok B 32 52 rfl rfl S (fun _ _ _ _ _ _ us hl => match us, hl with | [_], _ => rfl) (fun vs H Q E h => ?_) (fun f0 cdv A outer s H vs Q E hr h => ?_)
  · obtain ⟨a, xs, rfl, hL, hl, q⟩ := h; rfl
  · obtain ⟨a, xs, rfl, hL, hl, q⟩ := h
    have scn := S.nd
    refine ⟨_, (pss_one (ps_ret (pe_lst (pa_cons (pe_lc (own := [("_law_cell", 1)]) (g := gName 1) (tt := tYes) rfl scn ((pi_list (pe_slice sl_list (pv 0) po_none (po_some pe_int)))) (blkOk_by (own := [("_law_cell", 1)]) (N := ["_law_script", "_law_cell"]) (sc := defScope (ts 52)) (by decide +kernel)) (fun _ _ _ _ _ => pg_name (i := 1) scn rfl (Or.inl rfl)) (fun _ _ _ _ _ => pts_nil) (fun _ _ _ _ _ => (pe_callB call_abs (by rfl) (B.fre 48) (by decide +kernel) (pa_cons (pv 1) pa_nil)))) (pa_cons pe_int pa_nil))))), ?_⟩
    refine ⟨_, rfl, _, rfl, a, _, rfl, hL, fun p1 hp1 => ?_⟩
    have s1 := same_new (o := .lst (cutV (xs.map V.int) none (some 63))) hp1
    have hcut : ∃ ys : List Int, cutV (xs.map V.int) none (some 63) = ys.map V.int ∧ ys.length ≤ 100 := by
      refine ⟨(xs.drop (HT.sIx (xs.map V.int).length 0 none)).take (HT.sIx (xs.map V.int).length (xs.map V.int).length (some 63) - HT.sIx (xs.map V.int).length 0 none), ?_, ?_⟩
      · unfold cutV
        rw [List.map_take, List.map_drop]
      · rw [List.length_take, List.length_drop]
        omega
    obtain ⟨ys, hys, hyl⟩ := hcut
    rw [hys] at s1 ⊢
    have L1 : SqL K (upd H p1 (.lst (ys.map V.int))) p1 (ys.map V.int) := sq_l
    generalize upd H p1 (.lst (ys.map V.int)) = H1 at s1 L1 ⊢
    refine ⟨p1, rfl, ⟨_, L1⟩, fun D hD => ?_⟩
    refine lc_list (K := K) (a := p1) (xs := ys.map V.int) (fun i H2 => ∃ zs : List Int, H2 D = some (.lst (zs.map V.int)) ∧ zs.length = i ∧ Same H1 H2) ⟨[], upd_same, rfl, same_new hD⟩ (fun i H2 _ h => h.choose_spec.2.2.seq L1) (fun i x H2 hi hP => ?_) (fun H2 hP => ?_)
    · obtain ⟨zs, h1, h2, h3⟩ := hP
      rw [List.getElem?_map] at hi
      obtain ⟨y, hy1, hy2⟩ := Option.map_eq_some_iff.mp hi
      subst hy2
      have hil : i < ys.length := by
        by_cases z : i < ys.length
        · exact z
        · rw [List.getElem?_eq_none (by omega)] at hy1
          cases hy1
      refine ⟨rfl, _, rfl, y, rfl, _, h1, ?_, zs ++ [if y < 0 then -y else y], ?_, ?_, same_at hD h3⟩
      · rw [List.length_map, sizeLine_eq]
        omega
      · rw [upd_same, List.map_append]
        rfl
      · rw [List.length_append, h2]
        rfl
    · obtain ⟨zs, h1, h2, h3⟩ := hP
      rw [List.length_map] at h2
      refine ⟨l2, fun d hd => q d D _ ⟨ne_of_none' h1 hd, zs, ?_, ?_, by omega⟩ (s1.trans (h3.trans (same_new hd)))⟩
      · rw [upd_same]
        rfl
      · exact same_new hd _ _ h1

def sp__law_form (K : PySem.W.Frag) : Sp := fun vs H Q _ => ∃ (d c : Addr) (n : Nat), vs = [.ref d] ∧ DeckAt H d c n ∧ n ≤ 90000 ∧ ∀ (p H' : _) (f : Fm), 1 ≤ f.p → f.p ≤ 6 → -8 ≤ f.lo → f.lo ≤ 4 → f.lo ≤ f.hi → f.hi ≤ f.lo + 8 → DeckAt H' d c (n + 3) → Keep d c H H' → H' p = some (.tup [.int (f.p : Int), .int f.lo, .int f.hi]) → Q (.ref p) H'
theorem ok__law_form (B : Bs K mg base) : OkD P w K mg base "_law_form" 2 ["_law_deck_here"] (sp__law_form K) := by
  have G__law_draw := ok__law_draw (P := P) (w := w) B
  have S : FnScope ["_law_deck_here", "_law_low"] ["_law_deck_here"] (defScope (ts 54)) := ⟨rfl, rfl, rfl, by decide +kernel, rfl, by decide +kernel, by decide +kernel⟩
  refine mk_ok B 34 54 rfl rfl S (fun _ _ _ _ _ _ us hl => match us, hl with | [_], _ => rfl) (fun vs H Q E h => ?_) (fun f0 cdv A outer s H vs Q E hr h => ?_)
  · obtain ⟨d, c, n, rfl, hD, hn, q⟩ := h; rfl
  · obtain ⟨d, c, n, rfl, hD, hn, q⟩ := h
    have scn := S.nd
    refine ⟨_, (pss_cons (ps_set (i := 1) scn rfl (.inl rfl) (pe_op op_sub (pe_callD G__law_draw (hr.mono (by decide)) (by rfl) (pa_cons (pv 0) (pa_cons pe_int pa_nil))) pe_int))
      (pss_one (ps_ret (pe_tup (pa_cons (pe_op op_add pe_int (pe_callD G__law_draw (hr.mono (by decide)) (by rfl) (pa_cons (pv 0) (pa_cons pe_int pa_nil)))) (pa_cons (pv 1) (pa_cons (pe_op op_add (pv 1) (pe_callD G__law_draw (hr.mono (by decide)) (by rfl) (pa_cons (pv 0) (pa_cons (pe_callB (call_min2 rfl) (by rfl) (B.fre 56) (by decide +kernel) (pa_cons pe_int (pa_cons (pe_op op_sub pe_int (pv 1)) pa_nil))) pa_nil)))) pa_nil))))))), ?_⟩
    refine ⟨_, rfl, d, c, n, 13, rfl, hD, by omega, by decide, by decide, fun r H1 hr d1 k1 => ?_⟩
    refine ⟨_, _, rfl, rfl, ?_⟩
    refine ⟨_, rfl, d, c, n + 1, 6, rfl, d1, by omega, by decide, by decide, fun r2 H2 hr2 d2 k2 => ?_⟩
    refine ⟨_, _, rfl, rfl, ?_⟩
    have e1 : (if (9 : Int) - ((r : Int) - 8) < 9 then (9 : Int) - ((r : Int) - 8) else 9) = ((min 9 (17 - r) : Nat) : Int) := by split <;> omega
    refine ⟨_, rfl, _, rfl, _, rfl, _, rfl, _, _, rfl, rfl, _, _, rfl, ?_⟩
    rw [e1]
    refine ⟨d, c, n + 2, min 9 (17 - r), rfl, d2, by omega, by omega, by omega, fun r3 H3 hr3 d3 k3 => ?_⟩
    refine ⟨_, _, rfl, rfl, l3, fun p hp => ?_⟩
    refine q p _ ⟨1 + r2, (r : Int) - 8, (r : Int) - 8 + (r3 : Int)⟩ (by show 1 ≤ 1 + r2; omega) (by show 1 + r2 ≤ 6; omega) (by show -8 ≤ (r : Int) - 8; omega) (by show (r : Int) - 8 ≤ 4; omega) (by show (r : Int) - 8 ≤ (r : Int) - 8 + (r3 : Int); omega) (by show (r : Int) - 8 + (r3 : Int) ≤ (r : Int) - 8 + 8; omega) (d3.up (same_new hp)) ((k1.trans (k2.trans k3)).trans (Keep.of_same (same_new hp))) ?_
    exact tup3_ (congrArg V.int (show (1 : Int) + (r2 : Int) = ((1 + r2 : Nat) : Int) by omega)) rfl rfl

/-! ### the formats of the law -/
theorem gf_small {f : Fm} (h1 : 1 ≤ f.p) (h2 : f.p ≤ 6) (h3 : -8 ≤ f.lo) (h4 : f.lo ≤ 4) (h5 : f.lo ≤ f.hi) (h6 : f.hi ≤ f.lo + 8) : GF f := by
  refine ⟨⟨⟨h1, h5⟩, by omega, by omega, by omega⟩, by omega, by omega, ?_⟩
  have a1 : 2 ^ f.p ≤ 2 ^ 6 := Nat.pow_le_pow_right (by decide) h2
  have a2 : p2 f.hi ≤ 2 ^ 12 := Nat.pow_le_pow_right (by decide) (by omega)
  have a3 : 5 ^ (-f.lo).toNat ≤ 5 ^ 8 := Nat.pow_le_pow_right (by decide) (by omega)
  exact Nat.lt_of_le_of_lt (Nat.mul_le_mul (Nat.mul_le_mul a1 a2) a3) (by decide +kernel)
theorem gf_of {p : Nat} {lo hi : Int} (h1 : 1 ≤ p) (h2 : p ≤ 128) (h3 : -1074 ≤ lo) (h5 : lo ≤ hi) (h6 : hi ≤ 971) (h7 : 2 ^ p * 2 ^ hi.toNat * 5 ^ (-lo).toNat < 10 ^ 1100) : GF ⟨p, lo, hi⟩ :=
  ⟨⟨⟨h1, h5⟩, h2, by show -1200 ≤ lo; omega, by show hi ≤ 1200; omega⟩, h3, h6, h7⟩

def sp__law_format (K : PySem.W.Frag) : Sp := fun vs H Q _ => ∃ (d c : Addr) (n : Nat), vs = [.ref d] ∧ DeckAt H d c n ∧ n ≤ 80000 ∧ ∀ (p H' : _) (n' : Nat) (f : Fm), GF f → f.p ≤ 113 → n' ≤ n + 4 → DeckAt H' d c n' → Keep d c H H' → H' p = some (.tup [.int (f.p : Int), .int f.lo, .int f.hi]) → Q (.ref p) H'
theorem ok__law_format (B : Bs K mg base) : OkD P w K mg base "_law_format" 3 ["_law_deck_here"] (sp__law_format K) := by
  have G__law_draw := ok__law_draw (P := P) (w := w) B
  have G__law_form := ok__law_form (P := P) (w := w) B
  have S : FnScope ["_law_deck_here", "_law_some"] ["_law_deck_here"] (defScope (ts 55)) := ⟨rfl, rfl, rfl, by decide +kernel, rfl, by decide +kernel, by decide +kernel⟩
  refine mk_ok B 35 55 rfl rfl S (fun _ _ _ _ _ _ us hl => match us, hl with | [_], _ => rfl) (fun vs H Q E h => ?_) (fun f0 cdv A outer s H vs Q E hr h => ?_)
  · obtain ⟨d, c, n, rfl, hD, hn, q⟩ := h; rfl
  · obtain ⟨d, c, n, rfl, hD, hn, q⟩ := h
    have scn := S.nd
    refine ⟨_, (pss_cons (ps_if (pt_cmpR op_eq (pe_callD G__law_draw (hr.mono (by decide)) (by rfl) (pa_cons (pv 0) (pa_cons pe_int pa_nil))) pe_int (nomark _))
        (pss_one (ps_ret (pe_callD G__law_form (hr.mono (by decide)) (by rfl) (pa_cons (pv 0) pa_nil))))
        pss_nil)
      (pss_cons (ps_set (i := 1) scn rfl (.inl rfl) (pe_lst (pa_cons (pe_tup (pa_cons pe_int (pa_cons (pe_un un_neg pe_int) (pa_cons pe_int pa_nil)))) (pa_cons (pe_tup (pa_cons pe_int (pa_cons (pe_un un_neg pe_int) (pa_cons pe_int pa_nil)))) (pa_cons (pe_tup (pa_cons pe_int (pa_cons (pe_un un_neg pe_int) (pa_cons pe_int pa_nil)))) (pa_cons (pe_tup (pa_cons pe_int (pa_cons (pe_un un_neg pe_int) (pa_cons pe_int pa_nil)))) (pa_cons (pe_tup (pa_cons pe_int (pa_cons (pe_un un_neg pe_int) (pa_cons pe_int pa_nil)))) (pa_cons (pe_tup (pa_cons pe_int (pa_cons (pe_un un_neg pe_int) (pa_cons (pe_un un_neg pe_int) pa_nil)))) (pa_cons (pe_tup (pa_cons pe_int (pa_cons (pe_un un_neg pe_int) (pa_cons pe_int pa_nil)))) pa_nil)))))))))
      (pss_one (ps_ret (pe_ix ix_list (pv 1) (pe_callD G__law_draw (hr.mono (by decide)) (by rfl) (pa_cons (pv 0) (pa_cons pe_int pa_nil))) (fun _ _ => rfl)))))), ?_⟩
    refine ⟨_, rfl, d, c, n, 2, rfl, hD, by omega, by decide, by decide, fun r H1 hr d1 k1 => ?_⟩
    refine ⟨rfl, _, rfl, ifD (fun h => ?_) (fun h => ?_)⟩
    · refine ⟨_, rfl, d, c, n + 1, rfl, d1, by omega, fun p H2 f g1 g2 g3 g4 g5 g6 d2 k2 hp => ?_⟩
      exact q p H2 (n + 1 + 3) f (gf_small g1 g2 g3 g4 g5 g6) (by omega) (by omega) d2 (k1.trans k2) hp
    refine ⟨_, rfl, l3, fun q0 h0 => ?_⟩
    refine ⟨_, rfl, l3, fun q1 h1 => ?_⟩
    refine ⟨_, rfl, l3, fun q2 h2 => ?_⟩
    refine ⟨_, rfl, l3, fun q3 h3 => ?_⟩
    refine ⟨_, rfl, l3, fun q4 h4 => ?_⟩
    refine ⟨_, rfl, _, rfl, l3, fun q5 h5 => ?_⟩
    refine ⟨_, rfl, l3, fun q6 h6 => ?_⟩
    refine ⟨by show 7 ≤ sizeLine; decide, fun q7 h7 => ?_⟩
    have s0 := same_new (o := .tup [.int 11, .int (-24), .int 5]) h0
    have s1 := same_new (o := .tup [.int 8, .int (-133), .int 120]) h1
    have s2 := same_new (o := .tup [.int 24, .int (-149), .int 104]) h2
    have s3 := same_new (o := .tup [.int 53, .int (-1074), .int 971]) h3
    have s4 := same_new (o := .tup [.int 1, .int (-20), .int 20]) h4
    have s5 := same_new (o := .tup [.int 1, .int (-3), .int (-2)]) h5
    have s6 := same_new (o := .tup [.int 113, .int (-160), .int 60]) h6
    have s7 := same_new (o := .lst [.ref q0, .ref q1, .ref q2, .ref q3, .ref q4, .ref q5, .ref q6]) h7
    have t0 := (s7 _ _ (s6 _ _ (s5 _ _ (s4 _ _ (s3 _ _ (s2 _ _ (s1 _ _ upd_same)))))))
    have t1 := (s7 _ _ (s6 _ _ (s5 _ _ (s4 _ _ (s3 _ _ (s2 _ _ upd_same))))))
    have t2 := (s7 _ _ (s6 _ _ (s5 _ _ (s4 _ _ (s3 _ _ upd_same)))))
    have t3 := (s7 _ _ (s6 _ _ (s5 _ _ (s4 _ _ upd_same))))
    have t4 := (s7 _ _ (s6 _ _ (s5 _ _ upd_same)))
    have t5 := (s7 _ _ (s6 _ _ upd_same))
    have t6 := (s7 _ _ upd_same)
    have sA := (((((((s0.trans s1).trans s2).trans s3).trans s4).trans s5).trans s6).trans s7)
    have n0 := (d1).nd h0
    have n1 := ((d1).up s0).nd h1
    have n2 := (((d1).up s0).up s1).nd h2
    have n3 := ((((d1).up s0).up s1).up s2).nd h3
    have n4 := (((((d1).up s0).up s1).up s2).up s3).nd h4
    have n5 := ((((((d1).up s0).up s1).up s2).up s3).up s4).nd h5
    have n6 := (((((((d1).up s0).up s1).up s2).up s3).up s4).up s5).nd h6
    have n7 := ((((((((d1).up s0).up s1).up s2).up s3).up s4).up s5).up s6).nd h7
    have dA := d1.up sA
    refine ⟨_, rfl, _, rfl, d, c, n + 1, 7, rfl, dA, by omega, by decide, by decide, fun r2 H3 hr2 d3 k3 => ?_⟩
    have kA := k1.trans ((Keep.of_same sA).trans k3)
    have hL := k3 _ _ n7.1 n7.2 upd_same
    have u0 := q q0 H3 (n + 1 + 1) ⟨11, (-24), 5⟩ (gf_of (by decide) (by decide) (by decide) (by decide) (by decide) (by decide +kernel)) (by decide) (by omega) d3 kA (k3 _ _ n0.1 n0.2 t0)
    have u1 := q q1 H3 (n + 1 + 1) ⟨8, (-133), 120⟩ (gf_of (by decide) (by decide) (by decide) (by decide) (by decide) (by decide +kernel)) (by decide) (by omega) d3 kA (k3 _ _ n1.1 n1.2 t1)
    have u2 := q q2 H3 (n + 1 + 1) ⟨24, (-149), 104⟩ (gf_of (by decide) (by decide) (by decide) (by decide) (by decide) (by decide +kernel)) (by decide) (by omega) d3 kA (k3 _ _ n2.1 n2.2 t2)
    have u3 := q q3 H3 (n + 1 + 1) ⟨53, (-1074), 971⟩ (gf_of (by decide) (by decide) (by decide) (by decide) (by decide) (by decide +kernel)) (by decide) (by omega) d3 kA (k3 _ _ n3.1 n3.2 t3)
    have u4 := q q4 H3 (n + 1 + 1) ⟨1, (-20), 20⟩ (gf_of (by decide) (by decide) (by decide) (by decide) (by decide) (by decide +kernel)) (by decide) (by omega) d3 kA (k3 _ _ n4.1 n4.2 t4)
    have u5 := q q5 H3 (n + 1 + 1) ⟨1, (-3), (-2)⟩ (gf_of (by decide) (by decide) (by decide) (by decide) (by decide) (by decide +kernel)) (by decide) (by omega) d3 kA (k3 _ _ n5.1 n5.2 t5)
    have u6 := q q6 H3 (n + 1 + 1) ⟨113, (-160), 60⟩ (gf_of (by decide) (by decide) (by decide) (by decide) (by decide) (by decide +kernel)) (by decide) (by omega) d3 kA (k3 _ _ n6.1 n6.2 t6)
    have lk : SqL K H3 q7 [.ref q0, .ref q1, .ref q2, .ref q3, .ref q4, .ref q5, .ref q6] := .inl (.inl hL)
    have hc7 : r2 = 0 ∨ r2 = 1 ∨ r2 = 2 ∨ r2 = 3 ∨ r2 = 4 ∨ r2 = 5 ∨ r2 = 6 := by omega
    clear hL
    rcases hc7 with rfl | rfl | rfl | rfl | rfl | rfl | rfl
    · exact ⟨q7, _, ((0 : Nat) : Int), _, rfl, rfl, lk, atI_nat (j := 0) rfl, u0⟩
    · exact ⟨q7, _, ((1 : Nat) : Int), _, rfl, rfl, lk, atI_nat (j := 1) rfl, u1⟩
    · exact ⟨q7, _, ((2 : Nat) : Int), _, rfl, rfl, lk, atI_nat (j := 2) rfl, u2⟩
    · exact ⟨q7, _, ((3 : Nat) : Int), _, rfl, rfl, lk, atI_nat (j := 3) rfl, u3⟩
    · exact ⟨q7, _, ((4 : Nat) : Int), _, rfl, rfl, lk, atI_nat (j := 4) rfl, u4⟩
    · exact ⟨q7, _, ((5 : Nat) : Int), _, rfl, rfl, lk, atI_nat (j := 5) rfl, u5⟩
    · exact ⟨q7, _, ((6 : Nat) : Int), _, rfl, rfl, lk, atI_nat (j := 6) rfl, u6⟩

end
end NT
/-! text W9 -/
set_option Elab.async false
set_option linter.all false
set_option maxRecDepth 100000
set_option maxHeartbeats 2000000
namespace NT
open PySem PySem.Spec PyProof.Rows L2 PySem.NumText
/-! ### what the law itself writes -/
def hxs (n : Nat) : List Nat := if n = 0 then [] else hx n
theorem hxs_step {m : Nat} (h : m ≠ 0) : hxs m = hxs (m / 16) ++ [hdg (m % 16)] := by
  unfold hxs
  rw [if_neg h]
  by_cases g : m < 16
  · rw [if_pos (by omega), hx_small g, show m % 16 = m by omega]
    rfl
  · rw [if_neg (by omega), hx_step (by omega)]
def exD (m : Nat) (e : Int) : Nat := m * p2 e * 5 ^ (-e).toNat
theorem pickP {σ : L2.St} {H : Hp} {Q : VK} {b : Bool} (h : Q (.str (SX.S (if b = true then [46] else []))) H) : if b = true then tC (.str (SX.S [46])) σ H Q else tC (.str (SX.S [])) σ H Q := by
  cases b with
  | true => exact iteT h
  | false => exact iteF h
theorem power_eq {D : List Nat} (h : 0 < D.length) (p : Int) {b : Bool} (hb : b = decide (((D.length : Nat) : Int) > 1)) : (((D.take 1 ++ (if b = true then [46] else [])) ++ D.drop 1) ++ [101]) ++ sd p = powerT D p := by
  unfold powerT
  by_cases g : 1 < D.length
  · rw [hb, decide_eq_true (show ((D.length : Nat) : Int) > 1 by omega), if_pos rfl, if_pos g]
    simp
  · rw [hb, decide_eq_false (show ¬ ((D.length : Nat) : Int) > 1 by omega), if_neg Bool.false_ne_true, if_neg g, List.drop_of_length_le (by omega)]
    simp
section
variable {P : Program} {w : World} {K : PySem.W.Frag} {mg : Str → Option Value} {base : Heap}

def sp__law_plain (K : PySem.W.Frag) : Sp := fun vs H Q _ => ∃ (D : List Nat) (q : Int), vs = [.str (SX.S D), .int q] ∧ D.length ≤ 5000 ∧ -5000 ≤ q ∧ q ≤ 5000 ∧ Q (.str (SX.S (plainT D q))) H
theorem ok__law_plain (B : Bs K mg base) : OkD P w K mg base "_law_plain" 1 ["_law_digits", "_law_q"] (sp__law_plain K) := by
  have S : FnScope ["_law_digits", "_law_q"] ["_law_digits", "_law_q"] (defScope (ts 56)) := ⟨rfl, rfl, rfl, by decide +kernel, rfl, by decide +kernel, by decide +kernel⟩
  refine mk_ok B 36 56 rfl rfl S (fun _ _ _ _ _ _ us hl => match us, hl with | [_, _], _ => rfl) (fun vs H Q E h => ?_) (fun f0 cdv A outer s H vs Q E hr h => ?_)
  · obtain ⟨D, z, rfl, h1, h2, h3, q⟩ := h; rfl
  · obtain ⟨D, z, rfl, h1, h2, h3, q⟩ := h
    have scn := S.nd
    refine ⟨_, (pss_cons (ps_if (pt_cmpR op_ge (pv 1) pe_int (nomark _))
        (pss_one (ps_ret (pe_op op_addL (pv 0) (pe_op op_mulS (pe_strS [48] (by decide +kernel)) (pv 1)))))
        pss_nil)
      (pss_cons (ps_set (i := 0) scn rfl (.inl rfl) (pe_op op_addL (pe_op op_mulS (pe_strS [48] (by decide +kernel)) (pe_callB (call_max2 rfl) (by rfl) (B.fre 55) (by decide +kernel) (pa_cons pe_int (pa_cons (pe_op op_sub (pe_op op_sub pe_int (pv 1)) (pe_callB call_lenL (by rfl) (B.fre 54) PySem.boot_len (pa_cons (pv 0) pa_nil))) pa_nil)))) (pv 0)))
      (pss_one (ps_ret (pe_op op_addL (pe_op op_addL (pe_slice sl_S (pv 0) po_none (po_some (pe_op op_add (pe_callB call_lenL (by rfl) (B.fre 54) PySem.boot_len (pa_cons (pv 0) pa_nil)) (pv 1)))) (pe_strS [46] (by decide +kernel))) (pe_slice sl_S (pv 0) (po_some (pe_op op_add (pe_callB call_lenL (by rfl) (B.fre 54) PySem.boot_len (pa_cons (pv 0) pa_nil)) (pv 1))) po_none)))))), ?_⟩
    have flat : ∀ n : Nat, (List.replicate n [48]).flatten = List.replicate n 48 := fun n => by
      induction n with
      | zero => rfl
      | succ n ih => rw [List.replicate_succ, List.flatten_cons, ih, List.replicate_succ]; rfl
    unfold plainT at q
    refine ⟨_, rfl, _, _, rfl, rfl, _, rfl, ifD (fun h => ?_) (fun h => ?_)⟩
    · rw [if_pos h] at q
      refine ⟨_, rfl, _, rfl, [48], z, rfl, rfl, by omega, by decide, by omega, D, _, rfl, rfl, ?_, ?_⟩
      · simp
        omega
      · rw [flat]
        exact q
    rw [if_neg h] at q
    have e1 : (if (1 : Int) - z - ((D.length : Nat) : Int) > 0 then (1 : Int) - z - ((D.length : Nat) : Int) else 0) = (((1 - z).toNat - D.length : Nat) : Int) := by split <;> omega
    refine ⟨_, rfl, _, _, rfl, rfl, _, rfl, D, rfl, by omega, _, _, rfl, rfl, _, _, rfl, ?_⟩
    rw [e1]
    refine ⟨[48], _, rfl, rfl, by omega, by decide, by omega, _, rfl, _, D, rfl, rfl, by simp; omega, ?_⟩
    have ep : (List.replicate ((((1 - z).toNat - D.length : Nat) : Int)).toNat [48]).flatten ++ D = padL D (1 - z).toNat 48 := by
      rw [flat]
      rfl
    rw [ep]
    have hp : (-z).toNat ≤ (padL D (1 - z).toNat 48).length := by
      unfold padL
      rw [List.length_append, List.length_replicate]
      omega
    have hp2 : (padL D (1 - z).toNat 48).length ≤ 10001 := by
      unfold padL
      rw [List.length_append, List.length_replicate]
      omega
    generalize padL D (1 - z).toNat 48 = G at q hp hp2 ⊢
    have e3 : ((G.length : Nat) : Int) + z = ((G.length - (-z).toNat : Nat) : Int) := by omega
    have c1 : cutL G none (some (((G.length : Nat) : Int) + z)) = G.take (G.length - (-z).toNat) := by rw [e3, cut_to]
    have c2 : cutL G (some (((G.length : Nat) : Int) + z)) none = G.drop (G.length - (-z).toNat) := by rw [e3, cut_from]
    refine ⟨_, rfl, _, rfl, G, rfl, by omega, _, rfl, _, _, rfl, rfl, _, rfl, G, rfl, by omega, ?_⟩
    rw [c1]
    refine ⟨_, _, rfl, rfl, by simp; omega, ?_⟩
    refine ⟨_, rfl, _, rfl, G, rfl, by omega, _, rfl, _, _, rfl, rfl, _, rfl, G, rfl, by omega, ?_⟩
    rw [c2]
    refine ⟨_, _, rfl, rfl, by simp; omega, ?_⟩
    rw [List.append_assoc]
    exact q

def sp__law_hex (K : PySem.W.Frag) : Sp := fun vs H Q _ => ∃ n : Nat, vs = [.int (n : Int)] ∧ n < 2 ^ 2000 ∧ Q (.str (SX.S (hx n))) H
theorem ok__law_hex (B : Bs K mg base) : OkD P w K mg base "_law_hex" 1 ["_law_number"] (sp__law_hex K) := by
  have S : FnScope ["_law_number", "_law_found", "_law_left"] ["_law_number"] (defScope (ts 58)) := ⟨rfl, rfl, rfl, by decide +kernel, rfl, by decide +kernel, by decide +kernel⟩
  refine mk_ok B 38 58 rfl rfl S (fun _ _ _ _ _ _ us hl => match us, hl with | [_], _ => rfl) (fun vs H Q E h => ?_) (fun f0 cdv A outer s H vs Q E hr h => ?_)
  · obtain ⟨n, rfl, hn, q⟩ := h; rfl
  · obtain ⟨n, rfl, hn, q⟩ := h
    have scn := S.nd
    refine ⟨_, (pss_cons (ps_par (i := 1) (j := 2) rfl scn rfl rfl (by decide) rfl rfl (pa_cons (pe_strS [] (by decide +kernel)) (pa_cons (pv 0) pa_nil)) (by rfl))
      (pss_cons (ps_while PassesOwn.never (pt_cmpR op_gt (pv 2) pe_int (nomark _))
        (pss_one (ps_par (i := 1) (j := 2) rfl scn rfl rfl (by decide) rfl rfl (pa_cons (pe_op op_addL (pe_ix ix_S (pe_strS [48, 49, 50, 51, 52, 53, 54, 55, 56, 57, 97, 98, 99, 100, 101, 102] (by decide +kernel)) (pe_op op_mod (pe_callTy call_int1 (by rfl) (B.fre 52) (by decide +kernel) (pa_cons (pv 2) pa_nil)) pe_int) (fun _ _ => rfl)) (pv 1)) (pa_cons (pe_op op_fdivW (pv 2) pe_int) pa_nil)) (by rfl))))
      (pss_one (ps_ret (pe_ifExp (pt_cmpR op_ne (pv 1) (pe_strS [] (by decide +kernel)) (nomark _)) (pv 1) (pe_strS [48] (by decide +kernel))))))), ?_⟩
    refine ⟨_, rfl, _, _, rfl, ?_⟩
    refine ⟨fun k σ H2 => ∃ (m : Nat) (F : List Nat), σ = [some (.int (n : Int)), some (.str (SX.S F)), some (.int (m : Int))] ∧ H2 = H ∧ m = k ∧ m < 2 ^ 2000 ∧ F.length ≤ 1000 ∧ hxs m ++ F = hxs n, ⟨n, n, [], rfl, rfl, rfl, hn, by simp, by simp⟩, fun k σ H2 hW => ?_⟩
    obtain ⟨m, F, rfl, rfl, rfl, hm, hF, e⟩ := hW
    have hnl : (hx n).length ≤ 500 := hx_le (by decide) (Nat.lt_of_lt_of_le hn (by decide +kernel))
    have hle : (hxs m ++ F).length ≤ 500 := by
      rw [e]
      unfold hxs
      split
      · simp
      · exact hnl
    refine ⟨_, rfl, _, _, rfl, rfl, _, rfl, ifD (fun h => ?_) (fun h => ?_)⟩
    · have hm0 : m ≠ 0 := by omega
      have hst := hxs_step hm0
      rw [hst] at e hle
      refine ⟨fun σ' H' => σ' = [some (.int (n : Int)), some (.str (SX.S (hdg (m % 16) :: F))), some (.int ((m / 16 : Nat) : Int))] ∧ H' = H2, fun σ' H' hN => ?_, ?_⟩
      · obtain ⟨rfl, rfl⟩ := hN
        refine ⟨m / 16, by omega, m / 16, _, rfl, rfl, rfl, by omega, ?_, by rw [← e]; simp⟩
        rw [List.length_append, List.length_append, List.length_singleton] at hle
        rw [List.length_cons]
        omega
      · have h16 := hdg_at (n := m % 16) (Nat.mod_lt _ (by decide))
        have e16 : (m : Int) % 16 = ((m % 16 : Nat) : Int) := by omega
        refine ⟨_, rfl, .inl ⟨_, rfl, _, _, rfl, rfl, (show (0 : Int) < 16 by decide), HD, m % 16, _, rfl, congrArg V.int e16, by decide, h16, _, rfl, _, _, rfl, rfl, ?_, _, rfl, _, _, rfl, rfl, cdiv (b := 10) (by decide) (by decide), _, _, rfl, ?_, rfl⟩⟩
        · show 1 + F.length ≤ _
          omega
        · show [_, _, some (V.int (_ / _))] = _
          rw [Int.natCast_ediv]
          rfl
    · have hm0 : m = 0 := by omega
      subst hm0
      rw [show hxs 0 = [] from rfl, List.nil_append] at e
      subst e
      unfold hxs
      refine ⟨_, rfl, rfl, _, rfl, ?_⟩
      by_cases hn0 : n = 0
      · subst hn0
        rw [if_pos rfl]
        exact ifN (fun y => absurd rfl y) (fun _ => q)
      · rw [if_neg hn0]
        exact ifN (fun _ => ⟨_, rfl, q⟩) (fun y => absurd (S_inj y) (hx_ne n))

def sp__law_hex_due (K : PySem.W.Frag) : Sp := fun vs H Q _ => ∃ (a : Addr) (f : Fm) (c : Nat), vs = [.ref a, .int (c : Int)] ∧ Frm K H a f ∧ FB f ∧ c ≤ f.N ∧ ∀ H', Same H H' → Q (.str (SX.S (hexDue f c))) H'
theorem ok__law_hex_due (B : Bs K mg base) : OkD P w K mg base "_law_hex_due" 4 ["_law_form_here", "_law_code"] (sp__law_hex_due K) := by
  have G_value_of := ok_value_of (P := P) (w := w) B
  have G_count_of := ok_count_of (P := P) (w := w) B
  have G__law_hex := ok__law_hex (P := P) (w := w) B
  have S : FnScope ["_law_form_here", "_law_code", "_law_m", "_law_e"] ["_law_form_here", "_law_code"] (defScope (ts 59)) := ⟨rfl, rfl, rfl, by decide +kernel, rfl, by decide +kernel, by decide +kernel⟩
  refine mk_ok B 39 59 rfl rfl S (fun _ _ _ _ _ _ us hl => match us, hl with | [_, _], _ => rfl) (fun vs H Q E h => ?_) (fun f0 cdv A outer s H vs Q E hr h => ?_)
  · obtain ⟨a, f, c, rfl, hF, fb, hc, q⟩ := h; rfl
  · obtain ⟨a, f, c, rfl, hF, fb, hc, q⟩ := h
    have scn := S.nd
    refine ⟨_, (pss_cons (ps_if (pt_cmpR op_eq (pv 1) (pe_callD G_count_of (hr.mono (by decide)) (by rfl) (pa_cons (pv 0) pa_nil)) (nomark _))
        (pss_one (ps_ret (pe_strS [105, 110, 102] (by decide +kernel))))
        pss_nil)
      (pss_cons (ps_asg (pe_callD G_value_of (hr.mono (by decide)) (by rfl) (pa_cons (pv 0) (pa_cons (pv 1) pa_nil))) (pg_tup rfl (pgs_cons (pg_name (i := 2) scn rfl (.inl rfl)) (pgs_cons (pg_name (i := 3) scn rfl (.inl rfl)) pgs_nil))))
      (pss_cons (ps_if (pt_cmpR op_eq (pv 2) pe_int (nomark _))
        (pss_one (ps_ret (pe_strS [48, 120, 48, 112, 48] (by decide +kernel))))
        pss_nil)
      (pss_cons (ps_while PassesOwn.never (pt_cmpR op_eq (pe_op op_mod (pe_callTy call_int1 (by rfl) (B.fre 52) (by decide +kernel) (pa_cons (pv 2) pa_nil)) pe_int) pe_int (nomark _))
        (pss_one (ps_par (i := 2) (j := 3) rfl scn rfl rfl (by decide) rfl rfl (pa_cons (pe_op op_fdivW (pv 2) pe_int) (pa_cons (pe_op op_add (pv 3) pe_int) pa_nil)) (by rfl))))
      (pss_one (ps_ret (pe_op op_addL (pe_op op_addL (pe_op op_addL (pe_strS [48, 120] (by decide +kernel)) (pe_callD G__law_hex (hr.mono (by decide)) (by rfl) (pa_cons (pv 2) pa_nil))) (pe_strS [112] (by decide +kernel))) (pe_callTy (call_strI rfl B.nd) (by rfl) (B.fre 58) (by decide +kernel) (pa_cons (pv 3) pa_nil))))))))), ?_⟩
    have b1 := fb.p
    have b2 := fb.l
    have b3 := fb.h
    refine ⟨_, rfl, _, rfl, a, f, rfl, hF, fb.ok, by omega, by omega, rfl, _, rfl, ifD (fun h => ?_) (fun h => ?_)⟩
    · have e : c = f.N := Int.ofNat.inj (V.int.inj h)
      have q' := q _ (Same.refl H)
      unfold hexDue at q'
      rw [if_pos e] at q'
      exact q'
    have hcN : c ≠ f.N := fun z => h (congrArg V.int (congrArg Int.ofNat z))
    unfold hexDue at q
    rw [if_neg hcN] at q
    have hm : f.m c < 2 ^ 400 := Nat.lt_of_lt_of_le (f.m_lt fb.ok c) (Nat.pow_le_pow_right (by decide) (by omega))
    have he1 := f.e_lo c
    have he2 := f.e_hi fb.ok (show c < f.N by omega)
    refine ⟨_, rfl, _, rfl, a, f, c, rfl, hF, fb, by omega, fun p1 H1 s1 hp1 => ?_⟩
    refine ⟨p1, _, rfl, .inl (.inl hp1), rfl, _, _, rfl, _, _, rfl, rfl, ?_⟩
    generalize f.m c = m0 at q hm
    generalize f.e c = e0 at q he1 he2
    refine ⟨_, rfl, rfl, _, rfl, ifD (fun h => ?_) (fun h => ?_)⟩
    · have e : m0 = 0 := Int.ofNat.inj (V.int.inj h)
      subst e
      have q' := q H1 s1
      unfold hexT at q'
      rw [half2_end (by omega), if_neg (by omega), show hx (0, e0).fst = [48] from hx_small (show 0 < 16 by decide), show sd 0 = [48] by decide +kernel] at q'
      exact q'
    have hm0 : m0 ≠ 0 := fun z => h (congrArg V.int (congrArg Int.ofNat z))
    refine ⟨fun k σ H2 => ∃ (m : Nat) (e : Int), σ = [some (.ref a), some (.int (c : Int)), some (.int (m : Int)), some (.int e)] ∧ H2 = H1 ∧ m = k ∧ m < 2 ^ 400 ∧ half2 m e = half2 m0 e0 ∧ e0 ≤ e ∧ m * 2 ^ (e - e0).toNat = m0, ⟨m0, m0, e0, rfl, rfl, rfl, hm, rfl, Int.le_refl _, by simp⟩, fun k σ H2 hW => ?_⟩
    obtain ⟨m, e, rfl, rfl, rfl, hk, eq, he3, he4⟩ := hW
    have hmz : m ≠ 0 := fun z => hm0 (by rw [← he4, z, Nat.zero_mul])
    have h5 : 2 ^ (e - e0).toNat < 2 ^ 400 := Nat.lt_of_le_of_lt (Nat.le_mul_of_pos_left _ (Nat.pos_of_ne_zero hmz)) (he4 ▸ hm)
    have h6 := (Nat.pow_lt_pow_iff_right (by decide)).mp h5
    refine ⟨_, rfl, .inl ⟨_, rfl, _, _, rfl, rfl, (show (0 : Int) < 2 by decide), rfl, _, rfl, ifD (fun h2 => ?_) (fun h2 => ?_)⟩⟩
    · have h3 : m % 2 = 0 := by
        have := V.int.inj h2
        omega
      refine ⟨fun σ' H' => σ' = [some (.ref a), some (.int (c : Int)), some (.int ((m / 2 : Nat) : Int)), some (.int (e + 1))] ∧ H' = H2, fun σ' H' hN => ?_, ?_⟩
      · obtain ⟨rfl, rfl⟩ := hN
        exact ⟨m / 2, by omega, m / 2, e + 1, rfl, rfl, rfl, by omega, by rw [← eq, half2_go h3 hmz], by omega, by rw [show (e + 1 - e0).toNat = (e - e0).toNat + 1 by omega, Nat.pow_succ, Nat.mul_comm (2 ^ _) 2, ← Nat.mul_assoc, show m / 2 * 2 = m by omega]; exact he4⟩
      · refine ⟨_, rfl, _, _, rfl, rfl, cdiv (b := 10) (by decide) (by decide), _, rfl, _, _, rfl, rfl, _, _, rfl, ?_, rfl⟩
        rw [Int.natCast_ediv]
        rfl
    · have hn : ¬ (m % 2 = 0 ∧ m ≠ 0) := fun z => h2 (congrArg V.int (show (m : Int) % 2 = 0 by omega))
      have q' := q H2 s1
      rw [half2_end hn] at eq
      unfold hexT at q'
      rw [← eq] at q'
      have q'' : Q (.str (SX.S (48 :: 120 :: (hx m ++ 112 :: sd e)))) H2 := by
        have e9 : (if (m, e).fst ≠ 0 then (m, e).snd else 0) = e := if_pos hmz
        rw [e9] at q'
        exact q'
      have hxl := hx_short hk
      have hsl := sd_len (z := e) (by omega)
      refine ⟨_, rfl, m, rfl, Nat.lt_of_lt_of_le hk (Nat.pow_le_pow_right (by decide) (by decide)), [48, 120], _, rfl, rfl, by simp; omega, _, _, rfl, rfl, by simp; omega, _, rfl, e, rfl, Nat.lt_of_lt_of_le (show e.natAbs < 10 ^ 5 by omega) (Nat.pow_le_pow_right (by decide) (by decide)), _, _, rfl, rfl, by simp; omega, ?_⟩
      simpa using q''

def sp__law_exact (K : PySem.W.Frag) : Sp := fun vs H Q _ => ∃ (m : Nat) (e : Int), vs = [.int (m : Int), .int e] ∧ m < 2 ^ 200 ∧ -1300 ≤ e ∧ e ≤ 1300 ∧ ∀ p H', Same H H' → H' p = some (.lst [.int (exD m e : Nat), .int (if e < 0 then e else 0)]) → Q (.ref p) H'
theorem ok__law_exact (B : Bs K mg base) : OkD P w K mg base "_law_exact" 1 ["_law_m", "_law_e"] (sp__law_exact K) := by
  have S : FnScope ["_law_m", "_law_e", "_law_d", "_law_k"] ["_law_m", "_law_e"] (defScope (ts 62)) := ⟨rfl, rfl, rfl, by decide +kernel, rfl, by decide +kernel, by decide +kernel⟩
  refine mk_ok B 42 62 rfl rfl S (fun _ _ _ _ _ _ us hl => match us, hl with | [_, _], _ => rfl) (fun vs H Q E h => ?_) (fun f0 cdv A outer s H vs Q E hr h => ?_)
  · obtain ⟨m, e, rfl, hm, h1, h2, q⟩ := h; rfl
  · obtain ⟨m, e, rfl, hm, h1, h2, q⟩ := h
    have scn := S.nd
    refine ⟨_, (pss_cons (ps_set (i := 2) scn rfl (.inl rfl) (pe_op op_shlW (pv 0) (pe_callB (call_max2 rfl) (by rfl) (B.fre 55) (by decide +kernel) (pa_cons pe_int (pa_cons (pv 1) pa_nil)))))
      (pss_cons (ps_for PassesOwn.never rfl (pi_range1 (by rfl) (B.fre 57) (pa_cons (pe_op op_sub pe_int (pv 1)) pa_nil)) (pg_name (i := 3) scn rfl (.inl rfl))
        (pss_one (ps_set (i := 2) scn rfl (.inl rfl) (pe_op op_mulX (pv 2) pe_int))))
      (pss_one (ps_ret (pe_lst (pa_cons (pv 2) (pa_cons (pe_callB (call_min2 rfl) (by rfl) (B.fre 56) (by decide +kernel) (pa_cons pe_int (pa_cons (pv 1) pa_nil))) pa_nil))))))), ?_⟩
    have e1 : (if e > 0 then e else 0) = ((e.toNat : Nat) : Int) := by split <;> omega
    refine ⟨_, rfl, _, rfl, _, _, rfl, _, _, rfl, rfl, ?_⟩
    rw [e1]
    refine ⟨cshl (n := 200) (by rw [nab]; exact hm) (by omega) (by omega), ?_⟩
    refine ⟨_, rfl, _, _, rfl, rfl, _, rfl, by omega, by omega, ?_⟩
    have e2 : (0 - e).toNat = (-e).toNat := by omega
    rw [e2]
    have hpe : m * p2 e < 2 ^ 1600 := lt_more (mul_lt2 (b := 1301) hm (p2_lt (by omega) (by decide)))
    have hsh : (m : Int) * 2 ^ ((e.toNat : Nat) : Int).toNat = ((m * p2 e : Nat) : Int) := shl_nat m
    refine for_range (lo := 0) (n := (-e).toNat) (fun i σ H2 => ∃ v, σ = [some (.int (m : Int)), some (.int e), some (.int ((m * p2 e * 5 ^ i : Nat) : Int)), v] ∧ H2 = H) ⟨none, ?_, rfl⟩ (fun i σ H2 hi hP => ?_) (fun σ H2 hP => ?_)
    · show [_, _, some (V.int (_ * _)), _] = _
      rw [hsh]
      simp
    · obtain ⟨v, rfl, rfl⟩ := hP
      have h5 : m * p2 e * 5 ^ i < 2 ^ 9000 := lt_more (mul_lt2 (b := 3 * 1301) hpe (Nat.lt_of_le_of_lt (Nat.pow_le_pow_left (show 5 ≤ 2 ^ 3 by decide) i) (by rw [← Nat.pow_mul]; exact Nat.pow_lt_pow_right (by decide) (by omega))))
      refine ⟨_, rfl, _, _, rfl, rfl, cmulN (n := m * p2 e * 5 ^ i) (m := 5) (b := 3) h5 (by decide), some (.int (0 + (i : Int))), ?_, rfl⟩
      show [_, _, some (V.int (_ * _)), _] = _
      rw [Nat.pow_succ, ← Nat.mul_assoc]
      rfl
    · obtain ⟨v, rfl, rfl⟩ := hP
      refine ⟨_, rfl, _, rfl, _, _, rfl, l2, fun p hp => q p _ (same_new hp) ?_⟩
      rw [upd_same]
      rfl

def sp__law_due (K : PySem.W.Frag) : Sp := fun vs H Q _ => ∃ (a : Addr) (f : Fm) (W : Way) (c : Nat) (k : Kd), vs = [.ref a, .str W.nm, .int (c : Int), .str k.nm] ∧ Frm K H a f ∧ GF f ∧ c ≤ f.N ∧ ∀ H', Same H H' → Q (.str (SX.S (dueT f W c k))) H'
theorem ok__law_due (B : Bs K mg base) : OkD P w K mg base "_law_due" 6 ["_law_form_here", "_law_way", "_law_code", "_law_kind"] (sp__law_due K) := by
  have G_shortest := ok_shortest (P := P) (w := w) B
  have G_count_of := ok_count_of (P := P) (w := w) B
  have G__law_plain := ok__law_plain (P := P) (w := w) B
  have S : FnScope ["_law_form_here", "_law_way", "_law_code", "_law_kind", "_law_digits", "_law_first", "_law_d", "_law_q"] ["_law_form_here", "_law_way", "_law_code", "_law_kind"] (defScope (ts 57)) := ⟨rfl, rfl, rfl, by decide +kernel, rfl, by decide +kernel, by decide +kernel⟩
  refine mk_ok B 37 57 rfl rfl S (fun _ _ _ _ _ _ us hl => match us, hl with | [_, _, _, _], _ => rfl) (fun vs H Q E h => ?_) (fun f0 cdv A outer s H vs Q E hr h => ?_)
  · obtain ⟨a, f, W, c, k, rfl, hF, g, hc, q⟩ := h; rfl
  · obtain ⟨a, f, W, c, k, rfl, hF, g, hc, q⟩ := h
    have scn := S.nd
    refine ⟨_, (pss_cons (ps_if (pt_cmpR op_eq (pv 2) (pe_callD G_count_of (hr.mono (by decide)) (by rfl) (pa_cons (pv 0) pa_nil)) (nomark _))
        (pss_one (ps_ret (pe_strS [105, 110, 102] (by decide +kernel))))
        pss_nil)
      (pss_cons (ps_asg (pe_callD G_shortest (hr.mono (by decide)) (by rfl) (pa_cons (pv 0) (pa_cons (pv 1) (pa_cons (pv 2) pa_nil)))) (pg_tup rfl (pgs_cons (pg_name (i := 6) scn rfl (.inl rfl)) (pgs_cons (pg_name (i := 7) scn rfl (.inl rfl)) pgs_nil))))
      (pss_cons (ps_set (i := 4) scn rfl (.inl rfl) (pe_callTy (call_strI rfl B.nd) (by rfl) (B.fre 58) (by decide +kernel) (pa_cons (pv 6) pa_nil)))
      (pss_cons (ps_set (i := 5) scn rfl (.inl rfl) (pe_op op_sub (pe_op op_add (pv 7) (pe_callB call_lenL (by rfl) (B.fre 54) PySem.boot_len (pa_cons (pv 4) pa_nil))) pe_int))
      (pss_cons (ps_if (PW.pt (pw_or (pt_cmpR op_eq (pv 3) pe_str (nomark _)) (pw_or1 (PW.pt (pw_and (pt_cmpR op_eq (pv 3) pe_str (nomark _)) (pw_and1 (pt_chain op_le op_lt (pe_un un_neg pe_int) (pv 5) pe_int)))))))
        (pss_one (ps_ret (pe_callD G__law_plain (hr.mono (by decide)) (by rfl) (pa_cons (pv 4) (pa_cons (pv 7) pa_nil)))))
        pss_nil)
      (pss_one (ps_ret (pe_op op_addL (pe_op op_addL (pe_op op_addL (pe_op op_addL (pe_slice sl_S (pv 4) po_none (po_some pe_int)) (pe_ifExp (pt_cmpR op_gt (pe_callB call_lenL (by rfl) (B.fre 54) PySem.boot_len (pa_cons (pv 4) pa_nil)) pe_int (nomark _)) (pe_strS [46] (by decide +kernel)) (pe_strS [] (by decide +kernel)))) (pe_slice sl_S (pv 4) (po_some pe_int) po_none)) (pe_strS [101] (by decide +kernel))) (pe_callTy (call_strI rfl B.nd) (by rfl) (B.fre 58) (by decide +kernel) (pa_cons (pv 5) pa_nil)))))))))), ?_⟩
    have fb := g.fb
    have b1 := fb.p
    have b2 := fb.l
    have b3 := fb.h
    refine ⟨_, rfl, _, rfl, a, f, rfl, hF, fb.ok, by omega, by omega, rfl, _, rfl, ifD (fun h => ?_) (fun h => ?_)⟩
    · have e : c = f.N := Int.ofNat.inj (V.int.inj h)
      have q' := q _ (Same.refl H)
      unfold dueT at q'
      rw [if_pos e] at q'
      exact q'
    have hcN : c ≠ f.N := fun z => h (congrArg V.int (congrArg Int.ofNat z))
    unfold dueT at q
    rw [if_neg hcN] at q
    have hs := short_b g W (show c < f.N by omega)
    generalize hsh : f.short W c = r at q hs
    obtain ⟨d, z⟩ := r
    have q' : ∀ H', Same H H' → Q (.str (SX.S (decT k d z))) H' := q
    clear q
    have hs' : ShB d z := hs
    have hd : (ds d).length ≤ 1102 := by
      have := hs'.len
      omega
    have hz1 := hs'.lo
    have hz2 := hs'.hi
    have hdp := ds_pos d
    refine ⟨_, rfl, _, rfl, _, rfl, a, f, W, c, rfl, hF, g, by omega, fun p1 H1 s1 hp1 => ?_⟩
    rw [hsh] at hp1
    refine ⟨p1, _, rfl, .inl (.inl hp1), rfl, _, _, rfl, _, _, rfl, rfl, ?_⟩
    refine ⟨_, rfl, _, rfl, by rw [nab]; exact Nat.lt_trans hs'.dl (Nat.pow_lt_pow_right (by decide) (by decide)), ?_⟩
    show gName 4 (V.str (SX.S (sd (d : Int)))) _ _ _
    rw [sd_nat]
    refine ⟨_, rfl, _, rfl, ds d, rfl, by omega, _, _, rfl, rfl, _, _, rfl, rfl, ?_⟩
    have pw : k.far (firstP d z) → Q (.str (SX.S (powerT (ds d) (firstP d z)))) H1 := fun h2 => by
      have := q' H1 s1
      unfold decT at this
      rw [if_pos h2] at this
      exact this
    have pl : ¬ k.far (firstP d z) → Q (.str (SX.S (plainT (ds d) z))) H1 := fun h2 => by
      have := q' H1 s1
      unfold decT at this
      rw [if_neg h2] at this
      exact this
    have hsl := sd_len (z := firstP d z) (by unfold firstP; omega)
    have A : ¬ k.far (firstP d z) → ∀ σ : L2.St, σ = [some (.ref a), some (.str W.nm), some (.int (c : Int)), some (.str k.nm), some (.str (SX.S (ds d))), some (.int (firstP d z)), some (.int (d : Int)), some (.int z)] → tCall (sp__law_plain K) [] E0 (tCons (tVar 4) (tCons (tVar 7) tNil)) σ H1 Q := fun h2 σ e => by
      subst e
      exact ⟨_, rfl, _, rfl, ds d, z, rfl, by omega, by omega, by omega, pl h2⟩
    have cutA : cutL (ds d) none (some 1) = (ds d).take 1 := cut_to (ds d) 1
    have cutB : cutL (ds d) (some 1) none = (ds d).drop 1 := cut_from (ds d) 1
    have hfp : (firstP d z).natAbs < 10 ^ 4300 := Nat.lt_of_lt_of_le (show (firstP d z).natAbs < 10 ^ 5 by unfold firstP; omega) (Nat.pow_le_pow_right (by decide) (by decide))
    cases k with
    | plain =>
      refine ⟨_, rfl, rfl, _, rfl, ifD (fun _ => ?_) (fun h => absurd rfl h)⟩
      exact A (fun y => y.elim nofun fun y => nomatch y.1) _ rfl
    | power =>
      refine ⟨_, rfl, rfl, _, rfl, ifD (fun h => absurd h (by decide)) (fun _ => ?_)⟩
      refine ⟨_, rfl, rfl, _, rfl, ifD (fun h => absurd h (by decide)) (fun _ => ?_)⟩
      refine ⟨_, rfl, _, rfl, ds d, rfl, by omega, ?_⟩
      rw [cutA]
      refine ⟨_, rfl, ds d, rfl, by omega, _, _, rfl, rfl, _, rfl, pickP ?_⟩
      refine ⟨_, _, rfl, rfl, by simp; split <;> simp <;> omega, _, rfl, _, rfl, ds d, rfl, by omega, ?_⟩
      rw [cutB]
      refine ⟨_, _, rfl, rfl, by simp; split <;> simp <;> omega, _, _, rfl, rfl, by simp; split <;> simp <;> omega, _, rfl, firstP d z, rfl, hfp, _, _, rfl, rfl, by simp; split <;> simp <;> omega, ?_⟩
      rw [power_eq hdp _ rfl]
      exact pw (.inl rfl)
    | auto =>
      refine ⟨_, rfl, rfl, _, rfl, ifD (fun h => absurd h (by decide)) (fun _ => ?_)⟩
      refine ⟨_, rfl, rfl, _, rfl, ifD (fun _ => ?_) (fun h => absurd rfl h)⟩
      refine ⟨_, rfl, _, rfl, _, _, rfl, rfl, _, rfl, ifD (fun g1 => ?_) (fun g1 => ?_)⟩
      · refine ⟨_, _, rfl, rfl, _, rfl, ifD (fun g2 => ?_) (fun g2 => ?_)⟩
        · exact A (fun y => y.elim nofun fun y => y.2 ⟨g1, g2⟩) _ rfl
        · refine ⟨_, rfl, _, rfl, ds d, rfl, by omega, ?_⟩
          rw [cutA]
          refine ⟨_, rfl, ds d, rfl, by omega, _, _, rfl, rfl, _, rfl, pickP ?_⟩
          refine ⟨_, _, rfl, rfl, by simp; split <;> simp <;> omega, _, rfl, _, rfl, ds d, rfl, by omega, ?_⟩
          rw [cutB]
          refine ⟨_, _, rfl, rfl, by simp; split <;> simp <;> omega, _, _, rfl, rfl, by simp; split <;> simp <;> omega, _, rfl, firstP d z, rfl, hfp, _, _, rfl, rfl, by simp; split <;> simp <;> omega, ?_⟩
          rw [power_eq hdp _ rfl]
          exact pw (.inr ⟨rfl, fun y => g2 y.2⟩)
      · refine ⟨_, rfl, ?_⟩
        refine ⟨_, rfl, _, rfl, ds d, rfl, by omega, ?_⟩
        rw [cutA]
        refine ⟨_, rfl, ds d, rfl, by omega, _, _, rfl, rfl, _, rfl, pickP ?_⟩
        refine ⟨_, _, rfl, rfl, by simp; split <;> simp <;> omega, _, rfl, _, rfl, ds d, rfl, by omega, ?_⟩
        rw [cutB]
        refine ⟨_, _, rfl, rfl, by simp; split <;> simp <;> omega, _, _, rfl, rfl, by simp; split <;> simp <;> omega, _, rfl, firstP d z, rfl, hfp, _, _, rfl, rfl, by simp; split <;> simp <;> omega, ?_⟩
        rw [power_eq hdp _ rfl]
        exact pw (.inr ⟨rfl, fun y => g1 y.1⟩)

end
end NT
/-! text M5 -/
set_option Elab.async false
set_option linter.all false
set_option maxRecDepth 100000
set_option maxHeartbeats 1000000
namespace NT
open PySem PySem.NumText L2
/-! ### reading back -/
theorem dig_in {c : Nat} (h : 48 ≤ c ∧ c ≤ 57) : c ∈ [48, 49, 50, 51, 52, 53, 54, 55, 56, 57] := by
  simp only [List.mem_cons, List.mem_nil_iff, or_false]
  omega
theorem no_point : 46 ∉ [48, 49, 50, 51, 52, 53, 54, 55, 56, 57] := by decide
theorem sd_no (z : Int) : ∀ c ∈ sd z, c ≠ 120 := fun c hc => by
  unfold sd at hc
  have := ds_dig z.natAbs
  split at hc
  · rcases List.mem_cons.mp hc with h | h
    · omega
    · have := this c h
      omega
  · have := this c hc
    omega
theorem no_x {Z : List Nat} (h : ∀ c ∈ Z, c ≠ 120) : Z.take 2 ≠ [48, 120] := fun e => by
  have : 120 ∈ Z.take 2 := by rw [e]; simp
  exact h _ (List.mem_of_mem_take this) rfl
def Tail (R : List Nat) (e : Int) : Prop := (R = [] ∧ e = 0) ∨ (R = 101 :: sd e ∧ e.natAbs ≤ 1200)
theorem Tail.no {R : List Nat} {e : Int} (h : Tail R e) : ∀ c ∈ R, c ≠ 120 := fun c hc => by
  rcases h with ⟨h, _⟩ | ⟨h, _⟩
  · rw [h] at hc
    cases hc
  · rw [h] at hc
    rcases List.mem_cons.mp hc with h | h
    · omega
    · exact sd_no e c h
theorem Tail.stop {R : List Nat} {e : Int} (h : Tail R e) : R = [] ∨ ∃ c r, R = c :: r ∧ c ∉ [48, 49, 50, 51, 52, 53, 54, 55, 56, 57] ∧ c ≠ 46 := by
  rcases h with ⟨h, _⟩ | ⟨h, _⟩
  · exact .inl h
  · exact .inr ⟨101, _, h, by decide, by decide⟩
theorem drop_tail (X R : List Nat) : (X ++ R).drop ((X ++ R).length - R.length) = R := by simp
theorem isDec_whole {A R : List Nat} {e : Int} (h0 : A ≠ []) (hA : AllDigits A) (hl : A.length ≤ 1300) (hR : Tail R e) : IsDec (A ++ R) (digitsVal A) e := by
  refine ⟨⟨A, R, none, e, dgs_whole no_point (fun c hc => dig_in (hA c hc)) hl hR.stop, h0, hA, hl, by simp, by simp, hR, rfl, by show e = e - 0; omega⟩, ?_, no_x fun c hc => ?_⟩
  · cases A with
    | nil => exact absurd rfl h0
    | cons c r => exact ⟨c, _, rfl, hA c (by simp)⟩
  · rcases List.mem_append.mp hc with h | h
    · have := hA c h
      omega
    · exact hR.no c h
theorem isDec_point {A B R : List Nat} {e : Int} (h0 : A ≠ []) (hA : AllDigits (A ++ B)) (hl : (A ++ B).length ≤ 1300) (hR : Tail R e) : IsDec (A ++ 46 :: (B ++ R)) (digitsVal (A ++ B)) (e - (B.length : Nat)) := by
  refine ⟨⟨A ++ B, R, some A.length, e, dgs_point no_point (fun c hc => dig_in (hA c hc)) hl ?_, by simp [h0], hA, hl, by simp; omega, ?_, hR, rfl, by show e - ((B.length : Nat) : Int) = e - (((A ++ B).length : Int) - (A.length : Int)); rw [List.length_append]; omega⟩, ?_, no_x fun c hc => ?_⟩
  · rcases hR.stop with h | ⟨c, r, h1, h2, _⟩
    · exact .inl h
    · exact .inr ⟨c, r, h1, h2⟩
  · have e2 : A ++ 46 :: (B ++ R) = (A ++ 46 :: B) ++ R := by simp
    rw [e2]
    exact drop_tail _ R
  · cases A with
    | nil => exact absurd rfl h0
    | cons c r => exact ⟨c, _, rfl, hA c (by simp)⟩
  · rcases List.mem_append.mp hc with h | h
    · have := hA c (List.mem_append_left _ h)
      omega
    · rcases List.mem_cons.mp h with h | h
      · omega
      · rcases List.mem_append.mp h with h | h
        · have := hA c (List.mem_append_right _ h)
          omega
        · exact hR.no c h
theorem isDec_exp {x : Nat} {e : Int} (h : (ds x).length ≤ 1300) (he : e.natAbs ≤ 1200) : IsDec (ds x ++ 101 :: sd e) x e := by
  have := isDec_whole (ds_ne x) (ds_dig x) h (.inr ⟨rfl, he⟩ : Tail (101 :: sd e) e)
  rw [ds_val] at this
  exact this
theorem all_app {A B : List Nat} (hA : AllDigits A) (hB : AllDigits B) : AllDigits (A ++ B) := fun c hc => (List.mem_append.mp hc).elim (hA c) (hB c)
theorem all_zeros (k : Nat) : AllDigits (List.replicate k 48) := fun c hc => by
  have := List.eq_of_mem_replicate hc
  omega
theorem val_tail (a : List Nat) (k : Nat) : digitsVal (a ++ List.replicate k 48) = digitsVal a * 10 ^ k := by
  have h := val_zeros k []
  rw [List.append_nil] at h
  rw [val_app, h, List.length_replicate]
  show _ + 0 = _
  rfl
/-- the two ways in which a decimal is read back -/
inductive Back (d : Nat) (q : Int) : Nat → Int → Prop where
  | own : Back d q d q
  | whole (h : 0 ≤ q) : Back d q (d * 10 ^ q.toNat) 0
theorem isDec_plain {d : Nat} {q : Int} (h : ShB d q) : ∃ n k, IsDec (plainT (ds d) q) n k ∧ Back d q n k := by
  have h1 := h.len
  have h2 := h.lo
  have h3 := ds_pos d
  unfold plainT
  by_cases hq : 0 ≤ q
  · rw [if_pos hq]
    have := isDec_whole (A := ds d ++ List.replicate q.toNat 48) (R := []) (e := 0) (by simp [ds_ne d]) (all_app (ds_dig d) (all_zeros _)) (by simp; omega) (.inl ⟨rfl, rfl⟩)
    rw [List.append_nil, val_tail, ds_val] at this
    exact ⟨_, _, this, .whole hq⟩
  · rw [if_neg hq]
    have e1 : (padL (ds d) (1 - q).toNat 48).length = max (1 - q).toNat (ds d).length := by
      unfold padL
      rw [List.length_append, List.length_replicate]
      omega
    have e2 : digitsVal (padL (ds d) (1 - q).toNat 48) = d := by
      unfold padL
      rw [val_zeros, ds_val]
    have e3 : AllDigits (padL (ds d) (1 - q).toNat 48) := all_app (all_zeros _) (ds_dig d)
    generalize padL (ds d) (1 - q).toNat 48 = G at e1 e2 e3
    have e4 : G.take (G.length - (-q).toNat) ++ G.drop (G.length - (-q).toNat) = G := List.take_append_drop _ _
    have := isDec_point (A := G.take (G.length - (-q).toNat)) (B := G.drop (G.length - (-q).toNat)) (R := []) (e := 0) (fun z => by
      have := congrArg List.length z
      rw [List.length_take, List.length_nil] at this
      omega) (by rw [e4]; exact e3) (by rw [e4]; omega) (.inl ⟨rfl, rfl⟩)
    rw [e4, e2, List.append_nil] at this
    have e5 : (0 : Int) - ((G.drop (G.length - (-q).toNat)).length : Nat) = q := by
      rw [List.length_drop]
      omega
    rw [e5] at this
    exact ⟨_, _, this, .own⟩
theorem isDec_power {d : Nat} {q : Int} (h : ShB d q) : ∃ n k, IsDec (powerT (ds d) (firstP d q)) n k ∧ Back d q n k := by
  have h1 := h.len
  have h2 := h.lo
  have h4 := h.hi
  have h3 := ds_pos d
  have ht : Tail (101 :: sd (firstP d q)) (firstP d q) := .inr ⟨rfl, by unfold firstP; omega⟩
  have e4 : (ds d).take 1 ++ (ds d).drop 1 = ds d := List.take_append_drop _ _
  unfold powerT
  by_cases g : 1 < (ds d).length
  · rw [if_pos g]
    have := isDec_point (A := (ds d).take 1) (B := (ds d).drop 1) (fun z => by
      have := congrArg List.length z
      rw [List.length_take, List.length_nil] at this
      omega) (by rw [e4]; exact ds_dig d) (by rw [e4]; omega) ht
    rw [e4, ds_val, List.length_drop] at this
    have e5 : firstP d q - (((ds d).length - 1 : Nat) : Int) = q := by unfold firstP; omega
    rw [e5] at this
    refine ⟨_, _, ?_, .own⟩
    have e6 : (ds d).take 1 ++ 46 :: (ds d).drop 1 ++ 101 :: sd (firstP d q) = (ds d).take 1 ++ 46 :: ((ds d).drop 1 ++ 101 :: sd (firstP d q)) := by simp
    rw [e6]
    exact this
  · rw [if_neg g]
    have := isDec_whole (ds_ne d) (ds_dig d) (by omega) ht
    rw [ds_val] at this
    have e5 : firstP d q = q := by unfold firstP; omega
    refine ⟨d, q, ?_, .own⟩
    have e6 : (ds d).take 1 = ds d := List.take_of_length_le (by omega)
    rw [e6, List.append_nil]
    have e7 : IsDec (ds d ++ 101 :: sd (firstP d q)) d (firstP d q) := this
    rw [e5] at e7 ⊢
    exact e7
theorem isDec_dec {d : Nat} {q : Int} (h : ShB d q) (k : Kd) : ∃ n z, IsDec (decT k d q) n z ∧ Back d q n z := by
  unfold decT
  split
  · exact isDec_power h
  · exact isDec_plain h
theorem reads_back {f : Fm} (g : GF f) (W : Way) {c n : Nat} {z : Int} (hc : c < f.N) (h : Back (f.short W c).1 (f.short W c).2 n z) : Reads f W [.int 10, .int (n : Int), .int z] c := by
  have hs := short_b g W hc
  have ok := g.fb.ok
  have e : f.readD W (f.short W c).1 (f.short W c).2 = c := by
    by_cases h0 : c = 0
    · have e2 : f.short W c = (0, 0) := by unfold Fm.short; rw [if_pos h0]
      rw [e2, h0]
      exact f.read_zero ok W 0
    · exact (f.short_spec ok W hc h0).code
  generalize f.short W c = r at *
  obtain ⟨d, q⟩ := r
  have hs' : ShB d q := hs
  have e' : f.readD W d q = c := e
  have h' : Back d q n z := h
  have hn := hs'.num
  have hn2 : d * 10 ^ q.toNat < 2 ^ 4000 := Nat.lt_trans hn ten1101
  have h1 := hs'.lo
  have h2 := hs'.hi
  cases h' with
  | own =>
    have := Reads.dec (f := f) (W := W) (n := n) (k := z) hn2 (ten_le (by omega)) (by omega) (by omega)
    rw [e'] at this
    exact this
  | whole hq =>
    have := Reads.dec (f := f) (W := W) (n := d * 10 ^ q.toNat) (k := 0) (by simpa using hn2) (by decide) (by omega) (by omega)
    have s := same_shift d 0 q.toNat
    rw [f.readD_same ok W s, show (0 : Int) + (q.toNat : Int) = q by omega, e'] at this
    exact this
/-! ### hexadecimal -/
theorem no_point_hex : 46 ∉ HD := by decide
theorem isHex_whole {x : Nat} {e : Int} (hl : (hx x).length ≤ 300) (he : e.natAbs ≤ 1400) : IsHexT (48 :: 120 :: (hx x ++ 112 :: sd e)) x e := by
  refine ⟨⟨hx x, hx x ++ 112 :: sd e, none, e, rfl, dgs_whole no_point_hex (hx_in x) hl (.inr ⟨112, _, rfl, by decide, by decide⟩), hx_ne x, fun c hc => hd_hex (hx_in x c hc), hl, drop_tail _ _, he, by show (0 : Int).natAbs ≤ 1000; decide, (hx_val x).symm, by show e = e - 4 * 0; omega⟩⟩
theorem isHex_point {A B : List Nat} {e : Int} (h0 : A ++ B ≠ []) (hA : ∀ c ∈ A ++ B, c ∈ HD) (hl : (A ++ B).length ≤ 300) (he : e.natAbs ≤ 1400) : IsHexT (48 :: 120 :: (A ++ 46 :: B ++ 112 :: sd e)) (Hx.hexNum (A ++ B)) (e - 4 * (B.length : Nat)) := by
  have e1 : behind (A ++ B) (some A.length) = ((B.length : Nat) : Int) := by
    show (((A ++ B).length : Nat) : Int) - (A.length : Int) = _
    rw [List.length_append]
    omega
  rw [List.length_append] at hl
  refine ⟨⟨A ++ B, A ++ 46 :: B ++ 112 :: sd e, some A.length, e, rfl, ?_, h0, fun c hc => hd_hex (hA c hc), by rw [List.length_append]; exact hl, drop_tail _ _, he, by rw [e1]; omega, rfl, by rw [e1]⟩⟩
  have e2 : A ++ 46 :: B ++ 112 :: sd e = A ++ 46 :: (B ++ 112 :: sd e) := by simp
  rw [e2]
  exact dgs_point no_point_hex hA (by rw [List.length_append]; exact hl) (.inr ⟨112, _, rfl, by decide⟩)
theorem code_zero {f : Fm} {c : Nat} (h : f.m c = 0) : c = 0 := by
  by_cases z : f.more c = 0
  · have := f.code_split c
    rw [z, h] at this
    omega
  · have := f.m_ge z
    have := f.half_pos
    omega
theorem parsed_hex {f : Fm} (fb : FB f) {c : Nat} (hc : c < f.N) : ∃ n k, IsHexT (hexT (f.m c) (f.e c)) n k ∧ n < 2 ^ 2000 ∧ -3000 ≤ k ∧ k ≤ 1900 ∧ ∀ W, f.read W (n * p2 k) (p2 (-k)) = c := by
  have b1 := fb.p
  have b2 := fb.l
  have b3 := fb.h
  have he1 := f.e_lo c
  have he2 := f.e_hi fb.ok hc
  have hm : f.m c < 2 ^ 128 := Nat.lt_of_lt_of_le (f.m_lt fb.ok c) (Nat.pow_le_pow_right (by decide) b1)
  unfold hexT
  by_cases h0 : f.m c = 0
  · rw [h0, half2_end (by omega), if_neg (by omega)]
    refine ⟨0, 0, isHex_whole (by rw [hx_small (show 0 < 16 by decide)]; decide) (by decide), Nat.pow_pos (by decide), by decide, by decide, fun W => ?_⟩
    refine f.read_own fb.ok W hc (p2_pos _) ?_
    unfold Is2
    rw [h0]
    simp
  · obtain ⟨j, e1, e2, e3⟩ := half2_spec (f.m c) (f.e c) (Nat.pos_of_ne_zero h0)
    generalize half2 (f.m c) (f.e c) = r at e1 e2 e3
    obtain ⟨n, k⟩ := r
    have e1' : f.m c = n * 2 ^ j := e1
    have e2' : k = f.e c + j := e2
    have e3' : 0 < n := e3
    have h1 : ((n, k).1 ≠ 0) := by show n ≠ 0; omega
    rw [if_pos h1]
    show ∃ a b, IsHexT (48 :: 120 :: (hx n ++ 112 :: sd k)) a b ∧ _
    have hj : 2 ^ j < 2 ^ 128 := Nat.lt_of_le_of_lt (Nat.le_mul_of_pos_left _ e3') (e1' ▸ hm)
    have hj2 := (Nat.pow_lt_pow_iff_right (by decide)).mp hj
    have hn : n < 2 ^ 128 := Nat.lt_of_le_of_lt (Nat.le_mul_of_pos_right _ (Nat.two_pow_pos j)) (e1' ▸ hm)
    have hxl := hx_short (Nat.lt_of_lt_of_le hn (Nat.pow_le_pow_right (by decide) (show 128 ≤ 400 by decide)))
    refine ⟨n, k, isHex_whole (by omega) (by omega), Nat.lt_of_lt_of_le hn (Nat.pow_le_pow_right (by decide) (by decide)), by omega, by omega, fun W => ?_⟩
    refine f.read_own fb.ok W hc (p2_pos _) ?_
    unfold Is2
    have mix := p2_mix (f.e c) (j : Int)
    rw [← e2', p2_ge (show -(j : Int) ≤ 0 by omega), Nat.mul_one] at mix
    have ej : p2 (j : Int) = 2 ^ j := by unfold p2; simp
    rw [ej] at mix
    rw [e1']
    calc n * p2 k * 1 * p2 (-f.e c) = n * (p2 k * p2 (-f.e c)) := by rw [Nat.mul_one, Nat.mul_assoc]
      _ = n * (p2 (f.e c) * 2 ^ j * p2 (-k)) := by rw [mix]
      _ = n * 2 ^ j * p2 (-k) * p2 (f.e c) := by ac_rfl
/-! ### near the middle -/
inductive Md where
  | mid
  | above
  | below
def Md.ok : Md → Nat → Nat → Prop
  | .mid, s, t => 2 * s = t
  | .above, s, t => t < 2 * s
  | .below, s, t => 2 * s < t
def Md.due (k : Md) (W : Way) (c : Nat) : Nat := match k, W with
  | .mid, .even => c + c % 2
  | .above, .even => c + 1
  | .below, .even => c
  | .mid, .away => c + 1
  | .above, .away => c + 1
  | .below, .away => c
  | _, .zero => c
  | _, .out => c + 1
  | _, .odd => c + 1 - c % 2
theorem rc_due {k : Md} {W : Way} {c s t : Nat} (h : k.ok s t) (h0 : 0 < s) : W.rc c s t = k.due W c := by
  have hs : s ≠ 0 := by omega
  cases k <;> cases W <;> unfold Md.ok at h <;> unfold Way.rc Md.due <;> dsimp only at h ⊢
  all_goals first | rfl | (rw [if_neg hs]; try omega) | skip
  all_goals (split <;> omega)

theorem mid_read {f : Fm} (fb : FB f) (W : Way) {k : Md} {c n d s t : Nat} (hc : c < f.N) (hd : 0 < d) (hst : s < t) (h0 : 0 < s) (hk : k.ok s t) (h : Is2 n d (f.m c * t + s) t (f.e c)) : f.read W n d = k.due W c := by
  rw [f.read_at fb.ok W hc hd hst h, rc_due hk h0]
theorem p2_sh (k : Int) (j : Nat) : p2 k * 2 ^ j * p2 (-(k + j)) = p2 (-k) * p2 (k + j) := by
  have mix := p2_mix k (j : Int)
  rw [p2_ge (show -(j : Int) ≤ 0 by omega), Nat.mul_one] at mix
  have ej : p2 (j : Int) = 2 ^ j := by unfold p2; simp
  rw [ej] at mix
  rw [mix, Nat.mul_comm]
def exQ (e : Int) : Int := if e < 0 then e else 0
def decMid (u : Nat) (q : Int) : Md → List Nat
  | .mid => ds u ++ 101 :: sd q
  | .above => ds (10 * u + 1) ++ 101 :: sd (q - 1)
  | .below => ds (10 * u - 1) ++ 101 :: sd (q - 1)
theorem ex_bound {f : Fm} (g : GF f) {c : Nat} (hc : c < f.N) : 2 * f.m c + 1 ≤ exD (2 * f.m c + 1) (f.e c - 1) ∧ exD (2 * f.m c + 1) (f.e c - 1) < 10 ^ 1101 := by
  have h1 := f.m_lt g.fb.ok c
  have h2 := f.e_lo c
  have h3 := f.e_hi g.fb.ok hc
  unfold exD
  constructor
  · rw [Nat.mul_assoc]
    exact Nat.le_mul_of_pos_right _ (Nat.mul_pos (p2_pos _) (Nat.pow_pos (by decide)))
  · have a2 : p2 (f.e c - 1) ≤ p2 f.hi := Nat.pow_le_pow_right (by decide) (by omega)
    have a3 : 5 ^ (-(f.e c - 1)).toNat ≤ 5 ^ ((-f.lo).toNat + 1) := Nat.pow_le_pow_right (by decide) (by omega)
    have a4 : (2 * f.m c + 1) * p2 (f.e c - 1) * 5 ^ (-(f.e c - 1)).toNat ≤ 2 * 2 ^ f.p * p2 f.hi * 5 ^ ((-f.lo).toNat + 1) := Nat.mul_le_mul (Nat.mul_le_mul (by omega) a2) a3
    have a5 : 2 * 2 ^ f.p * p2 f.hi * 5 ^ ((-f.lo).toNat + 1) = 10 * (2 ^ f.p * p2 f.hi * 5 ^ (-f.lo).toNat) := by
      rw [Nat.pow_succ]
      grind
    have a6 := g.sz
    rw [a5] at a4
    have a7 : (10 : Nat) ^ 1101 = 10 * 10 ^ 1100 := by rw [Nat.pow_succ, Nat.mul_comm]
    rw [a7]
    omega
theorem dec_mid {f : Fm} (g : GF f) {c : Nat} (hc : c < f.N) (k : Md) : ∃ n z, IsDec (decMid (exD (2 * f.m c + 1) (f.e c - 1)) (exQ (f.e c - 1)) k) n z ∧ ∀ W, Reads f W [.int 10, .int (n : Int), .int z] (k.due W c) := by
  obtain ⟨hu1, hu2⟩ := ex_bound g hc
  have h2 := f.e_lo c
  have h3 := g.lo
  have hq1 : -1075 ≤ exQ (f.e c - 1) := by unfold exQ; split <;> omega
  have hq2 : exQ (f.e c - 1) ≤ 0 := by unfold exQ; split <;> omega
  have hten : 10 ^ (-exQ (f.e c - 1)).toNat = p2 (-(f.e c - 1)) * 5 ^ (-(f.e c - 1)).toNat := by
    have e1 : (-exQ (f.e c - 1)).toNat = (-(f.e c - 1)).toNat := by unfold exQ; split <;> omega
    rw [e1, ten_split]
    rfl
  have hbase : exD (2 * f.m c + 1) (f.e c - 1) * 2 * p2 (-f.e c) = (2 * f.m c + 1) * 10 ^ (-exQ (f.e c - 1)).toNat * p2 (f.e c) := by
    have sh := p2_sh (f.e c - 1) 1
    rw [show f.e c - 1 + ((1 : Nat) : Int) = f.e c by omega, Nat.pow_one] at sh
    rw [hten]
    unfold exD
    calc (2 * f.m c + 1) * p2 (f.e c - 1) * 5 ^ (-(f.e c - 1)).toNat * 2 * p2 (-f.e c) = (2 * f.m c + 1) * 5 ^ (-(f.e c - 1)).toNat * (p2 (f.e c - 1) * 2 * p2 (-f.e c)) := by ac_rfl
      _ = (2 * f.m c + 1) * 5 ^ (-(f.e c - 1)).toNat * (p2 (-(f.e c - 1)) * p2 (f.e c)) := by rw [sh]
      _ = _ := by ac_rfl
  generalize exD (2 * f.m c + 1) (f.e c - 1) = u at *
  generalize exQ (f.e c - 1) = q at *
  have hz1 : (10 : Nat) ^ 1102 = 10 * 10 ^ 1101 := by rw [Nat.pow_succ, Nat.mul_comm]
  have hd : ∀ {x : Nat}, x < 10 ^ 1102 → (ds x).length ≤ 1300 := fun {x} h => Nat.le_trans (ds_le (by decide) h) (by decide)
  have hb : ∀ {x : Nat}, x < 10 ^ 1102 → x < 2 ^ 4000 := fun {x} h => Nat.lt_trans h (Nat.lt_of_le_of_lt (Nat.pow_le_pow_right (by decide) (show 1102 ≤ 1200 by decide)) ten1200)
  have rd : ∀ (W : Way) (n : Nat) (z : Int), n < 10 ^ 1102 → z ≤ 0 → -1076 ≤ z → f.read W n (10 ^ (-z).toNat) = k.due W c → Reads f W [.int 10, .int (n : Int), .int z] (k.due W c) := by
    intro W n z h1 h2 h3 h4
    have e0 : z.toNat = 0 := by omega
    have r := Reads.dec (f := f) (W := W) (n := n) (k := z) (by rw [e0, Nat.pow_zero, Nat.mul_one]; exact hb h1) (ten_le (by omega)) (by omega) (by omega)
    unfold Fm.readD at r
    rw [e0, Nat.pow_zero, Nat.mul_one, h4] at r
    exact r
  have eten : 10 ^ (-(q - 1)).toNat = 10 * 10 ^ (-q).toNat := by
    rw [show (-(q - 1)).toNat = (-q).toNat + 1 by omega, Nat.pow_succ, Nat.mul_comm]
  cases k with
  | mid =>
    refine ⟨u, q, isDec_exp (hd (by omega)) (by omega), fun W => rd W u q (by omega) hq2 (by omega) ?_⟩
    refine mid_read g.fb W hc (ten_pos _) (s := 1) (t := 2) (by decide) (by decide) rfl ?_
    unfold Is2
    rw [show f.m c * 2 + 1 = 2 * f.m c + 1 by omega]
    exact hbase
  | above =>
    refine ⟨10 * u + 1, q - 1, isDec_exp (hd (by omega)) (by omega), fun W => rd W _ _ (by omega) (by omega) (by omega) ?_⟩
    refine mid_read g.fb W hc (ten_pos _) (s := 10 * u + (2 * f.m c + 1)) (t := 20 * u) (by omega) (by omega) (show 20 * u < 2 * (10 * u + (2 * f.m c + 1)) by omega) ?_
    unfold Is2
    rw [eten]
    have ea : f.m c * (20 * u) + (10 * u + (2 * f.m c + 1)) = (2 * f.m c + 1) * (10 * u + 1) := by grind
    rw [ea]
    calc (10 * u + 1) * (20 * u) * p2 (-f.e c) = 10 * (10 * u + 1) * (u * 2 * p2 (-f.e c)) := by grind
      _ = 10 * (10 * u + 1) * ((2 * f.m c + 1) * 10 ^ (-q).toNat * p2 (f.e c)) := by rw [hbase]
      _ = _ := by ac_rfl
  | below =>
    refine ⟨10 * u - 1, q - 1, isDec_exp (hd (by omega)) (by omega), fun W => rd W _ _ (by omega) (by omega) (by omega) ?_⟩
    refine mid_read g.fb W hc (ten_pos _) (s := 10 * u - (2 * f.m c + 1)) (t := 20 * u) (by omega) (by omega) (show 2 * (10 * u - (2 * f.m c + 1)) < 20 * u by omega) ?_
    unfold Is2
    rw [eten]
    obtain ⟨v, hv⟩ : ∃ v, 10 * u = v + 1 := ⟨10 * u - 1, by omega⟩
    have ea : f.m c * (20 * u) + (10 * u - (2 * f.m c + 1)) = (2 * f.m c + 1) * (10 * u - 1) := by
      have e20 : 20 * u = 2 * (v + 1) := by omega
      rw [e20, hv, Nat.add_sub_cancel]
      have : (2 * f.m c + 1) * v = f.m c * (2 * v) + v := by grind
      have h7 : f.m c * (2 * (v + 1)) = f.m c * (2 * v) + 2 * f.m c := by grind
      omega
    rw [ea]
    generalize 10 * u - 1 = x at *
    calc x * (20 * u) * p2 (-f.e c) = 10 * x * (u * 2 * p2 (-f.e c)) := by grind
      _ = 10 * x * ((2 * f.m c + 1) * 10 ^ (-q).toNat * p2 (f.e c)) := by rw [hbase]
      _ = _ := by ac_rfl
end NT
/-! text M6 -/
set_option Elab.async false
set_option linter.all false
set_option maxRecDepth 100000
set_option maxHeartbeats 1000000
namespace NT
open PySem PySem.NumText L2
def hexMid (M j : Nat) : Md → List Nat
  | .mid => hx M
  | .above => hx M ++ 46 :: (List.replicate (j - 1) 48 ++ [49])
  | .below => (hx (M * 16 ^ j - 1)).take ((hx (M * 16 ^ j - 1)).length - j) ++ 46 :: (hx (M * 16 ^ j - 1)).drop ((hx (M * 16 ^ j - 1)).length - j)
theorem hex_one (j : Nat) : Hx.hexNum (List.replicate (j - 1) 48 ++ [49]) = 1 := by rw [hex_zeros]; rfl
theorem below_len {M j : Nat} (hM : 0 < M) (hj : 1 ≤ j) : j ≤ (hx (M * 16 ^ j - 1)).length := by
  have h1 : 16 ^ j ≤ M * 16 ^ j := Nat.le_mul_of_pos_left _ hM
  have h2 : 16 ^ j = 16 ^ (j - 1) * 16 := by rw [← Nat.pow_succ]; congr 1; omega
  have h3 : 0 < 16 ^ (j - 1) := Nat.pow_pos (by decide)
  have := hx_ge (k := j - 1) (n := M * 16 ^ j - 1) (by omega)
  omega
theorem below_le {M j : Nat} (hM : M < 2 ^ 129) (hj : 1 ≤ j) (hj2 : j ≤ 260) : (hx (M * 16 ^ j - 1)).length ≤ 300 := by
  have h1 : M * 16 ^ j < 16 ^ 33 * 16 ^ j := Nat.mul_lt_mul_of_pos_right (Nat.lt_of_lt_of_le hM (by decide)) (Nat.pow_pos (by decide))
  rw [← Nat.pow_add] at h1
  exact Nat.le_trans (hx_le (k := 33 + j) (by omega) (by omega)) (by omega)
theorem hx_129 {M : Nat} (hM : M < 2 ^ 129) : (hx M).length ≤ 33 := hx_le (by decide) (Nat.lt_of_lt_of_le hM (by decide))
theorem hex_mid {f : Fm} (fb : FB f) {c : Nat} (hc : c < f.N) {j : Nat} (hj : 1 ≤ j) (hj2 : j ≤ 260) (k : Md) : ∃ n z, IsHexT (48 :: 120 :: (hexMid (2 * f.m c + 1) j k ++ 112 :: sd (f.e c - 1))) n z ∧ ∀ W, Reads f W [.int 2, .int (n : Int), .int z] (k.due W c) := by
  have b1 := fb.p
  have b2 := fb.l
  have b3 := fb.h
  have he1 := f.e_lo c
  have he2 := f.e_hi fb.ok hc
  have hm := f.m_lt fb.ok c
  have hM : 2 * f.m c + 1 < 2 ^ 129 := by
    have h1 : 2 ^ f.p ≤ 2 ^ 128 := Nat.pow_le_pow_right (by decide) b1
    have h2 : 2 ^ 129 = 2 * 2 ^ 128 := by rw [Nat.pow_succ, Nat.mul_comm]
    omega
  have hM0 : 0 < 2 * f.m c + 1 := by omega
  have rd : ∀ (W : Way) (n : Nat) (z : Int), n < 2 ^ 2000 → -3000 ≤ z → z ≤ 1900 → f.read W (n * p2 z) (p2 (-z)) = k.due W c → Reads f W [.int 2, .int (n : Int), .int z] (k.due W c) := by
    intro W n z h1 h2 h3 h4
    have r := Reads.hex (f := f) (W := W) (n := n) (k := z) h1 h2 h3
    rw [h4] at r
    exact r
  have hT : (16 : Nat) ^ j = 2 ^ (4 * j) := by rw [Nat.pow_mul]
  have hT1 : 16 ≤ 16 ^ j := Nat.le_trans (by decide) (Nat.pow_le_pow_right (by decide) hj)
  have hT2 : 16 ^ j ≤ 2 ^ 1040 := by
    rw [hT]
    exact Nat.pow_le_pow_right (by decide) (by omega)
  have hn : (2 * f.m c + 1) * 16 ^ j + 1 < 2 ^ 2000 := by
    have h1 : (2 * f.m c + 1) * 16 ^ j ≤ 2 ^ 129 * 2 ^ 1040 := Nat.mul_le_mul (Nat.le_of_lt hM) hT2
    rw [← Nat.pow_add] at h1
    exact Nat.lt_of_le_of_lt (Nat.add_le_add_right h1 1) (by decide +kernel)
  have sh := p2_sh (f.e c - 1 - 4 * (j : Int)) (1 + 4 * j)
  rw [show f.e c - 1 - 4 * (j : Int) + ((1 + 4 * j : Nat) : Int) = f.e c by omega, Nat.pow_add, ← hT, Nat.pow_one] at sh
  generalize hz : f.e c - 1 - 4 * (j : Int) = z at sh
  generalize hTT : 16 ^ j = T at *
  cases k with
  | mid =>
    have hl := hx_129 hM
    refine ⟨2 * f.m c + 1, f.e c - 1, isHex_whole (by omega) (by omega), fun W => rd W _ _ (by omega) (by omega) (by omega) ?_⟩
    refine mid_read fb W hc (p2_pos _) (s := 1) (t := 2) (by decide) (by decide) rfl ?_
    have s1 := p2_sh (f.e c - 1) 1
    rw [show f.e c - 1 + ((1 : Nat) : Int) = f.e c by omega, Nat.pow_one] at s1
    unfold Is2
    rw [show f.m c * 2 + 1 = 2 * f.m c + 1 by omega]
    calc (2 * f.m c + 1) * p2 (f.e c - 1) * 2 * p2 (-f.e c) = (2 * f.m c + 1) * (p2 (f.e c - 1) * 2 * p2 (-f.e c)) := by ac_rfl
      _ = _ := by rw [s1]; ac_rfl
  | above =>
    have hl := hx_129 hM
    have hB : (List.replicate (j - 1) 48 ++ [49]).length = j := by simp; omega
    have h := isHex_point (A := hx (2 * f.m c + 1)) (B := List.replicate (j - 1) 48 ++ [49]) (e := f.e c - 1) (by simp) (fun x hx2 => by
      rcases List.mem_append.mp hx2 with h | h
      · exact hx_in _ x h
      · rcases List.mem_append.mp h with h | h
        · rw [List.eq_of_mem_replicate h]
          decide
        · rw [List.mem_singleton] at h
          rw [h]
          decide) (by rw [List.length_append, hB]; omega) (by omega)
    rw [hex_app, hx_val, hex_one, hB, hTT, hz] at h
    refine ⟨_, z, h, fun W => rd W _ _ (by omega) (by omega) (by omega) ?_⟩
    refine mid_read fb W hc (p2_pos _) (s := T + 1) (t := 2 * T) (by omega) (by omega) (show 2 * T < 2 * (T + 1) by omega) ?_
    unfold Is2
    have ea : f.m c * (2 * T) + (T + 1) = (2 * f.m c + 1) * T + 1 := by grind
    rw [ea]
    calc ((2 * f.m c + 1) * T + 1) * p2 z * (2 * T) * p2 (-f.e c) = ((2 * f.m c + 1) * T + 1) * (p2 z * (2 * T) * p2 (-f.e c)) := by ac_rfl
      _ = _ := by rw [sh]; ac_rfl
  | below =>
    have g1 := below_len hM0 hj
    have g2 := below_le hM hj hj2
    have ev := hx_val ((2 * f.m c + 1) * T - 1)
    have hin := hx_in ((2 * f.m c + 1) * T - 1)
    unfold hexMid
    rw [hTT] at g1 g2 ⊢
    dsimp only
    generalize hx ((2 * f.m c + 1) * T - 1) = G at *
    have e4 : G.take (G.length - j) ++ G.drop (G.length - j) = G := List.take_append_drop _ _
    have h := isHex_point (A := G.take (G.length - j)) (B := G.drop (G.length - j)) (e := f.e c - 1) (by
      rw [e4]
      intro y
      rw [y] at g1
      simp at g1
      omega) (by rw [e4]; exact hin) (by rw [e4]; exact g2) (by omega)
    rw [e4, ev, List.length_drop, show G.length - (G.length - j) = j by omega, hz] at h
    have hpos : T ≤ (2 * f.m c + 1) * T := Nat.le_mul_of_pos_left _ hM0
    refine ⟨_, z, h, fun W => rd W _ _ (by omega) (by omega) (by omega) ?_⟩
    refine mid_read fb W hc (p2_pos _) (s := T - 1) (t := 2 * T) (by omega) (by omega) (show 2 * (T - 1) < 2 * T by omega) ?_
    unfold Is2
    have ea : f.m c * (2 * T) + (T - 1) = (2 * f.m c + 1) * T - 1 := by
      have : (2 * f.m c + 1) * T = f.m c * (2 * T) + T := by grind
      omega
    rw [ea]
    calc ((2 * f.m c + 1) * T - 1) * p2 z * (2 * T) * p2 (-f.e c) = ((2 * f.m c + 1) * T - 1) * (p2 z * (2 * T) * p2 (-f.e c)) := by ac_rfl
      _ = _ := by rw [sh]; ac_rfl
end NT
/-! text W10 -/
set_option Elab.async false
set_option linter.all false
set_option maxRecDepth 100000
set_option maxHeartbeats 2000000
namespace NT
open PySem PySem.Spec PyProof.Rows L2 PySem.NumText
/-! ### the law's own checks -/
def prd (a b : Int) : PyData := .tuple [.int a, .int b]
theorem eqv_prd (a b : Int) : PyData.eqv (prd a b) (prd a b) = true := by simp [prd, PyData.eqv, PyData.eqvAll]
theorem shaped_prd (a b : Int) : SeqAt.shaped (prd a b) = true := rfl
theorem dp_prd {K : PySem.W.Frag} {H : Hp} {p : Addr} {a b : Int} (h : SqT K H p [.int a, .int b]) : Dp K H (.ref p) (prd a b) := .tup h (.cons (.int a) (.cons (.int b) .nil))
theorem flat48 (n : Nat) : (List.replicate n [48]).flatten = List.replicate n 48 := by
  induction n with
  | zero => rfl
  | succ n ih => rw [List.replicate_succ, List.flatten_cons, ih, List.replicate_succ]; rfl
theorem short_zero {f : Fm} (ok : f.Ok) (W : Way) {c : Nat} (hc : c < f.N) (h : (f.short W c).1 = 0) : (f.short W c).2 = 0 := by
  by_cases h0 : c = 0
  · unfold Fm.short
    rw [if_pos h0]
  · have := (f.short_spec ok W hc h0).pos
    omega
theorem back_text {d n : Nat} {q z : Int} (h : Back d q n z) (h0 : d = 0 → q = 0) : ds d ++ List.replicate (q - (if z < q then z else q)).toNat 48 = ds n ++ List.replicate (z - (if z < q then z else q)).toNat 48 := by
  cases h with
  | own => rfl
  | whole hq =>
    have e : (if (0 : Int) < q then 0 else q) = 0 := by split <;> omega
    rw [e]
    rcases Nat.eq_zero_or_pos d with hd | hd
    · have := h0 hd
      subst hd this
      rfl
    · rw [ds_ten hd]
      simp
theorem back_n {d n : Nat} {q z : Int} (hs : ShB d q) (h : Back d q n z) : n < 10 ^ 4300 ∧ -2000 ≤ z ∧ z ≤ 2000 := by
  have h1 := hs.lo
  have h2 := hs.hi
  have h3 := hs.num
  have h4 := hs.dl
  have h5 : (10 : Nat) ^ 1101 < 10 ^ 4300 := Nat.pow_lt_pow_right (by decide) (by decide)
  cases h with
  | own => exact ⟨Nat.lt_trans h4 h5, by clear h3 h4 h5; omega, by clear h3 h4 h5; omega⟩
  | whole hq => exact ⟨Nat.lt_trans h3 h5, by decide, by decide⟩
theorem jlen {x : Nat} {i : Int} (h : (ds x).length ≤ 4300) (hi : i ≤ 10000) : (sd (x : Int)).length + (List.replicate i.toNat [48]).flatten.length ≤ 16777216 := by
  rw [sd_nat, flat48, List.length_replicate]
  omega
theorem text_len {sg : Bool} {f : Fm} (g : GF f) (W : Way) {c : Nat} (hc : c ≤ f.N) (k : Kd) : (fr sg ++ dueT f W c k).length ≤ 9010 ∧ (dueT f W c k).length ≤ 9009 := by
  have h1 := fr_len sg
  have h2 : (dueT f W c k).length ≤ 9009 := by
    unfold dueT
    split
    · decide
    · exact Nat.le_trans (decT_len (short_b g W (by omega)) k) (by decide)
  rw [List.length_append]
  omega
theorem due_parsed {f : Fm} (g : GF f) (W : Way) {c : Nat} (hc : c ≤ f.N) (k : Kd) : ∃ r, Parsed (dueT f W c k) r ∧ Reads f W r c ∧ ((c = f.N ∧ r = [.str (SX.S inf)]) ∨ (c < f.N ∧ ∃ (n : Nat) (z : Int), r = [.int 10, .int (n : Int), .int z] ∧ Back (f.short W c).1 (f.short W c).2 n z)) := by
  unfold dueT
  by_cases h : c = f.N
  · rw [if_pos h]
    refine ⟨_, .inf rfl, ?_, .inl ⟨h, rfl⟩⟩
    have := Reads.inf (f := f) (W := W)
    rw [← h] at this
    exact this
  · rw [if_neg h]
    obtain ⟨n, z, h1, h2⟩ := isDec_dec (short_b g W (show c < f.N by omega)) k
    exact ⟨_, .dec h1, reads_back g W (by omega) h2, .inr ⟨by omega, n, z, rfl, h2⟩⟩
section
variable {P : Program} {w : World} {K : PySem.W.Frag} {mg : Str → Option Value} {base : Heap}

def sp__law_text_right (K : PySem.W.Frag) : Sp := fun vs H Q _ => ∃ (a : Addr) (f : Fm) (W : Way) (c : Nat) (sg : Bool) (k : Kd), vs = [.ref a, .str W.nm, .int (c : Int), .int (sgi sg), .str k.nm] ∧ Frm K H a f ∧ GF f ∧ c ≤ f.N ∧ ∀ H', Same H H' → Q (.bl true) H'
theorem ok__law_text_right (B : Bs K mg base) : OkD P w K mg base "_law_text_right" 7 ["_law_form_here", "_law_way", "_law_code", "_law_sign", "_law_kind"] (sp__law_text_right K) := by
  have G_shortest := ok_shortest (P := P) (w := w) B
  have G_parse_text := ok_parse_text (P := P) (w := w) B
  have G_number_text := ok_number_text (P := P) (w := w) B
  have G_count_of := ok_count_of (P := P) (w := w) B
  have G_read_text := ok_read_text (P := P) (w := w) B
  have G__law_due := ok__law_due (P := P) (w := w) B
  have S : FnScope ["_law_form_here", "_law_way", "_law_code", "_law_sign", "_law_kind", "_law_least", "_law_text", "_law_front", "_law_d", "_law_q", "_law_own", "_law_base", "_law_n", "_law_k"] ["_law_form_here", "_law_way", "_law_code", "_law_sign", "_law_kind"] (defScope (ts 60)) := ⟨rfl, rfl, rfl, by decide +kernel, rfl, by decide +kernel, by decide +kernel⟩
  refine mk_ok B 40 60 rfl rfl S (fun _ _ _ _ _ _ us hl => match us, hl with | [_, _, _, _, _], _ => rfl) (fun vs H Q E h => ?_) (fun f0 cdv A outer s H vs Q E hr h => ?_)
  · obtain ⟨a, f, W, c, sg, k, rfl, hF, g, hc, q⟩ := h; rfl
  · obtain ⟨a, f, W, c, sg, k, rfl, hF, g, hc, q⟩ := h
    have scn := S.nd
    refine ⟨_, (pss_cons (ps_par (i := 6) (j := 7) rfl scn rfl rfl (by decide) rfl rfl (pa_cons (pe_callWK G_number_text (hr.mono (by decide)) (by rfl) (pa_cons (pv 0) (pa_cons (pv 1) (pa_cons (pv 3) (pa_cons (pv 2) pa_nil)))) (pk_cons (pv 4) pk_nil)) (pa_cons (pe_ix ix_list (pe_lst (pa_cons (pe_strS [] (by decide +kernel)) (pa_cons (pe_strS [45] (by decide +kernel)) pa_nil))) (pv 3) (fun _ _ => rfl)) pa_nil)) (by rfl))
      (pss_cons (ps_if (PW.pt (pw_or (pt_cmpR op_ne (pv 6) (pe_op op_addL (pv 7) (pe_callD G__law_due (hr.mono (by decide)) (by rfl) (pa_cons (pv 0) (pa_cons (pv 1) (pa_cons (pv 2) (pa_cons (pv 4) pa_nil)))))) (nomark _)) (pw_or1 (pt_cmpR (op_neD hr.units) (pe_callD G_read_text (hr.mono (by decide)) (by rfl) (pa_cons (pv 0) (pa_cons (pv 1) (pa_cons (pv 6) pa_nil)))) (pe_tup (pa_cons (pv 3) (pa_cons (pv 2) pa_nil))) (nomark _)))))
        (pss_one (ps_ret pe_bl))
        pss_nil)
      (pss_cons (ps_if (PW.pt (pw_and (pt_cmpR op_eq (pv 4) pe_str (nomark _)) (pw_and1 (pt_cmpR op_ne (pe_callW G_number_text (hr.mono (by decide)) (by rfl) (pa_cons (pv 0) (pa_cons (pv 1) (pa_cons (pv 3) (pa_cons (pv 2) pa_nil))))) (pv 6) (nomark _)))))
        (pss_one (ps_ret pe_bl))
        pss_nil)
      (pss_cons (ps_if (pt_cmpR op_eq (pv 2) (pe_callD G_count_of (hr.mono (by decide)) (by rfl) (pa_cons (pv 0) pa_nil)) (nomark _))
        (pss_one (ps_ret (pe_cmpR (op_eqD hr.units) (pe_callD G_parse_text (hr.mono (by decide)) (by rfl) (pa_cons (pv 6) pa_nil)) (pe_tup (pa_cons (pv 3) (pa_cons (pe_strS [105, 110, 102] (by decide +kernel)) pa_nil))) (nomark _))))
        pss_nil)
      (pss_cons (ps_asg (pe_callD G_shortest (hr.mono (by decide)) (by rfl) (pa_cons (pv 0) (pa_cons (pv 1) (pa_cons (pv 2) pa_nil)))) (pg_tup rfl (pgs_cons (pg_name (i := 8) scn rfl (.inl rfl)) (pgs_cons (pg_name (i := 9) scn rfl (.inl rfl)) pgs_nil))))
      (pss_cons (ps_asg (pe_callD G_parse_text (hr.mono (by decide)) (by rfl) (pa_cons (pv 6) pa_nil)) (pg_tup rfl (pgs_cons (pg_name (i := 10) scn rfl (.inl rfl)) (pgs_cons (pg_name (i := 11) scn rfl (.inl rfl)) (pgs_cons (pg_name (i := 12) scn rfl (.inl rfl)) (pgs_cons (pg_name (i := 13) scn rfl (.inl rfl)) pgs_nil))))))
      (pss_cons (ps_set (i := 5) scn rfl (.inl rfl) (pe_callB (call_min2 rfl) (by rfl) (B.fre 56) (by decide +kernel) (pa_cons (pv 9) (pa_cons (pv 13) pa_nil))))
      (pss_one (ps_ret (pe_or (pe_and (pe_cmpR op_eq (pv 10) (pv 3) (nomark _)) (pe_and (pe_cmpR op_eq (pv 11) pe_int (nomark _)) (pe_one (pe_cmpR op_eq (pe_op op_addL (pe_callTy (call_strI rfl B.nd) (by rfl) (B.fre 58) (by decide +kernel) (pa_cons (pv 8) pa_nil)) (pe_op op_mulS (pe_strS [48] (by decide +kernel)) (pe_op op_sub (pv 9) (pv 5)))) (pe_op op_addL (pe_callTy (call_strI rfl B.nd) (by rfl) (B.fre 58) (by decide +kernel) (pa_cons (pv 12) pa_nil)) (pe_op op_mulS (pe_strS [48] (by decide +kernel)) (pe_op op_sub (pv 13) (pv 5)))) (nomark _))))) (pe_one (pe_chain op_eq op_eq (pv 12) (pv 8) pe_int)))))))))))), ?_⟩
    have fb := g.fb
    have b1 := fb.p
    have b2 := fb.l
    have b3 := fb.h
    obtain ⟨tl1, tl2⟩ := text_len (sg := sg) g W hc k
    have hfl := fr_len sg
    have tl9 : (fr sg ++ dueT f W c k).length ≤ 90000 := by omega
    obtain ⟨r, hpr, hrd, hcase⟩ := due_parsed g W hc k
    refine ⟨_, rfl, _, rfl, _, rfl, _, rfl, _, rfl, rfl, rfl, a, f, W, sg, c, k, rfl, hF, g, hc, fun H1 s1 => ?_⟩
    refine ⟨l2, fun p2 hp2 => ?_⟩
    have s2 := s1.trans (same_new (o := .lst [.str (SX.S []), .str (SX.S [45])]) hp2)
    refine ⟨_, rfl, p2, _, sgi sg, .str (SX.S (fr sg)), rfl, rfl, sq_l, by cases sg <;> rfl, _, _, rfl, ?_⟩
    generalize upd H1 p2 (.lst [.str (SX.S []), .str (SX.S [45])]) = H2 at s2 ⊢
    refine ⟨_, rfl, _, rfl, _, rfl, _, rfl, _, rfl, _, rfl, a, f, W, c, k, rfl, hF.up s2, g, hc, fun H3 s3 => ?_⟩
    refine ⟨_, _, rfl, rfl, by omega, rfl, _, rfl, ifN (fun h => absurd rfl h) (fun _ => ?_)⟩
    have t3 := s2.trans s3
    refine ⟨_, rfl, _, rfl, _, rfl, a, f, W, sg, dueT f W c k, r, c, rfl, hF.up t3, fb, by omega, hpr, hrd, fun p4 H4 s4 hp4 => ?_⟩
    refine ⟨_, rfl, _, rfl, l2, fun p5 hp5 => ?_⟩
    have s5 := same_new (o := .tup [.int (sgi sg), .int (c : Int)]) hp5
    have t5 := t3.trans (s4.trans s5)
    refine ⟨prd (sgi sg) c, prd (sgi sg) c, dp_prd (.inl (.inl (s5 _ _ hp4))), dp_prd sq_t, shaped_prd _ _, shaped_prd _ _, ?_⟩
    rw [eqv_prd]
    generalize upd H4 p5 (.tup [.int (sgi sg), .int (c : Int)]) = H5 at t5 ⊢
    refine ⟨_, rfl, ?_⟩
    by_cases hk : k = .auto
    · subst hk
      refine ⟨_, rfl, rfl, _, rfl, ifD (fun _ => ?_) (fun h => absurd rfl h)⟩
      refine ⟨_, rfl, _, rfl, _, rfl, _, rfl, a, f, W, sg, c, .auto, rfl, hF.up t5, g, hc, fun H6 s6 => ?_⟩
      have t6 := t5.trans s6
      refine ⟨_, rfl, rfl, _, rfl, ifN (fun h => absurd rfl h) (fun _ => ?_)⟩
      refine ⟨_, rfl, _, rfl, a, f, rfl, hF.up t6, fb.ok, by omega, by omega, rfl, _, rfl, ifD (fun h => ?_) (fun h => ?_)⟩
      · have e : c = f.N := Int.ofNat.inj (V.int.inj h)
        rcases hcase with ⟨_, hr1⟩ | ⟨hlt, _⟩
        · subst hr1
          refine ⟨_, rfl, sg, dueT f W c .auto, _, rfl, tl9, hpr, fun p7 H7 s7 hp7 => ?_⟩
          refine ⟨_, rfl, l2, fun p8 hp8 => ?_⟩
          have s8 := same_new (o := .tup [.int (sgi sg), .str (SX.S [105, 110, 102])]) hp8
          refine ⟨.tuple [.int (sgi sg), .str (SX.S inf)], .tuple [.int (sgi sg), .str (SX.S inf)], .tup (.inl (.inl (s8 _ _ hp7))) (.cons (.int _) (.cons (.str _) .nil)), .tup sq_t (.cons (.int _) (.cons (.str _) .nil)), by cases sg <;> decide +kernel, by cases sg <;> decide +kernel, ?_⟩
          exact rB_ (by simp [PyData.eqv, PyData.eqvAll]) (q _ (t6.trans (s7.trans s8)))
        · omega
      rcases hcase with ⟨hr0, _⟩ | ⟨hlt, n, z, hr1, hbk⟩
      · exact absurd (congrArg V.int (congrArg Int.ofNat hr0)) h
      subst hr1
      have hs := short_b g W hlt
      have hz := short_zero fb.ok W hlt
      obtain ⟨g1, g2, g3⟩ := back_n hs hbk
      have g4 := back_text hbk hz
      have hd := hs.dl
      have hl1 := hs.lo
      have hl2 := hs.hi
      refine ⟨_, rfl, _, rfl, _, rfl, a, f, W, c, rfl, hF.up t6, g, hlt, fun p7 H7 s7 hp7 => ?_⟩
      refine ⟨p7, _, rfl, .inl (.inl hp7), rfl, _, _, rfl, _, _, rfl, rfl, ?_⟩
      refine ⟨_, rfl, sg, dueT f W c .auto, _, rfl, tl9, hpr, fun p8 H8 s8 hp8 => ?_⟩
      refine ⟨p8, _, rfl, .inl (.inl hp8), rfl, _, _, rfl, _, _, rfl, _, _, rfl, _, _, rfl, rfl, ?_⟩
      generalize (f.short W c).1 = d at *
      generalize (f.short W c).2 = y at *
      have d1 : d < 10 ^ 4300 := Nat.lt_trans hd (Nat.pow_lt_pow_right (by decide) (by decide))
      refine ⟨_, rfl, _, rfl, _, _, rfl, ?_⟩
      generalize hle : (if z < y then z else y) = le at g4
      have hle2 : y - le ≤ 10000 ∧ z - le ≤ 10000 ∧ -(2 ^ 63) ≤ y - le ∧ -(2 ^ 63) ≤ z - le ∧ y - le ≤ 100000 ∧ z - le ≤ 100000 := by
        clear g1 hd d1
        rw [← hle]
        split <;> omega
      obtain ⟨i1, i2, i3, i4, i5, i6⟩ := hle2
      have dl1 := ds_le (k := 4300) (by decide) d1
      have dl2 := ds_le (k := 4300) (by decide) g1
      refine ⟨_, rfl, _, rfl, rfl, _, rfl, ifD (fun _ => ?_) (fun y => absurd rfl y)⟩
      refine ⟨_, rfl, rfl, _, rfl, ifD (fun _ => ?_) (fun y => absurd rfl y)⟩
      refine ⟨_, rfl, _, rfl, by rw [nab]; exact d1, _, rfl, _, rfl, _, _, rfl, rfl, [48], y - le, rfl, rfl, i5, by decide, i3, _, _, rfl, rfl, jlen dl1 i1, ?_⟩
      refine ⟨_, rfl, _, rfl, by rw [nab]; exact g1, _, rfl, _, rfl, _, _, rfl, rfl, [48], z - le, rfl, rfl, i6, by decide, i4, _, _, rfl, rfl, jlen dl2 i2, ?_⟩
      rw [sd_nat, sd_nat, flat48, flat48, g4]
      exact ⟨rfl, _, rfl, ifD (fun _ => q _ (t6.trans (s7.trans s8))) (fun y => absurd rfl y)⟩
    · have hkn : ¬ V.str k.nm = V.str "auto" := by
        cases k with
        | auto => exact absurd rfl hk
        | plain => decide
        | power => decide
      refine ⟨_, rfl, rfl, _, rfl, ifD (fun h => absurd h hkn) (fun _ => ?_)⟩
      have t6 := t5
      refine ⟨_, rfl, _, rfl, a, f, rfl, hF.up t6, fb.ok, by omega, by omega, rfl, _, rfl, ifD (fun h => ?_) (fun h => ?_)⟩
      · have e : c = f.N := Int.ofNat.inj (V.int.inj h)
        rcases hcase with ⟨_, hr1⟩ | ⟨hlt, _⟩
        · subst hr1
          refine ⟨_, rfl, sg, dueT f W c k, _, rfl, tl9, hpr, fun p7 H7 s7 hp7 => ?_⟩
          refine ⟨_, rfl, l2, fun p8 hp8 => ?_⟩
          have s8 := same_new (o := .tup [.int (sgi sg), .str (SX.S [105, 110, 102])]) hp8
          refine ⟨.tuple [.int (sgi sg), .str (SX.S inf)], .tuple [.int (sgi sg), .str (SX.S inf)], .tup (.inl (.inl (s8 _ _ hp7))) (.cons (.int _) (.cons (.str _) .nil)), .tup sq_t (.cons (.int _) (.cons (.str _) .nil)), by cases sg <;> decide +kernel, by cases sg <;> decide +kernel, ?_⟩
          exact rB_ (by simp [PyData.eqv, PyData.eqvAll]) (q _ (t6.trans (s7.trans s8)))
        · omega
      rcases hcase with ⟨hr0, _⟩ | ⟨hlt, n, z, hr1, hbk⟩
      · exact absurd (congrArg V.int (congrArg Int.ofNat hr0)) h
      subst hr1
      have hs := short_b g W hlt
      have hz := short_zero fb.ok W hlt
      obtain ⟨g1, g2, g3⟩ := back_n hs hbk
      have g4 := back_text hbk hz
      have hd := hs.dl
      have hl1 := hs.lo
      have hl2 := hs.hi
      refine ⟨_, rfl, _, rfl, _, rfl, a, f, W, c, rfl, hF.up t6, g, hlt, fun p7 H7 s7 hp7 => ?_⟩
      refine ⟨p7, _, rfl, .inl (.inl hp7), rfl, _, _, rfl, _, _, rfl, rfl, ?_⟩
      refine ⟨_, rfl, sg, dueT f W c k, _, rfl, tl9, hpr, fun p8 H8 s8 hp8 => ?_⟩
      refine ⟨p8, _, rfl, .inl (.inl hp8), rfl, _, _, rfl, _, _, rfl, _, _, rfl, _, _, rfl, rfl, ?_⟩
      generalize (f.short W c).1 = d at *
      generalize (f.short W c).2 = y at *
      have d1 : d < 10 ^ 4300 := Nat.lt_trans hd (Nat.pow_lt_pow_right (by decide) (by decide))
      refine ⟨_, rfl, _, rfl, _, _, rfl, ?_⟩
      generalize hle : (if z < y then z else y) = le at g4
      have hle2 : y - le ≤ 10000 ∧ z - le ≤ 10000 ∧ -(2 ^ 63) ≤ y - le ∧ -(2 ^ 63) ≤ z - le ∧ y - le ≤ 100000 ∧ z - le ≤ 100000 := by
        clear g1 hd d1
        rw [← hle]
        split <;> omega
      obtain ⟨i1, i2, i3, i4, i5, i6⟩ := hle2
      have dl1 := ds_le (k := 4300) (by decide) d1
      have dl2 := ds_le (k := 4300) (by decide) g1
      refine ⟨_, rfl, _, rfl, rfl, _, rfl, ifD (fun _ => ?_) (fun y => absurd rfl y)⟩
      refine ⟨_, rfl, rfl, _, rfl, ifD (fun _ => ?_) (fun y => absurd rfl y)⟩
      refine ⟨_, rfl, _, rfl, by rw [nab]; exact d1, _, rfl, _, rfl, _, _, rfl, rfl, [48], y - le, rfl, rfl, i5, by decide, i3, _, _, rfl, rfl, jlen dl1 i1, ?_⟩
      refine ⟨_, rfl, _, rfl, by rw [nab]; exact g1, _, rfl, _, rfl, _, _, rfl, rfl, [48], z - le, rfl, rfl, i6, by decide, i4, _, _, rfl, rfl, jlen dl2 i2, ?_⟩
      rw [sd_nat, sd_nat, flat48, flat48, g4]
      exact ⟨rfl, _, rfl, ifD (fun _ => q _ (t6.trans (s7.trans s8))) (fun y => absurd rfl y)⟩

end
end NT
/-! text W11 -/
set_option Elab.async false
set_option linter.all false
set_option maxRecDepth 100000
set_option maxHeartbeats 2000000
namespace NT
open PySem PySem.Spec PyProof.Rows L2 PySem.NumText
/-! ### lists of pairs -/
def Prs (H : Hp) (sg : Int) : List Addr → List Nat → Prop
  | [], [] => True
  | p :: ps, c :: cs => H p = some (.tup [.int sg, .int (c : Int)]) ∧ Prs H sg ps cs
  | _, _ => False
theorem Prs.up {H H' : Hp} {sg : Int} (s : Same H H') : ∀ {ps : List Addr} {cs : List Nat}, Prs H sg ps cs → Prs H' sg ps cs
  | [], [], _ => trivial
  | _ :: _, _ :: _, h => ⟨s _ _ h.1, h.2.up s⟩
  | [], _ :: _, h => h.elim
  | _ :: _, [], h => h.elim
theorem Prs.snoc {H : Hp} {sg : Int} {p : Addr} {c : Nat} (hp : H p = some (.tup [.int sg, .int (c : Int)])) : ∀ {ps : List Addr} {cs : List Nat}, Prs H sg ps cs → Prs H sg (ps ++ [p]) (cs ++ [c])
  | [], [], _ => ⟨hp, trivial⟩
  | _ :: _, _ :: _, h => ⟨h.1, h.2.snoc hp⟩
  | [], _ :: _, h => h.elim
  | _ :: _, [], h => h.elim
theorem Prs.len {H : Hp} {sg : Int} : ∀ {ps : List Addr} {cs : List Nat}, Prs H sg ps cs → ps.length = cs.length
  | [], [], _ => rfl
  | _ :: _, _ :: _, h => congrArg Nat.succ h.2.len
  | [], _ :: _, h => h.elim
  | _ :: _, [], h => h.elim
theorem Prs.dp {K : PySem.W.Frag} {H : Hp} {sg : Int} : ∀ {ps : List Addr} {cs : List Nat}, Prs H sg ps cs → DpAll K H (ps.map V.ref) (cs.map fun c : Nat => prd sg (c : Int))
  | [], [], _ => .nil
  | _ :: _, _ :: _, h => .cons (dp_prd (.inl (.inl h.1))) h.2.dp
  | [], _ :: _, h => h.elim
  | _ :: _, [], h => h.elim
theorem Prs.off {H : Hp} {D : Addr} {o : HO} {sg : Int} (hD : ∀ x y, H D ≠ some (.tup [x, y])) : ∀ {ps : List Addr} {cs : List Nat}, Prs H sg ps cs → Prs (upd H D o) sg ps cs
  | [], [], _ => trivial
  | p :: _, _ :: _, h => ⟨by rw [upd_ne (fun z => hD _ _ (z ▸ h.1))]; exact h.1, h.2.off hD⟩
  | [], _ :: _, h => h.elim
  | _ :: _, [], h => h.elim
def prl (sg : Int) (cs : List Nat) : PyData := .list (cs.map fun c : Nat => prd sg (c : Int))
theorem eqvAll_prs (sg : Int) : ∀ cs : List Nat, PyData.eqvAll (cs.map fun c : Nat => prd sg (c : Int)) (cs.map fun c : Nat => prd sg (c : Int)) = true
  | [] => by simp [PyData.eqvAll]
  | c :: cs => by
    rw [List.map_cons, PyData.eqvAll, eqv_prd, eqvAll_prs sg cs]
    rfl
theorem eqv_prl (sg : Int) (cs : List Nat) : PyData.eqv (prl sg cs) (prl sg cs) = true := by
  unfold prl
  rw [PyData.eqv]
  exact eqvAll_prs sg cs
theorem shaped_prl5 (sg : Int) (a b c d e : Nat) : SeqAt.shaped (prl sg [a, b, c, d, e]) = true := rfl
def ways : List Way := [.even, .away, .zero, .out, .odd]
theorem l5 {a b c d e : V} : [a, b, c, d, e].length ≤ sizeLine := by show 5 ≤ sizeLine; decide
theorem hex_len {f : Fm} (fb : FB f) {c : Nat} (hc : c ≤ f.N) : (hexDue f c).length ≤ 1000 := by
  have b1 := fb.p
  have b2 := fb.l
  have b3 := fb.h
  unfold hexDue
  by_cases h : c = f.N
  · rw [if_pos h]
    decide
  · rw [if_neg h]
    have he1 := f.e_lo c
    have he2 := f.e_hi fb.ok (show c < f.N by omega)
    have hm : f.m c < 2 ^ 400 := Nat.lt_of_lt_of_le (f.m_lt fb.ok c) (Nat.pow_le_pow_right (by decide) (by omega))
    unfold hexT
    by_cases h0 : f.m c = 0
    · rw [h0, half2_end (by omega), if_neg (by omega), show hx (0, f.e c).fst = [48] from hx_small (show 0 < 16 by decide), show sd 0 = [48] by decide +kernel]
      decide
    · obtain ⟨j, e1, e2, e3⟩ := half2_spec (f.m c) (f.e c) (Nat.pos_of_ne_zero h0)
      generalize half2 (f.m c) (f.e c) = r at e1 e2 e3 ⊢
      obtain ⟨n, k⟩ := r
      have e1' : f.m c = n * 2 ^ j := e1
      have e2' : k = f.e c + j := e2
      have e3' : 0 < n := e3
      have h1 : ((n, k).1 ≠ 0) := by show n ≠ 0; omega
      rw [if_pos h1]
      show (48 :: 120 :: (hx n ++ 112 :: sd k)).length ≤ 1000
      have hj : 2 ^ j < 2 ^ 400 := Nat.lt_of_le_of_lt (Nat.le_mul_of_pos_left _ e3') (e1' ▸ hm)
      have hj2 := (Nat.pow_lt_pow_iff_right (by decide)).mp hj
      have hn : n < 2 ^ 400 := Nat.lt_of_le_of_lt (Nat.le_mul_of_pos_right _ (Nat.two_pow_pos j)) (e1' ▸ hm)
      have hxl := hx_short hn
      have hsl := sd_len (z := k) (by omega)
      simp
      omega
theorem hex_parsed {f : Fm} (fb : FB f) {c : Nat} (hc : c ≤ f.N) : ∃ r, Parsed (hexDue f c) r ∧ ∀ W, Reads f W r c := by
  unfold hexDue
  by_cases h : c = f.N
  · rw [if_pos h]
    refine ⟨_, .inf rfl, fun W => ?_⟩
    have := Reads.inf (f := f) (W := W)
    rw [← h] at this
    exact this
  · rw [if_neg h]
    obtain ⟨n, k, h1, h2, h3, h4, h5⟩ := parsed_hex fb (show c < f.N by omega)
    refine ⟨_, .hex h1, fun W => ?_⟩
    have := Reads.hex (f := f) (W := W) (n := n) (k := k) h2 h3 h4
    rw [h5 W] at this
    exact this
section
variable {P : Program} {w : World} {K : PySem.W.Frag} {mg : Str → Option Value} {base : Heap}

def sp__law_hex_right (K : PySem.W.Frag) : Sp := fun vs H Q _ => ∃ (a : Addr) (f : Fm) (c : Nat) (sg : Bool), vs = [.ref a, .int (c : Int), .int (sgi sg)] ∧ Frm K H a f ∧ FB f ∧ c ≤ f.N ∧ ∀ H', Same H H' → Q (.bl true) H'
theorem ok__law_hex_right (B : Bs K mg base) : OkD P w K mg base "_law_hex_right" 7 ["_law_form_here", "_law_code", "_law_sign"] (sp__law_hex_right K) := by
  have G_hex_text := ok_hex_text (P := P) (w := w) B
  have G__law_hex_due := ok__law_hex_due (P := P) (w := w) B
  have G_read_text := ok_read_text (P := P) (w := w) B
  have S : FnScope ["_law_form_here", "_law_code", "_law_sign", "_law_text", "_law_way"] ["_law_form_here", "_law_code", "_law_sign"] (defScope (ts 61)) := ⟨rfl, rfl, rfl, by decide +kernel, rfl, by decide +kernel, by decide +kernel⟩
  refine mk_ok B 41 61 rfl rfl S (fun _ _ _ _ _ _ us hl => match us, hl with | [_, _, _], _ => rfl) (fun vs H Q E h => ?_) (fun f0 cdv A outer s H vs Q E hr h => ?_)
  · obtain ⟨a, f, c, sg, rfl, hF, fb, hc, q⟩ := h; rfl
  · obtain ⟨a, f, c, sg, rfl, hF, fb, hc, q⟩ := h
    have scn := S.nd
    refine ⟨_, (pss_cons (ps_set (i := 3) scn rfl (.inr rfl) (pe_callD G_hex_text (hr.mono (by decide)) (by rfl) (pa_cons (pv 0) (pa_cons (pv 2) (pa_cons (pv 1) pa_nil)))))
      (pss_cons (ps_if (pt_cmpR op_ne (pv 3) (pe_op op_addL (pe_ix ix_list (pe_lst (pa_cons (pe_strS [] (by decide +kernel)) (pa_cons (pe_strS [45] (by decide +kernel)) pa_nil))) (pv 2) (fun _ _ => rfl)) (pe_callD G__law_hex_due (hr.mono (by decide)) (by rfl) (pa_cons (pv 0) (pa_cons (pv 1) pa_nil)))) (nomark _))
        (pss_one (ps_ret pe_bl))
        pss_nil)
      (pss_one (ps_ret (pe_cmpR (op_eqD hr.units) (pe_lc (own := [("_law_way", 4)]) (g := gName 4) (tt := tYes) rfl scn ((pi_tup (pe_tup (pa_cons pe_str (pa_cons pe_str (pa_cons pe_str (pa_cons pe_str (pa_cons pe_str pa_nil)))))))) (blkOk_by (own := [("_law_way", 4)]) (N := ["_law_form_here", "_law_code", "_law_sign", "_law_text", "_law_way"]) (sc := defScope (ts 61)) (by decide +kernel)) (fun _ _ _ _ _ => pg_name (i := 4) scn rfl (Or.inl rfl)) (fun _ _ _ _ _ => pts_nil) (fun _ _ _ _ _ => (pe_callD G_read_text (hr.mono (by decide)) (by rfl) (pa_cons (pv 0) (pa_cons (pv 4) (pa_cons (pv 3) pa_nil)))))) (pe_op op_rep (pe_lst (pa_cons (pe_tup (pa_cons (pv 2) (pa_cons (pv 1) pa_nil))) pa_nil)) pe_int) (nomark _)))))), ?_⟩
    have hfl := fr_len sg
    have hxl := hex_len fb hc
    obtain ⟨r, hpr, hrd⟩ := hex_parsed fb hc
    refine ⟨_, rfl, _, rfl, _, rfl, a, f, sg, c, rfl, hF, fb, hc, fun H1 s1 => ?_⟩
    refine ⟨_, rfl, l2, fun p2 hp2 => ?_⟩
    have s2 := s1.trans (same_new (o := .lst [.str (SX.S []), .str (SX.S [45])]) hp2)
    refine ⟨_, rfl, p2, _, sgi sg, .str (SX.S (fr sg)), rfl, rfl, sq_l, by cases sg <;> rfl, ?_⟩
    generalize upd H1 p2 (.lst [.str (SX.S []), .str (SX.S [45])]) = H2 at s2 ⊢
    refine ⟨_, rfl, _, rfl, a, f, c, rfl, hF.up s2, fb, hc, fun H3 s3 => ?_⟩
    have t3 := s2.trans s3
    refine ⟨_, _, rfl, rfl, by omega, rfl, _, rfl, ifN (fun h => absurd rfl h) (fun _ => ?_)⟩
    refine ⟨l5, fun p4 hp4 => ?_⟩
    
    have hH4 : Same H3 (upd H3 p4 (.tup (ways.map fun W => V.str W.nm))) := same_new hp4
    have tT : SqT K (upd H3 p4 (.tup (ways.map fun W => V.str W.nm))) p4 (ways.map fun W => V.str W.nm) := sq_t
    refine ⟨p4, rfl, ⟨_, tT⟩, fun D hD => ?_⟩
    replace hD : upd H3 p4 (.tup (ways.map fun W => V.str W.nm)) D = none := hD
    show ∃ W0 : Nat → Nat → Hp → Prop, (∃ m0, W0 0 m0 (upd (upd H3 p4 (.tup (ways.map fun W => V.str W.nm))) D (.lst []))) ∧ _
    generalize upd H3 p4 (.tup (ways.map fun W => V.str W.nm)) = G4 at hH4 tT hD ⊢
    refine lc_tup (K := K) (a := p4) (xs := ways.map fun W => V.str W.nm) (fun i G => ∃ ps : List Addr, G D = some (.lst (ps.map V.ref)) ∧ Same G4 G ∧ Prs G (sgi sg) ps (([c, c, c, c, c]).take i)) ⟨[], upd_same, same_new hD, trivial⟩ (fun i G _ h => Same.sqt h.choose_spec.2.1 tT) (fun i x G hi hP => ?_) (fun G5 hP => ?_)
    · obtain ⟨ps, hp1, hs1, hp2⟩ := hP
      rw [List.getElem?_map] at hi
      obtain ⟨W, hW, hx⟩ := Option.map_eq_some_iff.mp hi
      subst hx
      have hil : i < 5 := by
        by_cases z : i < 5
        · exact z
        · rw [List.getElem?_eq_none (show ways.length ≤ i from by show 5 ≤ i; omega)] at hW
          cases hW
      refine ⟨rfl, _, rfl, _, rfl, _, rfl, a, f, W, sg, hexDue f c, r, c, rfl, hF.up ((t3).trans (hH4.trans hs1)), fb, by rw [List.length_append]; omega, hpr, hrd W, fun p9 G9 s9 hp9 => ?_⟩
      refine ⟨_, s9 _ _ hp1, ?_, ps ++ [p9], ?_, same_at hD (hs1.trans s9), ?_⟩
      · rw [List.length_map, hp2.len, List.length_take, sizeLine_eq]
        omega
      · rw [upd_same, List.map_append]
        rfl
      · have e9 : ([c, c, c, c, c]).take (i + 1) = ([c, c, c, c, c]).take i ++ [c] := by
          rw [List.take_add_one]
          have hc9 : i = 0 ∨ i = 1 ∨ i = 2 ∨ i = 3 ∨ i = 4 := by omega
          rcases hc9 with rfl | rfl | rfl | rfl | rfl <;> cases (Option.some.inj hW) <;> rfl
        rw [e9]
        exact ((hp2.up s9).snoc hp9).off (fun x y z => by rw [s9 _ _ hp1] at z; cases z)
    obtain ⟨ps, hp1, hs1, hp2⟩ := hP
    have hp3 : Prs G5 (sgi sg) ps ([c, c, c, c, c]) := hp2
    
    refine ⟨_, rfl, _, rfl, l2, fun p5 hp5 => ?_⟩
    have s5 := same_new (o := .tup [.int (sgi sg), .int (c : Int)]) hp5
    refine ⟨l1', fun p6 hp6 => ?_⟩
    have s6 := s5.trans (same_new (o := .lst [.ref p5]) hp6)
    refine ⟨p6, 5, [.ref p5], rfl, rfl, upd_same, by decide, by decide, by show 1 * 5 ≤ sizeLine; decide, fun p7 hp7 => ?_⟩
    have s7 := s6.trans (same_new (o := .lst (List.replicate (5 : Int).toNat [V.ref p5]).flatten) hp7)
    have u5 := (same_new (o := .lst (List.replicate (5 : Int).toNat [V.ref p5]).flatten) hp7) _ _ ((same_new (o := .lst [.ref p5]) hp6) _ _ (@upd_same G5 p5 (.tup [.int (sgi sg), .int (c : Int)])))
    have uL : SqL K _ p7 _ := .inl (.inl (@upd_same (upd (upd G5 p5 (.tup [.int (sgi sg), .int (c : Int)])) p6 (.lst [.ref p5])) p7 (.lst (List.replicate (5 : Int).toNat [V.ref p5]).flatten)))
    generalize upd (upd (upd G5 p5 (.tup [.int (sgi sg), .int (c : Int)])) p6 (.lst [.ref p5])) p7 (.lst (List.replicate (5 : Int).toNat [V.ref p5]).flatten) = G7 at s7 u5 uL
    have hq7 : Prs G7 (sgi sg) [p5, p5, p5, p5, p5] [c, c, c, c, c] := ⟨u5, u5, u5, u5, u5, trivial⟩
    refine ⟨prl (sgi sg) [c, c, c, c, c], prl (sgi sg) [c, c, c, c, c], .lst (.inl (.inl (s7 _ _ hp1))) (hp3.up s7).dp, .lst uL hq7.dp, shaped_prl5 _ _ _ _ _ _, shaped_prl5 _ _ _ _ _ _, ?_⟩
    rw [eqv_prl]
    exact q _ (t3.trans (hH4.trans (hs1.trans s7)))

end
end NT
/-! text W12 -/
set_option Elab.async false
set_option linter.all false
set_option maxRecDepth 100000
set_option maxHeartbeats 2000000
namespace NT
open PySem PySem.Spec PyProof.Rows L2 PySem.NumText
/-! ### the three texts near a middle -/
def mds : List Md := [.mid, .above, .below]
def outs (k : Md) (c : Nat) : List Nat := [k.due .even c, k.due .away c, c, c + 1, c + 1 - c % 2]
def pick3 (q1 q2 q3 : Addr) : Md → Addr
  | .mid => q1
  | .above => q2
  | .below => q3
theorem decMid_len {f : Fm} (g : GF f) {c : Nat} (hc : c < f.N) (k : Md) : (decMid (exD (2 * f.m c + 1) (f.e c - 1)) (exQ (f.e c - 1)) k).length ≤ 2000 := by
  obtain ⟨_, hu⟩ := ex_bound g hc
  have h2 := f.e_lo c
  have h3 := g.lo
  have hq1 : -1075 ≤ exQ (f.e c - 1) := by unfold exQ; split <;> omega
  have hq2 : exQ (f.e c - 1) ≤ 0 := by unfold exQ; split <;> omega
  generalize exD (2 * f.m c + 1) (f.e c - 1) = u at *
  generalize exQ (f.e c - 1) = q at *
  have hz1 : (10 : Nat) ^ 1102 = 10 * 10 ^ 1101 := by rw [Nat.pow_succ, Nat.mul_comm]
  have hd : ∀ {x : Nat}, x < 10 ^ 1102 → (ds x).length ≤ 1102 := fun {x} h => ds_le (by decide) h
  have s1 := sd_len (z := q) (by omega)
  have s2 := sd_len (z := q - 1) (by omega)
  have d1 := hd (x := u) (by omega)
  have d2 := hd (x := 10 * u + 1) (by omega)
  have d3 := hd (x := 10 * u - 1) (by omega)
  clear hz1 hd hu
  cases k <;> unfold decMid <;> simp <;> omega
structure Good (HX H : Hp) (p3 q4 q1 q2 q3 : Addr) (c : Nat) (ts : Md → List Nat) : Prop where
  s : Same HX H
  t : H p3 = some (.lst (mds.map fun k => V.str (SX.S (ts k))))
  d : H q4 = some (.lst (mds.map fun k => V.ref (pick3 q1 q2 q3 k)))
  o : ∀ k : Md, H (pick3 q1 q2 q3 k) = some (.lst [.int (k.due .even c : Nat), .int (k.due .away c : Nat)])
theorem Good.up {HX H H' : Hp} {p3 q4 q1 q2 q3 : Addr} {c : Nat} {ts : Md → List Nat} (g : Good HX H p3 q4 q1 q2 q3 c ts) (s : Same H H') : Good HX H' p3 q4 q1 q2 q3 c ts := ⟨g.s.trans s, s _ _ g.t, s _ _ g.d, fun k => s _ _ (g.o k)⟩
structure DecSide (u : Nat) (z : Int) : Prop where
  ub : (u : Int).natAbs < 10 ^ 4300
  ub1 : (10 * (u : Int) + 1).natAbs < 10 ^ 4300
  ub2 : (10 * (u : Int) - 1).natAbs < 10 ^ 4300
  zb : z.natAbs < 10 ^ 4300
  zb2 : (z - 1).natAbs < 10 ^ 4300
  mul : CMulX 10 (u : Int)
  e1 : sd (u : Int) ++ [101] ++ sd z = decMid u z .mid
  e2 : sd (10 * (u : Int) + 1) ++ [101] ++ sd (z - 1) = decMid u z .above
  e3 : sd (10 * (u : Int) - 1) ++ [101] ++ sd (z - 1) = decMid u z .below
  a1 : (sd (u : Int)).length ≤ 5000
  a2 : (sd (10 * (u : Int) + 1)).length ≤ 5000
  a3 : (sd (10 * (u : Int) - 1)).length ≤ 5000
  b1 : (sd (u : Int) ++ [101]).length ≤ 5000
  b2 : (sd (10 * (u : Int) + 1) ++ [101]).length ≤ 5000
  b3 : (sd (10 * (u : Int) - 1) ++ [101]).length ≤ 5000
  z1 : (sd z).length ≤ 5000
  z2 : (sd (z - 1)).length ≤ 5000
theorem dec_side {u : Nat} {z : Int} (hu1 : 1 ≤ u) (hu2 : u < 10 ^ 1101) (hq1 : -1075 ≤ z) (hq2 : z ≤ 0) : DecSide u z := by
  have hz1 : (10 : Nat) ^ 1102 = 10 * 10 ^ 1101 := by rw [Nat.pow_succ, Nat.mul_comm]
  have x1 : 10 * u + 1 < 10 ^ 1102 := by omega
  have x2 : 10 * u - 1 < 10 ^ 1102 := by omega
  have x3 : u < 10 ^ 1102 := by omega
  have big : ∀ {x : Nat}, x < 10 ^ 1102 → x < 10 ^ 4300 := fun h => Nat.lt_trans h (Nat.pow_lt_pow_right (by decide) (by decide))
  have bz : ∀ {i : Int}, i.natAbs < 10 ^ 5 → i.natAbs < 10 ^ 4300 := fun h => Nat.lt_of_lt_of_le h (Nat.pow_le_pow_right (by decide) (by decide))
  have bits : u < 2 ^ 4000 := Nat.lt_trans x3 (Nat.lt_of_le_of_lt (Nat.pow_le_pow_right (by decide) (show 1102 ≤ 1200 by decide)) ten1200)
  have ca : (10 * (u : Int) + 1) = ((10 * u + 1 : Nat) : Int) := by omega
  have cb : (10 * (u : Int) - 1) = ((10 * u - 1 : Nat) : Int) := by omega
  have s1 := sd_len (z := z) (by omega)
  have s2 := sd_len (z := z - 1) (by omega)
  have d1 := ds_le (k := 1102) (by decide) x3
  have d2 := ds_le (k := 1102) (by decide) x1
  have d3 := ds_le (k := 1102) (by decide) x2
  have zz : z.natAbs < 10 ^ 5 ∧ (z - 1).natAbs < 10 ^ 5 := by omega
  rw [← sd_nat] at d1 d2 d3
  refine ⟨by rw [nab]; exact big x3, by rw [ca, nab]; exact big x1, by rw [cb, nab]; exact big x2, bz zz.1, bz zz.2, cmulN (n := 10) (a := 4) (by decide) bits, ?_, ?_, ?_, by omega, ?_, ?_, ?_, ?_, ?_, by omega, by omega⟩
  · rw [sd_nat]
    unfold decMid
    simp
  · rw [ca, sd_nat]
    unfold decMid
    simp
  · rw [cb, sd_nat]
    unfold decMid
    simp
  · rw [ca]
    omega
  · rw [cb]
    omega
  · rw [List.length_append, List.length_singleton]
    omega
  · rw [ca, List.length_append, List.length_singleton]
    omega
  · rw [cb, List.length_append, List.length_singleton]
    omega
section
variable {P : Program} {w : World} {K : PySem.W.Frag} {mg : Str → Option Value} {base : Heap}

def sp__law_decimals_right (K : PySem.W.Frag) : Sp := fun vs H Q _ => ∃ (a : Addr) (f : Fm) (c : Nat), vs = [.ref a, .int (c : Int)] ∧ Frm K H a f ∧ GF f ∧ c < f.N ∧ ∀ H', Same H H' → Q (.bl true) H'
theorem ok__law_decimals_right (B : Bs K mg base) : OkD P w K mg base "_law_decimals_right" 7 ["_law_form_here", "_law_code"] (sp__law_decimals_right K) := by
  have G_value_of := ok_value_of (P := P) (w := w) B
  have G__law_exact := ok__law_exact (P := P) (w := w) B
  have G_read_text := ok_read_text (P := P) (w := w) B
  have S : FnScope ["_law_form_here", "_law_code", "_law_odd", "_law_texts", "_law_dues", "_law_m", "_law_e", "_law_d", "_law_q", "_law_text", "_law_due_here", "_law_found", "_law_way", "_law_one"] ["_law_form_here", "_law_code"] (defScope (ts 63)) := ⟨rfl, rfl, rfl, by decide +kernel, rfl, by decide +kernel, by decide +kernel⟩
  refine mk_ok B 43 63 rfl rfl S (fun _ _ _ _ _ _ us hl => match us, hl with | [_, _], _ => rfl) (fun vs H Q E h => ?_) (fun f0 cdv A outer s H vs Q E hr h => ?_)
  · obtain ⟨a, f, c, rfl, hF, g, hc, q⟩ := h; rfl
  · obtain ⟨a, f, c, rfl, hF, g, hc, q⟩ := h
    have scn := S.nd
    refine ⟨_, (pss_cons (ps_asg (pe_callD G_value_of (hr.mono (by decide)) (by rfl) (pa_cons (pv 0) (pa_cons (pv 1) pa_nil))) (pg_tup rfl (pgs_cons (pg_name (i := 5) scn rfl (.inl rfl)) (pgs_cons (pg_name (i := 6) scn rfl (.inl rfl)) pgs_nil))))
      (pss_cons (ps_asg (pe_callD G__law_exact (hr.mono (by decide)) (by rfl) (pa_cons (pe_op op_add (pe_op op_mulX pe_int (pv 5)) pe_int) (pa_cons (pe_op op_sub (pv 6) pe_int) pa_nil))) (pg_lst rfl (pgs_cons (pg_name (i := 7) scn rfl (.inl rfl)) (pgs_cons (pg_name (i := 8) scn rfl (.inl rfl)) pgs_nil))))
      (pss_cons (ps_set (i := 2) scn rfl (.inl rfl) (pe_op op_sub (pe_op op_add (pv 1) pe_int) (pe_op op_mod (pe_callTy call_int1 (by rfl) (B.fre 52) (by decide +kernel) (pa_cons (pv 1) pa_nil)) pe_int)))
      (pss_cons (ps_set (i := 3) scn rfl (.inl rfl) (pe_lst (pa_cons (pe_op op_addL (pe_op op_addL (pe_callTy (call_strI rfl B.nd) (by rfl) (B.fre 58) (by decide +kernel) (pa_cons (pv 7) pa_nil)) (pe_strS [101] (by decide +kernel))) (pe_callTy (call_strI rfl B.nd) (by rfl) (B.fre 58) (by decide +kernel) (pa_cons (pv 8) pa_nil))) (pa_cons (pe_op op_addL (pe_op op_addL (pe_callTy (call_strI rfl B.nd) (by rfl) (B.fre 58) (by decide +kernel) (pa_cons (pe_op op_add (pe_op op_mulX pe_int (pv 7)) pe_int) pa_nil)) (pe_strS [101] (by decide +kernel))) (pe_callTy (call_strI rfl B.nd) (by rfl) (B.fre 58) (by decide +kernel) (pa_cons (pe_op op_sub (pv 8) pe_int) pa_nil))) (pa_cons (pe_op op_addL (pe_op op_addL (pe_callTy (call_strI rfl B.nd) (by rfl) (B.fre 58) (by decide +kernel) (pa_cons (pe_op op_sub (pe_op op_mulX pe_int (pv 7)) pe_int) pa_nil)) (pe_strS [101] (by decide +kernel))) (pe_callTy (call_strI rfl B.nd) (by rfl) (B.fre 58) (by decide +kernel) (pa_cons (pe_op op_sub (pv 8) pe_int) pa_nil))) pa_nil)))))
      (pss_cons (ps_set (i := 4) scn rfl (.inl rfl) (pe_lst (pa_cons (pe_lst (pa_cons (pe_op op_add (pv 1) (pe_op op_mod (pe_callTy call_int1 (by rfl) (B.fre 52) (by decide +kernel) (pa_cons (pv 1) pa_nil)) pe_int)) (pa_cons (pe_op op_add (pv 1) pe_int) pa_nil))) (pa_cons (pe_lst (pa_cons (pe_op op_add (pv 1) pe_int) (pa_cons (pe_op op_add (pv 1) pe_int) pa_nil))) (pa_cons (pe_lst (pa_cons (pv 1) (pa_cons (pv 1) pa_nil))) pa_nil)))))
      (pss_cons (ps_for PassesOwn.never rfl (pi_zip (by rfl) (B.fre 60) (pa_cons (pv 3) (pa_cons (pv 4) pa_nil))) (pg_tup rfl (pgs_cons (pg_name (i := 9) scn rfl (.inr rfl)) (pgs_cons (pg_name (i := 10) scn rfl (.inl rfl)) pgs_nil)))
        (pss_cons (ps_setLc (i := 11) (own := [("_law_way", 12)]) (g := gName 12) (tt := tYes) rfl scn rfl rfl (sw_true rfl rfl rfl (by decide +kernel)) (pi_tup (pe_tup (pa_cons pe_str (pa_cons pe_str (pa_cons pe_str (pa_cons pe_str (pa_cons pe_str pa_nil))))))) (blkOk_by (own := [("_law_way", 12)]) (N := ["_law_form_here", "_law_code", "_law_odd", "_law_texts", "_law_dues", "_law_m", "_law_e", "_law_d", "_law_q", "_law_text", "_law_due_here", "_law_found", "_law_way", "_law_one"]) (sc := defScope (ts 63)) (by decide +kernel)) (fun _ _ _ _ _ => pg_name (i := 12) scn rfl (Or.inl rfl)) (fun _ _ _ _ _ => pts_nil) (fun _ _ _ _ _ => (pe_callD G_read_text (hr.mono (by decide)) (by rfl) (pa_cons (pv 0) (pa_cons (pv 12) (pa_cons (pv 9) pa_nil))))))
          (pss_one (ps_if (pt_cmpR (op_neD hr.units) (pv 11) (pe_lc (own := [("_law_one", 13)]) (g := gName 13) (tt := tYes) rfl scn ((pi_list (pe_op op_cat (pv 10) (pe_lst (pa_cons (pv 1) (pa_cons (pe_op op_add (pv 1) pe_int) (pa_cons (pv 2) pa_nil))))))) (blkOk_by (own := [("_law_one", 13)]) (N := ["_law_form_here", "_law_code", "_law_odd", "_law_texts", "_law_dues", "_law_m", "_law_e", "_law_d", "_law_q", "_law_text", "_law_due_here", "_law_found", "_law_way", "_law_one"]) (sc := defScope (ts 63)) (by decide +kernel)) (fun _ _ _ _ _ => pg_name (i := 13) scn rfl (Or.inl rfl)) (fun _ _ _ _ _ => pts_nil) (fun _ _ _ _ _ => (pe_tup (pa_cons pe_int (pa_cons (pv 13) pa_nil))))) (nomark _))
          (pss_one (ps_ret pe_bl))
          pss_nil))))
      (pss_one (ps_ret pe_bl)))))))), ?_⟩
    have fb := g.fb
    have hdm := fun k => dec_mid g hc k
    have hdl := fun k => decMid_len g hc k
    obtain ⟨hu1, hu2⟩ := ex_bound g hc
    have b1 := fb.p
    have he1 := f.e_lo c
    have he2 := f.e_hi fb.ok hc
    have he3 := g.lo
    have he4 := g.hi
    have hm : 2 * f.m c + 1 < 2 ^ 200 := by
      have h1 := f.m_lt fb.ok c
      have h2 : 2 ^ f.p ≤ 2 ^ 128 := Nat.pow_le_pow_right (by decide) b1
      have h3 : (2 : Nat) ^ 200 = 2 ^ 72 * 2 ^ 128 := by rw [← Nat.pow_add]
      omega
    refine ⟨_, rfl, _, rfl, a, f, c, rfl, hF, fb, hc, fun p1 H1 s1 hp1 => ?_⟩
    refine ⟨p1, _, rfl, .inl (.inl hp1), rfl, _, _, rfl, _, _, rfl, rfl, ?_⟩
    refine ⟨_, rfl, _, _, rfl, rfl, cmulN (n := 2) (m := f.m c) (a := 2) (b := 200) (by decide) (by omega), _, _, rfl, rfl, _, rfl, _, _, rfl, rfl, 2 * f.m c + 1, f.e c - 1, ?_, hm, by omega, by omega, fun p2 H2 s2 hp2 => ?_⟩
    · show [V.int (2 * ((f.m c : Nat) : Int) + 1), V.int (f.e c - 1)] = _
      rw [show 2 * ((f.m c : Nat) : Int) + 1 = ((2 * f.m c + 1 : Nat) : Int) by omega]
    have hp2' : H2 p2 = some (.lst [.int (exD (2 * f.m c + 1) (f.e c - 1) : Nat), .int (exQ (f.e c - 1))]) := hp2
    have t2 := s1.trans s2
    have hq1 : -1075 ≤ exQ (f.e c - 1) := by unfold exQ; split <;> omega
    have hq2 : exQ (f.e c - 1) ≤ 0 := by unfold exQ; split <;> omega
    generalize hU : exD (2 * f.m c + 1) (f.e c - 1) = u at hdm hdl hu1 hu2 hp2'
    generalize hQ : exQ (f.e c - 1) = z at hdm hdl hq1 hq2 hp2'
    clear hp2
    generalize hM0 : f.m c = m0 at hm hu1 ⊢
    generalize hE0 : f.e c = e0 at he1 he2 ⊢
    refine ⟨p2, _, rfl, .inl (.inl hp2'), rfl, _, _, rfl, _, _, rfl, rfl, ?_⟩
    refine ⟨_, rfl, _, _, rfl, rfl, _, rfl, .inl ⟨_, rfl, _, _, rfl, rfl, (show (0 : Int) < 2 by decide), _, _, rfl, rfl, ?_⟩⟩
    show gName 2 (V.int (_ - _)) _ _ _
    rw [show ((c : Int) + 1 - (c : Int) % 2) = ((c + 1 - c % 2 : Nat) : Int) by omega]
    have ⟨hub, hub1, hub2, hzb, hzb2, hmul, e1, e2, e3, l1a, l2a, l3a, l1b, l2b, l3b, lz, lz1⟩ := dec_side (u := u) (z := z) (by omega) hu2 hq1 hq2
    have c0 : ∀ {A B : List Nat}, A.length ≤ 5000 → B.length ≤ 5000 → A.length + B.length ≤ 16777216 := fun h1 h2 => by clear hu2; omega
    have o1 : ([101] : List Nat).length ≤ 5000 := by decide
    refine ⟨_, rfl, _, rfl, hub, _, _, rfl, rfl, c0 l1a o1, _, rfl, _, rfl, hzb, _, _, rfl, rfl, c0 l1b lz, ?_⟩
    refine ⟨_, rfl, _, _, rfl, rfl, hmul, _, _, rfl, rfl, _, rfl, hub1, _, _, rfl, rfl, c0 l2a o1, _, rfl, _, _, rfl, rfl, _, rfl, hzb2, _, _, rfl, rfl, c0 l2b lz1, ?_⟩
    refine ⟨_, rfl, _, _, rfl, rfl, hmul, _, _, rfl, rfl, _, rfl, hub2, _, _, rfl, rfl, c0 l3a o1, _, rfl, _, _, rfl, rfl, _, rfl, hzb2, _, _, rfl, rfl, c0 l3b lz1, l3, fun p3 hp3 => ?_⟩
    rw [e1, e2, e3]
    have kp := same_new (o := .lst [.str (SX.S (decMid u z .mid)), .str (SX.S (decMid u z .above)), .str (SX.S (decMid u z .below))]) hp3
    have vp := @upd_same H2 p3 (.lst [.str (SX.S (decMid u z .mid)), .str (SX.S (decMid u z .above)), .str (SX.S (decMid u z .below))])
    generalize upd H2 p3 (.lst [.str (SX.S (decMid u z .mid)), .str (SX.S (decMid u z .above)), .str (SX.S (decMid u z .below))]) = HX at kp vp ⊢
    refine ⟨_, rfl, _, rfl, .inl ⟨_, rfl, _, _, rfl, rfl, (show (0 : Int) < 2 by decide), _, _, rfl, rfl, _, rfl, _, _, rfl, rfl, l2, fun q1 h1 => ?_⟩⟩
    refine ⟨_, rfl, _, _, rfl, rfl, _, rfl, _, _, rfl, rfl, l2, fun q2 h2 => ?_⟩
    refine ⟨_, rfl, _, rfl, l2, fun q3 h3 => ?_⟩
    refine ⟨l3, fun q4 h4 => ?_⟩
    have k1 := same_new (o := .lst [.int ((c : Int) + (c : Int) % 2), .int ((c : Int) + 1)]) h1
    have k2 := same_new (o := .lst [.int ((c : Int) + 1), .int ((c : Int) + 1)]) h2
    have k3 := same_new (o := .lst [.int (c : Int), .int (c : Int)]) h3
    have k4 := same_new (o := .lst [.ref q1, .ref q2, .ref q3]) h4
    have v1 := k4 _ _ (k3 _ _ (k2 _ _ (@upd_same HX q1 (.lst [.int ((c : Int) + (c : Int) % 2), .int ((c : Int) + 1)]))))
    have v2 := k4 _ _ (k3 _ _ (@upd_same (upd HX q1 (.lst [.int ((c : Int) + (c : Int) % 2), .int ((c : Int) + 1)])) q2 (.lst [.int ((c : Int) + 1), .int ((c : Int) + 1)])))
    have v3 := k4 _ _ (@upd_same (upd (upd HX q1 (.lst [.int ((c : Int) + (c : Int) % 2), .int ((c : Int) + 1)])) q2 (.lst [.int ((c : Int) + 1), .int ((c : Int) + 1)])) q3 (.lst [.int (c : Int), .int (c : Int)]))
    have v4 := @upd_same (upd (upd (upd HX q1 (.lst [.int ((c : Int) + (c : Int) % 2), .int ((c : Int) + 1)])) q2 (.lst [.int ((c : Int) + 1), .int ((c : Int) + 1)])) q3 (.lst [.int (c : Int), .int (c : Int)])) q4 (.lst [.ref q1, .ref q2, .ref q3])
    have kk := k1.trans (k2.trans (k3.trans k4))
    have gd : Good HX _ p3 q4 q1 q2 q3 c (decMid u z) := Good.mk kk (k4 _ _ (k3 _ _ (k2 _ _ (k1 _ _ vp)))) v4 (fun k => by
      cases k with
      | mid => exact v1.trans (by rw [show (c : Int) + (c : Int) % 2 = ((c + c % 2 : Nat) : Int) by omega, show (c : Int) + 1 = ((c + 1 : Nat) : Int) by omega]; rfl)
      | above => exact v2.trans (by rw [show (c : Int) + 1 = ((c + 1 : Nat) : Int) by omega]; rfl)
      | below => exact v3)
    
    refine ⟨_, rfl, _, rfl, p3, q4, mds.map fun k => V.str (SX.S (decMid u z k)), mds.map fun k => V.ref (pick3 q1 q2 q3 k), rfl, .inl (.inl gd.t), .inl (.inl gd.d), ?_⟩
    refine RZ.for_zipL (K := K) (a := p3) (b := q4) (xs := mds.map fun k => V.str (SX.S (decMid u z k))) (ys := mds.map fun k => V.ref (pick3 q1 q2 q3 k)) rfl (fun i σ G => ∃ w9 w10 w11 w12 w13, σ = [some (.ref a), some (.int (c : Int)), some (.int ((c + 1 - c % 2 : Nat) : Int)), some (.ref p3), some (.ref q4), some (.int (m0 : Int)), some (.int e0), some (.int (u : Int)), some (.int z), w9, w10, w11, w12, w13] ∧ Good HX G p3 q4 q1 q2 q3 c (decMid u z))
      ⟨none, none, none, none, none, rfl, gd⟩ (fun i σ G hP => ⟨.inl (.inl hP.choose_spec.choose_spec.choose_spec.choose_spec.choose_spec.2.t), .inl (.inl hP.choose_spec.choose_spec.choose_spec.choose_spec.choose_spec.2.d)⟩) (fun i x y T σ G hx hy hP hT => ?_) (fun σ G hP => ?_)
    · obtain ⟨w9, w10, w11, w12, w13, rfl, gg⟩ := hP
      rw [List.getElem?_map] at hx hy
      obtain ⟨k, hk, hkx⟩ := Option.map_eq_some_iff.mp hx
      obtain ⟨k', hk', hky⟩ := Option.map_eq_some_iff.mp hy
      rw [hk] at hk'
      cases hk'
      subst hkx hky
      have gT := gg.up (same_new (o := .tup [.str (SX.S (decMid u z k)), .ref (pick3 q1 q2 q3 k)]) hT)
      refine ⟨T, _, rfl, sq_t, rfl, _, _, rfl, _, _, rfl, rfl, ?_⟩
      generalize upd G T (.tup [.str (SX.S (decMid u z k)), .ref (pick3 q1 q2 q3 k)]) = G1 at gT ⊢
      obtain ⟨n, zz, hdec, hrd⟩ := hdm k
      have hdl' := hdl k
      have t4 := t2.trans (kp.trans gT.s)
      refine ⟨l5, fun p4 hp4 => ?_⟩
    
      have hH4 : Same G1 (upd G1 p4 (.tup (ways.map fun W => V.str W.nm))) := same_new hp4
      have tT : SqT K (upd G1 p4 (.tup (ways.map fun W => V.str W.nm))) p4 (ways.map fun W => V.str W.nm) := sq_t
      refine ⟨p4, rfl, ⟨_, tT⟩, fun D hD => ?_⟩
      replace hD : upd G1 p4 (.tup (ways.map fun W => V.str W.nm)) D = none := hD
      show ∃ W0 : Nat → Nat → Hp → Prop, (∃ m0, W0 0 m0 (upd (upd G1 p4 (.tup (ways.map fun W => V.str W.nm))) D (.lst []))) ∧ _
      generalize upd G1 p4 (.tup (ways.map fun W => V.str W.nm)) = G4 at hH4 tT hD ⊢
      refine lc_tup (K := K) (a := p4) (xs := ways.map fun W => V.str W.nm) (fun i G => ∃ ps : List Addr, G D = some (.lst (ps.map V.ref)) ∧ Same G4 G ∧ Prs G 0 ps ((outs k c).take i)) ⟨[], upd_same, same_new hD, trivial⟩ (fun i G _ h => Same.sqt h.choose_spec.2.1 tT) (fun i x G hi hP => ?_) (fun G5 hP => ?_)
      · obtain ⟨ps, hp1, hs1, hp2⟩ := hP
        rw [List.getElem?_map] at hi
        obtain ⟨W, hW, hx⟩ := Option.map_eq_some_iff.mp hi
        subst hx
        have hil : i < 5 := by
          by_cases z : i < 5
          · exact z
          · rw [List.getElem?_eq_none (show ways.length ≤ i from by show 5 ≤ i; omega)] at hW
            cases hW
        refine ⟨rfl, _, rfl, _, rfl, _, rfl, a, f, W, false, decMid u z k, _, k.due W c, rfl, hF.up ((t4).trans (hH4.trans hs1)), fb, by show (decMid u z k).length ≤ 90000; clear hu2; omega, .dec hdec, hrd W, fun p9 G9 s9 hp9 => ?_⟩
        refine ⟨_, s9 _ _ hp1, ?_, ps ++ [p9], ?_, same_at hD (hs1.trans s9), ?_⟩
        · rw [List.length_map, hp2.len, List.length_take, sizeLine_eq]
          omega
        · rw [upd_same, List.map_append]
          rfl
        · have e9 : (outs k c).take (i + 1) = (outs k c).take i ++ [k.due W c] := by
            rw [List.take_add_one]
            have hc9 : i = 0 ∨ i = 1 ∨ i = 2 ∨ i = 3 ∨ i = 4 := by omega
            rcases hc9 with rfl | rfl | rfl | rfl | rfl <;> cases (Option.some.inj hW) <;> cases k <;> rfl
          rw [e9]
          exact ((hp2.up s9).snoc hp9).off (fun x y z => by rw [s9 _ _ hp1] at z; cases z)
      obtain ⟨ps, hp1, hs1, hp2⟩ := hP
      have hp3 : Prs G5 0 ps (outs k c) := hp2
      have hs5 : Same G1 G5 := hH4.trans hs1
      refine ⟨_, rfl, _, rfl, _, rfl, _, rfl, _, _, rfl, rfl, _, rfl, l3, fun p6 hp6 => ?_⟩
      have sp6 := same_new (o := .lst [.int (c : Int), .int ((c : Int) + 1), .int ((c + 1 - c % 2 : Nat) : Int)]) hp6
      refine ⟨pick3 q1 q2 q3 k, p6, _, _, rfl, rfl, sp6 _ _ (hs5 _ _ (gT.o k)), upd_same, by show 5 ≤ sizeLine; decide, fun p7 hp7 => ?_⟩
      have sp7 := same_new (o := .lst ([.int (k.due .even c : Nat), .int (k.due .away c : Nat)] ++ [.int (c : Int), .int ((c : Int) + 1), .int ((c + 1 - c % 2 : Nat) : Int)])) hp7
      have up7 := @upd_same (upd G5 p6 (.lst [.int (c : Int), .int ((c : Int) + 1), .int ((c + 1 - c % 2 : Nat) : Int)])) p7 (.lst ([.int (k.due .even c : Nat), .int (k.due .away c : Nat)] ++ [.int (c : Int), .int ((c : Int) + 1), .int ((c + 1 - c % 2 : Nat) : Int)]))
      have s57 := sp6.trans sp7
      refine ⟨p7, rfl, ⟨_, sq_l⟩, fun D2 hD2 => ?_⟩
      have s58 := s57.trans (same_new (o := .lst []) hD2)
      have up8 := (same_new (o := .lst []) hD2) _ _ up7
      have hD5 : G5 D2 = none := NT.Same.none s57 hD2
      have ne7 : p7 ≠ D2 := (ne_of_none' up7 hD2).symm
      refine lc_list (K := K) (a := p7) (xs := (outs k c).map fun x : Nat => V.int (x : Int)) (fun i G => ∃ ps' : List Addr, G D2 = some (.lst (ps'.map V.ref)) ∧ Same G5 G ∧ Prs G 0 ps' ((outs k c).take i) ∧ G p7 = some (.lst ((outs k c).map fun x : Nat => V.int (x : Int)))) ⟨[], upd_same, s58, trivial, up8⟩ (fun i G _ h => .inl (.inl h.choose_spec.2.2.2)) (fun i x G hi hP => ?_) (fun G6 hP => ?_)
      · obtain ⟨ps', hx1, hx2, hx3, hx4⟩ := hP
        rw [List.getElem?_map] at hi
        obtain ⟨y, hy1, hy2⟩ := Option.map_eq_some_iff.mp hi
        subst hy2
        refine ⟨rfl, _, rfl, l2, fun p8 hp8 => ?_⟩
        have sp8 := same_new (o := .tup [.int 0, .int (y : Int)]) hp8
        refine ⟨_, sp8 _ _ hx1, ?_, ps' ++ [p8], ?_, same_at hD5 (hx2.trans sp8), ?_, ?_⟩
        · rw [List.length_map, hx3.len, List.length_take, sizeLine_eq]
          show min i 5 < _
          omega
        · rw [upd_same, List.map_append]
          rfl
        · rw [List.take_add_one, hy1]
          exact ((hx3.up sp8).snoc upd_same).off (fun x y z => by rw [sp8 _ _ hx1] at z; cases z)
        · rw [upd_ne ne7]
          exact sp8 _ _ hx4
      obtain ⟨ps', hx1, hx2, hx3, hx4⟩ := hP
      have hx5 : Prs G6 0 ps' (outs k c) := by
        rw [List.length_map] at hx3
        rw [List.take_of_length_le (Nat.le_refl _)] at hx3
        exact hx3
      refine ⟨prl 0 (outs k c), prl 0 (outs k c), .lst (.inl (.inl (hx2 _ _ hp1))) (hp3.up hx2).dp, .lst (.inl (.inl hx1)) hx5.dp, shaped_prl5 _ _ _ _ _ _, shaped_prl5 _ _ _ _ _ _, ?_⟩
      rw [eqv_prl]
      refine ⟨_, rfl, ?_⟩
      exact ⟨_, _, _, _, _, rfl, gT.up (hs5.trans hx2)⟩
    · obtain ⟨w9, w10, w11, w12, w13, rfl, gg⟩ := hP
      exact q _ (t2.trans (kp.trans gg.s))

end
end NT
/-! text W13 -/
set_option Elab.async false
set_option linter.all false
set_option maxRecDepth 100000
set_option maxHeartbeats 2000000
namespace NT
open PySem PySem.Spec PyProof.Rows L2 PySem.NumText
theorem hexMid_len {M j : Nat} (hM : M < 2 ^ 129) (hM0 : 0 < M) (hj : 1 ≤ j) (hj2 : j ≤ 260) (k : Md) : (hexMid M j k).length ≤ 600 := by
  have h1 := hx_129 hM
  have h2 := below_le hM hj hj2
  cases k with
  | mid => exact Nat.le_trans h1 (by decide)
  | above =>
    unfold hexMid
    simp
    omega
  | below =>
    unfold hexMid
    simp
    omega
theorem shl_hex {m j : Nat} : (2 * (m : Int) + 1) * 2 ^ (4 * ((j : Nat) : Int)).toNat - 1 = (((2 * m + 1) * 16 ^ j - 1 : Nat) : Int) := by
  have e1 : (4 * ((j : Nat) : Int)).toNat = 4 * j := by omega
  have e2 : (2 : Int) ^ (4 * j) = ((16 ^ j : Nat) : Int) := by
    rw [show (16 : Nat) = 2 ^ 4 by decide, ← Nat.pow_mul]
    push_cast
    rfl
  have hp : 0 < 16 ^ j := Nat.pow_pos (by decide)
  have h1 : 1 ≤ (2 * m + 1) * 16 ^ j := Nat.mul_pos (by omega) hp
  rw [e1, e2, show (2 * (m : Int) + 1) = ((2 * m + 1 : Nat) : Int) by omega, ← Int.natCast_mul]
  omega
section
variable {P : Program} {w : World} {K : PySem.W.Frag} {mg : Str → Option Value} {base : Heap}

def sp__law_middle_right (K : PySem.W.Frag) : Sp := fun vs H Q _ => ∃ (d cc a : Addr) (n : Nat) (f : Fm) (c : Nat), vs = [.ref d, .ref a, .int (c : Int)] ∧ DeckAt H d cc n ∧ n ≤ 90000 ∧ H a = some (.tup [.int (f.p : Int), .int f.lo, .int f.hi]) ∧ FB f ∧ c < f.N ∧ ∀ H', DeckAt H' d cc (n + 1) → Keep d cc H H' → Q (.bl true) H'
theorem ok__law_middle_right (B : Bs K mg base) : OkD P w K mg base "_law_middle_right" 7 ["_law_deck_here", "_law_form_here", "_law_code"] (sp__law_middle_right K) := by
  have G_value_of := ok_value_of (P := P) (w := w) B
  have G__law_hex := ok__law_hex (P := P) (w := w) B
  have G__law_draw := ok__law_draw (P := P) (w := w) B
  have G_read_text := ok_read_text (P := P) (w := w) B
  have S : FnScope ["_law_deck_here", "_law_form_here", "_law_code", "_law_below", "_law_texts", "_law_dues", "_law_m", "_law_e", "_law_odd", "_law_more", "_law_text", "_law_due_here", "_law_shown", "_law_found", "_law_way", "_law_one"] ["_law_deck_here", "_law_form_here", "_law_code"] (defScope (ts 64)) := ⟨rfl, rfl, rfl, by decide +kernel, rfl, by decide +kernel, by decide +kernel⟩
  refine mk_ok B 44 64 rfl rfl S (fun _ _ _ _ _ _ us hl => match us, hl with | [_, _, _], _ => rfl) (fun vs H Q E h => ?_) (fun f0 cdv A outer s H vs Q E hr h => ?_)
  · obtain ⟨d, cc, a, n, f, c, rfl, hD, hn, ha, fb, hc, q⟩ := h; rfl
  · obtain ⟨d, cc, a, n, f, c, rfl, hD, hn, ha, fb, hc, q⟩ := h
    have scn := S.nd
    refine ⟨_, (pss_cons (ps_asg (pe_callD G_value_of (hr.mono (by decide)) (by rfl) (pa_cons (pv 1) (pa_cons (pv 2) pa_nil))) (pg_tup rfl (pgs_cons (pg_name (i := 6) scn rfl (.inl rfl)) (pgs_cons (pg_name (i := 7) scn rfl (.inl rfl)) pgs_nil))))
      (pss_cons (ps_par (i := 8) (j := 9) rfl scn rfl rfl (by decide) rfl rfl (pa_cons (pe_op op_sub (pe_op op_add (pv 2) pe_int) (pe_op op_mod (pe_callTy call_int1 (by rfl) (B.fre 52) (by decide +kernel) (pa_cons (pv 2) pa_nil)) pe_int)) (pa_cons (pe_op op_add pe_int (pe_callD G__law_draw (hr.mono (by decide)) (by rfl) (pa_cons (pv 0) (pa_cons pe_int pa_nil)))) pa_nil)) (by rfl))
      (pss_cons (ps_set (i := 3) scn rfl (.inl rfl) (pe_callD G__law_hex (hr.mono (by decide)) (by rfl) (pa_cons (pe_op op_sub (pe_op op_shlW (pe_op op_add (pe_op op_mulX pe_int (pv 6)) pe_int) (pe_op op_mulX pe_int (pv 9))) pe_int) pa_nil)))
      (pss_cons (ps_set (i := 4) scn rfl (.inl rfl) (pe_lst (pa_cons (pe_callD G__law_hex (hr.mono (by decide)) (by rfl) (pa_cons (pe_op op_add (pe_op op_mulX pe_int (pv 6)) pe_int) pa_nil)) (pa_cons (pe_op op_addL (pe_op op_addL (pe_op op_addL (pe_callD G__law_hex (hr.mono (by decide)) (by rfl) (pa_cons (pe_op op_add (pe_op op_mulX pe_int (pv 6)) pe_int) pa_nil)) (pe_strS [46] (by decide +kernel))) (pe_op op_mulS (pe_strS [48] (by decide +kernel)) (pe_op op_sub (pv 9) pe_int))) (pe_strS [49] (by decide +kernel))) pa_nil))))
      (pss_cons (ps_expr (pe_bm PySem.F.plainAttrs_list PySem.F.slot_list_append PySem.F.type_list_append mt_append (pv 4) (pa_cons (pe_op op_addL (pe_op op_addL (pe_slice sl_S (pv 3) po_none (po_some (pe_op op_sub (pe_callB call_lenL (by rfl) (B.fre 54) PySem.boot_len (pa_cons (pv 3) pa_nil)) (pv 9)))) (pe_strS [46] (by decide +kernel))) (pe_slice sl_S (pv 3) (po_some (pe_op op_sub (pe_callB call_lenL (by rfl) (B.fre 54) PySem.boot_len (pa_cons (pv 3) pa_nil)) (pv 9))) po_none)) pa_nil)))
      (pss_cons (ps_set (i := 5) scn rfl (.inl rfl) (pe_lst (pa_cons (pe_lst (pa_cons (pe_op op_add (pv 2) (pe_op op_mod (pe_callTy call_int1 (by rfl) (B.fre 52) (by decide +kernel) (pa_cons (pv 2) pa_nil)) pe_int)) (pa_cons (pe_op op_add (pv 2) pe_int) pa_nil))) (pa_cons (pe_lst (pa_cons (pe_op op_add (pv 2) pe_int) (pa_cons (pe_op op_add (pv 2) pe_int) pa_nil))) (pa_cons (pe_lst (pa_cons (pv 2) (pa_cons (pv 2) pa_nil))) pa_nil)))))
      (pss_cons (ps_for PassesOwn.never rfl (pi_zip (by rfl) (B.fre 60) (pa_cons (pv 4) (pa_cons (pv 5) pa_nil))) (pg_tup rfl (pgs_cons (pg_name (i := 10) scn rfl (.inl rfl)) (pgs_cons (pg_name (i := 11) scn rfl (.inl rfl)) pgs_nil)))
        (pss_cons (ps_set (i := 12) scn rfl (.inr rfl) (pe_op op_addL (pe_op op_addL (pe_op op_addL (pe_strS [48, 120] (by decide +kernel)) (pv 10)) (pe_strS [112] (by decide +kernel))) (pe_callTy (call_strI rfl B.nd) (by rfl) (B.fre 58) (by decide +kernel) (pa_cons (pe_op op_sub (pv 7) pe_int) pa_nil))))
          (pss_cons (ps_setLc (i := 13) (own := [("_law_way", 14)]) (g := gName 14) (tt := tYes) rfl scn rfl rfl (sw_true rfl rfl rfl (by decide +kernel)) (pi_tup (pe_tup (pa_cons pe_str (pa_cons pe_str (pa_cons pe_str (pa_cons pe_str (pa_cons pe_str pa_nil))))))) (blkOk_by (own := [("_law_way", 14)]) (N := ["_law_deck_here", "_law_form_here", "_law_code", "_law_below", "_law_texts", "_law_dues", "_law_m", "_law_e", "_law_odd", "_law_more", "_law_text", "_law_due_here", "_law_shown", "_law_found", "_law_way", "_law_one"]) (sc := defScope (ts 64)) (by decide +kernel)) (fun _ _ _ _ _ => pg_name (i := 14) scn rfl (Or.inl rfl)) (fun _ _ _ _ _ => pts_nil) (fun _ _ _ _ _ => (pe_callD G_read_text (hr.mono (by decide)) (by rfl) (pa_cons (pv 1) (pa_cons (pv 14) (pa_cons (pv 12) pa_nil))))))
          (pss_one (ps_if (pt_cmpR (op_neD hr.units) (pv 13) (pe_lc (own := [("_law_one", 15)]) (g := gName 15) (tt := tYes) rfl scn ((pi_list (pe_op op_cat (pv 11) (pe_lst (pa_cons (pv 2) (pa_cons (pe_op op_add (pv 2) pe_int) (pa_cons (pv 8) pa_nil))))))) (blkOk_by (own := [("_law_one", 15)]) (N := ["_law_deck_here", "_law_form_here", "_law_code", "_law_below", "_law_texts", "_law_dues", "_law_m", "_law_e", "_law_odd", "_law_more", "_law_text", "_law_due_here", "_law_shown", "_law_found", "_law_way", "_law_one"]) (sc := defScope (ts 64)) (by decide +kernel)) (fun _ _ _ _ _ => pg_name (i := 15) scn rfl (Or.inl rfl)) (fun _ _ _ _ _ => pts_nil) (fun _ _ _ _ _ => (pe_tup (pa_cons pe_int (pa_cons (pv 15) pa_nil))))) (nomark _))
          (pss_one (ps_ret pe_bl))
          pss_nil)))))
      (pss_one (ps_ret pe_bl))))))))), ?_⟩
    have b1 := fb.p
    have b2 := fb.l
    have b3 := fb.h
    have he1 := f.e_lo c
    have he2 := f.e_hi fb.ok hc
    have hM : 2 * f.m c + 1 < 2 ^ 129 := by
      have hm := f.m_lt fb.ok c
      have h1 : 2 ^ f.p ≤ 2 ^ 128 := Nat.pow_le_pow_right (by decide) b1
      have h2 : (2 : Nat) ^ 129 = 2 * 2 ^ 128 := by rw [Nat.pow_succ, Nat.mul_comm]
      omega
    have hF0 : Frm K H a f := .inl (.inl ha)
    have hane : a ≠ d ∧ a ≠ cc := by
      obtain ⟨_, xs, x1, x2, _⟩ := hD
      refine ⟨fun z => ?_, fun z => ?_⟩
      · rw [z, x1] at ha
        cases ha
      · rw [z, x2] at ha
        cases ha
    refine ⟨_, rfl, _, rfl, a, f, c, rfl, hF0, fb, hc, fun p1 H1 s1 hp1 => ?_⟩
    refine ⟨p1, _, rfl, .inl (.inl hp1), rfl, _, _, rfl, _, _, rfl, rfl, ?_⟩
    refine ⟨_, rfl, _, _, rfl, rfl, _, rfl, .inl ⟨_, rfl, _, _, rfl, rfl, (show (0 : Int) < 2 by decide), _, _, rfl, rfl, _, rfl, d, cc, n, 260, rfl, hD.up s1, by omega, by decide, by decide, fun r H2 hr d2 k2 => ?_⟩⟩
    refine ⟨_, _, rfl, rfl, V.int ((c + 1 - c % 2 : Nat) : Int), V.int ((1 + r : Nat) : Int), ?_, ?_⟩
    · show [V.int (_ - _), V.int (_ + _)] = _
      rw [show ((c : Int) + 1 - (c : Int) % 2) = ((c + 1 - c % 2 : Nat) : Int) by omega, show (1 : Int) + (r : Int) = ((1 + r : Nat) : Int) by omega]
    have hF : Frm K H2 a f := .inl (.inl (k2 _ _ hane.1 hane.2 (s1 _ _ ha)))
    have hdm := fun k => hex_mid fb hc (j := 1 + r) (by omega) (by omega) k
    have hdl := fun k => hexMid_len (j := 1 + r) hM (by omega) (by omega) (by omega) k
    have hK0 := (Keep.of_same (d := d) (c := cc) s1).trans k2
    generalize hj : 1 + r = j at hdm hdl ⊢
    have hj1 : 1 ≤ j := by omega
    have hj2 : j ≤ 260 := by omega
    clear hj hr
    have bl1 := below_len (M := 2 * f.m c + 1) (by omega) hj1
    have bl2 := below_le hM hj1 hj2
    have hx1 := hx_129 hM
    have hbn : (2 * f.m c + 1) * 16 ^ j - 1 < 2 ^ 2000 := by
      have h1 : (2 * f.m c + 1) * 16 ^ j ≤ 2 ^ 129 * 16 ^ 260 := Nat.mul_le_mul (Nat.le_of_lt hM) (Nat.pow_le_pow_right (by decide) hj2)
      exact Nat.lt_of_le_of_lt (Nat.sub_le _ _) (Nat.lt_of_le_of_lt h1 (by decide +kernel))
    have hMn : 2 * f.m c + 1 < 2 ^ 2000 := Nat.lt_trans hM (Nat.pow_lt_pow_right (by decide) (by decide))
    have hsx := shl_hex (m := f.m c) (j := j)
    generalize hM0 : f.m c = m0 at *
    generalize hE0 : f.e c = e0 at *
    have hmm : CMulX 2 (m0 : Int) := cmulN (n := 2) (m := m0) (a := 2) (b := 129) (by decide) (by omega)
    have hmj : CMulX 4 (j : Int) := cmulN (n := 4) (m := j) (a := 3) (b := 20) (by decide) (by omega)
    have hcs : CShl (2 * (m0 : Int) + 1) (4 * (j : Int)) := cshl (n := 129) (by omega) (by omega) (by omega)
    refine ⟨_, rfl, _, _, rfl, rfl, hmm, _, _, rfl, rfl, _, rfl, _, _, rfl, rfl, hmj, _, _, rfl, rfl, hcs, _, _, rfl, rfl, (2 * m0 + 1) * 16 ^ j - 1, ?_, hbn, ?_⟩
    · show [V.int ((2 * (m0 : Int) + 1) * 2 ^ (4 * (j : Int)).toNat - 1)] = _
      rw [hsx]
    have hM1 : [V.int (2 * (m0 : Int) + 1)] = [V.int ((2 * m0 + 1 : Nat) : Int)] := by rw [show 2 * (m0 : Int) + 1 = ((2 * m0 + 1 : Nat) : Int) by omega]
    clear hM hbn hsx
    refine ⟨_, rfl, _, _, rfl, rfl, hmm, _, _, rfl, rfl, 2 * m0 + 1, hM1, hMn, ?_⟩
    refine ⟨_, rfl, _, _, rfl, rfl, hmm, _, _, rfl, rfl, 2 * m0 + 1, hM1, hMn, ?_⟩
    clear hMn
    refine ⟨_, _, rfl, rfl, by simp; omega, _, rfl, _, _, rfl, rfl, [48], (j : Int) - 1, rfl, rfl, by omega, by decide, by omega, _, _, rfl, rfl, by simp; omega, _, _, rfl, rfl, by simp; omega, l2, fun p3 hp3 => ?_⟩
    have ab : hx (2 * m0 + 1) ++ [46] ++ (List.replicate ((j : Int) - 1).toNat [48]).flatten ++ [49] = hexMid (2 * m0 + 1) j .above := by
      rw [flat48, show ((j : Int) - 1).toNat = j - 1 by omega]
      unfold hexMid
      simp
    rw [ab]
    generalize hB : hx ((2 * m0 + 1) * 16 ^ j - 1) = Bl at bl1 bl2 ⊢
    have cl : cutL Bl none (some (((Bl.length : Nat) : Int) - (j : Int))) = Bl.take (Bl.length - j) := by
      rw [show ((Bl.length : Nat) : Int) - (j : Int) = ((Bl.length - j : Nat) : Int) by omega, cut_to]
    have cr : cutL Bl (some (((Bl.length : Nat) : Int) - (j : Int))) none = Bl.drop (Bl.length - j) := by
      rw [show ((Bl.length : Nat) : Int) - (j : Int) = ((Bl.length - j : Nat) : Int) by omega, cut_from]
    refine ⟨_, rfl, .inl ⟨rfl, _, sq_l⟩, ?_⟩
    refine ⟨_, rfl, _, rfl, Bl, rfl, by omega, _, rfl, _, _, rfl, rfl, _, rfl, Bl, rfl, by omega, ?_⟩
    rw [cl]
    refine ⟨_, _, rfl, rfl, by simp; omega, _, rfl, _, rfl, Bl, rfl, by omega, _, rfl, _, _, rfl, rfl, _, rfl, Bl, rfl, by omega, ?_⟩
    rw [cr]
    refine ⟨_, _, rfl, rfl, by simp; omega, p3, _, _, rfl, rfl, upd_same, by show 2 < sizeLine; decide, ?_⟩
    have be : Bl.take (Bl.length - j) ++ [46] ++ Bl.drop (Bl.length - j) = hexMid (2 * m0 + 1) j .below := by
      unfold hexMid
      rw [hB]
      simp
    rw [be]
    subst hB
    have kp := same_at (o := .lst ([.str (SX.S (hx (2 * m0 + 1))), .str (SX.S (hexMid (2 * m0 + 1) j .above))] ++ [.str (SX.S (hexMid (2 * m0 + 1) j .below))])) hp3 (same_new (o := .lst [.str (SX.S (hx (2 * m0 + 1))), .str (SX.S (hexMid (2 * m0 + 1) j .above))]) hp3)
    have vp := @upd_same (upd H2 p3 (.lst [.str (SX.S (hx (2 * m0 + 1))), .str (SX.S (hexMid (2 * m0 + 1) j .above))])) p3 (.lst ([.str (SX.S (hx (2 * m0 + 1))), .str (SX.S (hexMid (2 * m0 + 1) j .above))] ++ [.str (SX.S (hexMid (2 * m0 + 1) j .below))]))
    generalize upd (upd H2 p3 (.lst [.str (SX.S (hx (2 * m0 + 1))), .str (SX.S (hexMid (2 * m0 + 1) j .above))])) p3 (.lst ([.str (SX.S (hx (2 * m0 + 1))), .str (SX.S (hexMid (2 * m0 + 1) j .above))] ++ [.str (SX.S (hexMid (2 * m0 + 1) j .below))])) = HX at kp vp ⊢
    refine ⟨_, rfl, _, rfl, .inl ⟨_, rfl, _, _, rfl, rfl, (show (0 : Int) < 2 by decide), _, _, rfl, rfl, _, rfl, _, _, rfl, rfl, l2, fun q1 h1 => ?_⟩⟩
    refine ⟨_, rfl, _, _, rfl, rfl, _, rfl, _, _, rfl, rfl, l2, fun q2 h2 => ?_⟩
    refine ⟨_, rfl, _, rfl, l2, fun q3 h3 => ?_⟩
    refine ⟨l3, fun q4 h4 => ?_⟩
    have k1 := same_new (o := .lst [.int ((c : Int) + (c : Int) % 2), .int ((c : Int) + 1)]) h1
    have k2 := same_new (o := .lst [.int ((c : Int) + 1), .int ((c : Int) + 1)]) h2
    have k3 := same_new (o := .lst [.int (c : Int), .int (c : Int)]) h3
    have k4 := same_new (o := .lst [.ref q1, .ref q2, .ref q3]) h4
    have v1 := k4 _ _ (k3 _ _ (k2 _ _ (@upd_same HX q1 (.lst [.int ((c : Int) + (c : Int) % 2), .int ((c : Int) + 1)]))))
    have v2 := k4 _ _ (k3 _ _ (@upd_same (upd HX q1 (.lst [.int ((c : Int) + (c : Int) % 2), .int ((c : Int) + 1)])) q2 (.lst [.int ((c : Int) + 1), .int ((c : Int) + 1)])))
    have v3 := k4 _ _ (@upd_same (upd (upd HX q1 (.lst [.int ((c : Int) + (c : Int) % 2), .int ((c : Int) + 1)])) q2 (.lst [.int ((c : Int) + 1), .int ((c : Int) + 1)])) q3 (.lst [.int (c : Int), .int (c : Int)]))
    have v4 := @upd_same (upd (upd (upd HX q1 (.lst [.int ((c : Int) + (c : Int) % 2), .int ((c : Int) + 1)])) q2 (.lst [.int ((c : Int) + 1), .int ((c : Int) + 1)])) q3 (.lst [.int (c : Int), .int (c : Int)])) q4 (.lst [.ref q1, .ref q2, .ref q3])
    have kk := k1.trans (k2.trans (k3.trans k4))
    have gd : Good HX _ p3 q4 q1 q2 q3 c (hexMid (2 * m0 + 1) j) := Good.mk kk (k4 _ _ (k3 _ _ (k2 _ _ (k1 _ _ vp)))) v4 (fun k => by
      cases k with
      | mid => exact v1.trans (by rw [show (c : Int) + (c : Int) % 2 = ((c + c % 2 : Nat) : Int) by omega, show (c : Int) + 1 = ((c + 1 : Nat) : Int) by omega]; rfl)
      | above => exact v2.trans (by rw [show (c : Int) + 1 = ((c + 1 : Nat) : Int) by omega]; rfl)
      | below => exact v3)
    refine ⟨_, rfl, _, rfl, p3, q4, mds.map fun k => V.str (SX.S (hexMid (2 * m0 + 1) j k)), mds.map fun k => V.ref (pick3 q1 q2 q3 k), rfl, .inl (.inl gd.t), .inl (.inl gd.d), ?_⟩
    refine RZ.for_zipL (K := K) (a := p3) (b := q4) (xs := mds.map fun k => V.str (SX.S (hexMid (2 * m0 + 1) j k))) (ys := mds.map fun k => V.ref (pick3 q1 q2 q3 k)) rfl (fun i σ G => ∃ w10 w11 w12 w13 w14 w15, σ = [some (.ref d), some (.ref a), some (.int (c : Int)), some (.str (SX.S (hx ((2 * m0 + 1) * 16 ^ j - 1)))), some (.ref p3), some (.ref q4), some (.int (m0 : Int)), some (.int e0), some (.int ((c + 1 - c % 2 : Nat) : Int)), some (.int (j : Int)), w10, w11, w12, w13, w14, w15] ∧ Good HX G p3 q4 q1 q2 q3 c (hexMid (2 * m0 + 1) j))
      ⟨none, none, none, none, none, none, rfl, gd⟩ (fun i σ G hP => ⟨.inl (.inl hP.choose_spec.choose_spec.choose_spec.choose_spec.choose_spec.choose_spec.2.t), .inl (.inl hP.choose_spec.choose_spec.choose_spec.choose_spec.choose_spec.choose_spec.2.d)⟩) (fun i x y T σ G hx hy hP hT => ?_) (fun σ G hP => ?_)
    · obtain ⟨w10, w11, w12, w13, w14, w15, rfl, gg⟩ := hP
      rw [List.getElem?_map] at hx hy
      obtain ⟨k, hk, hkx⟩ := Option.map_eq_some_iff.mp hx
      obtain ⟨k', hk', hky⟩ := Option.map_eq_some_iff.mp hy
      rw [hk] at hk'
      cases hk'
      subst hkx hky
      have gT := gg.up (same_new (o := .tup [.str (SX.S (hexMid (2 * m0 + 1) j k)), .ref (pick3 q1 q2 q3 k)]) hT)
      refine ⟨T, _, rfl, sq_t, rfl, _, _, rfl, _, _, rfl, rfl, ?_⟩
      generalize upd G T (.tup [.str (SX.S (hexMid (2 * m0 + 1) j k)), .ref (pick3 q1 q2 q3 k)]) = G1 at gT ⊢
      obtain ⟨n', zz, hdec, hrd⟩ := hdm k
      have hdl' := hdl k
      have hse := sd_len (z := e0 - 1) (by omega)
      have hbe : (e0 - 1).natAbs < 10 ^ 4300 := Nat.lt_of_lt_of_le (show (e0 - 1).natAbs < 10 ^ 5 by omega) (Nat.pow_le_pow_right (by decide) (by decide))
      have t4 := kp.trans gT.s
      refine ⟨_, rfl, [48, 120], _, rfl, rfl, by show 2 + _ ≤ _; omega, _, _, rfl, rfl, by simp; omega, _, rfl, _, _, rfl, rfl, _, rfl, hbe, _, _, rfl, rfl, by simp; omega, ?_⟩
      clear hbe
      have esh : [48, 120] ++ hexMid (2 * m0 + 1) j k ++ [112] ++ sd (e0 - 1) = 48 :: 120 :: (hexMid (2 * m0 + 1) j k ++ 112 :: sd (e0 - 1)) := by simp
      have hsl : (48 :: 120 :: (hexMid (2 * m0 + 1) j k ++ 112 :: sd (e0 - 1))).length ≤ 90000 := by
        simp
        omega
      rw [esh]
      generalize hZ : 48 :: 120 :: (hexMid (2 * m0 + 1) j k ++ 112 :: sd (e0 - 1)) = Z at hdec hsl ⊢
      refine ⟨l5, fun p4 hp4 => ?_⟩
    
      have hH4 : Same G1 (upd G1 p4 (.tup (ways.map fun W => V.str W.nm))) := same_new hp4
      have tT : SqT K (upd G1 p4 (.tup (ways.map fun W => V.str W.nm))) p4 (ways.map fun W => V.str W.nm) := sq_t
      refine ⟨p4, rfl, ⟨_, tT⟩, fun D hD => ?_⟩
      replace hD : upd G1 p4 (.tup (ways.map fun W => V.str W.nm)) D = none := hD
      show ∃ W0 : Nat → Nat → Hp → Prop, (∃ m0, W0 0 m0 (upd (upd G1 p4 (.tup (ways.map fun W => V.str W.nm))) D (.lst []))) ∧ _
      generalize upd G1 p4 (.tup (ways.map fun W => V.str W.nm)) = G4 at hH4 tT hD ⊢
      refine lc_tup (K := K) (a := p4) (xs := ways.map fun W => V.str W.nm) (fun i G => ∃ ps : List Addr, G D = some (.lst (ps.map V.ref)) ∧ Same G4 G ∧ Prs G 0 ps ((outs k c).take i)) ⟨[], upd_same, same_new hD, trivial⟩ (fun i G _ h => Same.sqt h.choose_spec.2.1 tT) (fun i x G hi hP => ?_) (fun G5 hP => ?_)
      · obtain ⟨ps, hp1, hs1, hp2⟩ := hP
        rw [List.getElem?_map] at hi
        obtain ⟨W, hW, hx⟩ := Option.map_eq_some_iff.mp hi
        subst hx
        have hil : i < 5 := by
          by_cases z : i < 5
          · exact z
          · rw [List.getElem?_eq_none (show ways.length ≤ i from by show 5 ≤ i; omega)] at hW
            cases hW
        refine ⟨rfl, _, rfl, _, rfl, _, rfl, a, f, W, false, Z, _, k.due W c, rfl, hF.up ((t4).trans (hH4.trans hs1)), fb, by show Z.length ≤ 90000; exact hsl, .hex hdec, hrd W, fun p9 G9 s9 hp9 => ?_⟩
        refine ⟨_, s9 _ _ hp1, ?_, ps ++ [p9], ?_, same_at hD (hs1.trans s9), ?_⟩
        · rw [List.length_map, hp2.len, List.length_take, sizeLine_eq]
          omega
        · rw [upd_same, List.map_append]
          rfl
        · have e9 : (outs k c).take (i + 1) = (outs k c).take i ++ [k.due W c] := by
            rw [List.take_add_one]
            have hc9 : i = 0 ∨ i = 1 ∨ i = 2 ∨ i = 3 ∨ i = 4 := by omega
            rcases hc9 with rfl | rfl | rfl | rfl | rfl <;> cases (Option.some.inj hW) <;> cases k <;> rfl
          rw [e9]
          exact ((hp2.up s9).snoc hp9).off (fun x y z => by rw [s9 _ _ hp1] at z; cases z)
      obtain ⟨ps, hp1, hs1, hp2⟩ := hP
      have hp3 : Prs G5 0 ps (outs k c) := hp2
      have hs5 : Same G1 G5 := hH4.trans hs1
      refine ⟨_, rfl, _, rfl, _, rfl, _, rfl, _, _, rfl, rfl, _, rfl, l3, fun p6 hp6 => ?_⟩
      have sp6 := same_new (o := .lst [.int (c : Int), .int ((c : Int) + 1), .int ((c + 1 - c % 2 : Nat) : Int)]) hp6
      refine ⟨pick3 q1 q2 q3 k, p6, _, _, rfl, rfl, sp6 _ _ (hs5 _ _ (gT.o k)), upd_same, by show 5 ≤ sizeLine; decide, fun p7 hp7 => ?_⟩
      have sp7 := same_new (o := .lst ([.int (k.due .even c : Nat), .int (k.due .away c : Nat)] ++ [.int (c : Int), .int ((c : Int) + 1), .int ((c + 1 - c % 2 : Nat) : Int)])) hp7
      have up7 := @upd_same (upd G5 p6 (.lst [.int (c : Int), .int ((c : Int) + 1), .int ((c + 1 - c % 2 : Nat) : Int)])) p7 (.lst ([.int (k.due .even c : Nat), .int (k.due .away c : Nat)] ++ [.int (c : Int), .int ((c : Int) + 1), .int ((c + 1 - c % 2 : Nat) : Int)]))
      have s57 := sp6.trans sp7
      refine ⟨p7, rfl, ⟨_, sq_l⟩, fun D2 hD2 => ?_⟩
      have s58 := s57.trans (same_new (o := .lst []) hD2)
      have up8 := (same_new (o := .lst []) hD2) _ _ up7
      have hD5 : G5 D2 = none := NT.Same.none s57 hD2
      have ne7 : p7 ≠ D2 := (ne_of_none' up7 hD2).symm
      refine lc_list (K := K) (a := p7) (xs := (outs k c).map fun x : Nat => V.int (x : Int)) (fun i G => ∃ ps' : List Addr, G D2 = some (.lst (ps'.map V.ref)) ∧ Same G5 G ∧ Prs G 0 ps' ((outs k c).take i) ∧ G p7 = some (.lst ((outs k c).map fun x : Nat => V.int (x : Int)))) ⟨[], upd_same, s58, trivial, up8⟩ (fun i G _ h => .inl (.inl h.choose_spec.2.2.2)) (fun i x G hi hP => ?_) (fun G6 hP => ?_)
      · obtain ⟨ps', hx1, hx2, hx3, hx4⟩ := hP
        rw [List.getElem?_map] at hi
        obtain ⟨y, hy1, hy2⟩ := Option.map_eq_some_iff.mp hi
        subst hy2
        refine ⟨rfl, _, rfl, l2, fun p8 hp8 => ?_⟩
        have sp8 := same_new (o := .tup [.int 0, .int (y : Int)]) hp8
        refine ⟨_, sp8 _ _ hx1, ?_, ps' ++ [p8], ?_, same_at hD5 (hx2.trans sp8), ?_, ?_⟩
        · rw [List.length_map, hx3.len, List.length_take, sizeLine_eq]
          show min i 5 < _
          omega
        · rw [upd_same, List.map_append]
          rfl
        · rw [List.take_add_one, hy1]
          exact ((hx3.up sp8).snoc upd_same).off (fun x y z => by rw [sp8 _ _ hx1] at z; cases z)
        · rw [upd_ne ne7]
          exact sp8 _ _ hx4
      obtain ⟨ps', hx1, hx2, hx3, hx4⟩ := hP
      have hx5 : Prs G6 0 ps' (outs k c) := by
        rw [List.length_map] at hx3
        rw [List.take_of_length_le (Nat.le_refl _)] at hx3
        exact hx3
      refine ⟨prl 0 (outs k c), prl 0 (outs k c), .lst (.inl (.inl (hx2 _ _ hp1))) (hp3.up hx2).dp, .lst (.inl (.inl hx1)) hx5.dp, shaped_prl5 _ _ _ _ _ _, shaped_prl5 _ _ _ _ _ _, ?_⟩
      rw [eqv_prl]
      refine ⟨_, rfl, ?_⟩
      exact ⟨_, _, _, _, _, _, rfl, gT.up (hs5.trans hx2)⟩
    · obtain ⟨w10, w11, w12, w13, w14, w15, rfl, gg⟩ := hP
      have tt := kp.trans gg.s
      exact q _ (d2.up tt) (hK0.trans (Keep.of_same tt))

end
end NT
/-! text M7 -/
set_option Elab.async false
set_option linter.all false
set_option maxRecDepth 100000
set_option maxHeartbeats 1000000
namespace NT
open PySem PySem.NumText L2
theorem short_of {f : Fm} {W : Way} {c d : Nat} {q : Int} (h0 : c ≠ 0) (h : f.srch W c (f.wd c) (f.wq c) ((ds (f.wd c)).length - 1) = (d, q)) (hd : d % 10 ≠ 0) : f.short W c = (d, q) := by
  unfold Fm.short
  rw [if_neg h0, h]
  exact strip_end hd
theorem text_a : dueT ⟨3, -2, 2⟩ .even 1 .auto = [48, 46, 50] := by
  have h : (⟨3, -2, 2⟩ : Fm).short .even 1 = (2, -1) := short_of (by decide) (by decide +kernel) (by decide)
  unfold dueT
  rw [if_neg (by decide +kernel), h]
  decide +kernel
theorem text_b : dueT ⟨1, 60, 60⟩ .even 1 .auto = [49, 101, 49, 56] := by
  have h : (⟨1, 60, 60⟩ : Fm).short .even 1 = (1, 18) := short_of (by decide) (by decide +kernel) (by decide)
  unfold dueT
  rw [if_neg (by decide +kernel), h]
  decide +kernel
theorem text_c : hexDue ⟨3, -2, 2⟩ 9 = [48, 120, 53, 112, 45, 49] := by
  unfold hexDue
  rw [if_neg (by decide +kernel)]
  have h : half2 ((⟨3, -2, 2⟩ : Fm).m 9) ((⟨3, -2, 2⟩ : Fm).e 9) = (5, -1) := by
    rw [show (⟨3, -2, 2⟩ : Fm).m 9 = 5 by decide +kernel, show (⟨3, -2, 2⟩ : Fm).e 9 = -1 by decide +kernel, half2_end (by decide)]
  unfold hexT
  rw [h]
  decide +kernel
end NT
/-! text W14 -/
set_option Elab.async false
set_option linter.all false
set_option maxRecDepth 100000
set_option maxHeartbeats 4000000
namespace NT
open PySem PySem.Spec PyProof.Rows L2 PySem.NumText
/-! ### the law -/
def kds : List Kd := [.plain, .power, .auto]
def four : List Way := [.even, .away, .zero, .out]
theorem l4 {a b c d : V} : [a, b, c, d].length ≤ sizeLine := by show 4 ≤ sizeLine; decide
theorem l6 {a b c d e f : V} : [a, b, c, d, e, f].length ≤ sizeLine := by show 6 ≤ sizeLine; decide
theorem DeckAt.tup_ne {H : Hp} {d c p : Addr} {n : Nat} {x y z : V} (h : DeckAt H d c n) (hp : H p = some (.tup [x, y, z])) : p ≠ d ∧ p ≠ c := by
  obtain ⟨_, xs, x1, x2, _⟩ := h
  refine ⟨fun e => ?_, fun e => ?_⟩
  · rw [e, x1] at hp
    cases hp
  · rw [e, x2] at hp
    cases hp
theorem sign_of {s : Nat} (h : s < 2) : ∃ sg : Bool, (s : Int) = sgi sg := by
  rcases (show s = 0 ∨ s = 1 by omega) with rfl | rfl
  · exact ⟨false, rfl⟩
  · exact ⟨true, rfl⟩
theorem min_cast {N j : Nat} : (if ((j : Nat) : Int) < ((N : Nat) : Int) then ((j : Nat) : Int) else ((N : Nat) : Int)) = ((min N j : Nat) : Int) := by split <;> omega
/-- what stays through the codes of one turn -/
structure Turn1 (H : Hp) (d c p p6 : Addr) (f : Fm) (cs : List Nat) (n m : Nat) : Prop where
  k : ∃ n', DeckAt H d c n' ∧ n' ≤ n + m
  f : H p = some (.tup [.int (f.p : Int), .int f.lo, .int f.hi])
  l : H p6 = some (.lst (cs.map fun x : Nat => V.int (x : Int)))
  ne : p6 ≠ d ∧ p6 ≠ c
section
variable {P : Program} {w : World} {K : PySem.W.Frag} {mg : Str → Option Value} {base : Heap}
theorem mk_fn {f : Addr} {fd : FuncData} {x : Str} {k : Nat} {sp : Sp} {N ps : List Str} {n : Nat} (F : FunD K x x (defArgs (ts n)) (defBody (ts n)) (defScope (ts n)) [] [] f fd) (S : FnScope N ps (defScope (ts n)))
    (len : ∀ vs H Q E, sp vs H Q E → vs.length = ps.length)
    (hb : ∀ (f : Addr) (cdv : Value) (A : Around) (outer : List Env) (s : Shared) (H : Hp) (vs : List V) (Q : VK) (E : XK), Room k (A.deeper (envOfC x (defScope (ts n)) s.heap.objs.size f cdv)) → sp vs H Q E →
      ∃ t, PSs (cxOf CX0 P w K mg base N x (defScope (ts n)) f cdv A outer s H E).nox (defBody (ts n)) t ∧ t { nx := fun _ H' => Q .non H', rt := Q } (start N vs) H) : FnOk P w K mg base CX0 (k + 1) f fd ps sp := by
  refine F.ok S len fun cdv A outer s H vs Q E hr hs => ?_
  obtain ⟨t, h1, h2⟩ := hb _ cdv A outer s H vs Q E hr hs
  exact ⟨t, h1.nox, h2⟩

def sp_law (K : PySem.W.Frag) : Sp := fun vs H Q _ => ∃ (a : Addr) (xs : List Int), vs = [.ref a] ∧ SqL K H a (xs.map V.int) ∧ xs.length ≤ 100 ∧ ∀ H', Q (.bl true) H'
theorem ok_law (B : Bs K mg base) {fd : FuncData} (F : FunD K "law" "law" (defArgs (ts 65)) (defBody (ts 65)) (defScope (ts 65)) [] [] (He.fAd K ("law", none)) fd) : FnOk P w K mg base CX0 8 (He.fAd K ("law", none)) fd ["_law_script"] (sp_law K) := by
  have G__law_deck := ok__law_deck (P := P) (w := w) B
  have G__law_format := ok__law_format (P := P) (w := w) B
  have G_count_of := ok_count_of (P := P) (w := w) B
  have G_number_text := ok_number_text (P := P) (w := w) B
  have G_hex_text := ok_hex_text (P := P) (w := w) B
  have G__law_draw := ok__law_draw (P := P) (w := w) B
  have G__law_hex_right := ok__law_hex_right (P := P) (w := w) B
  have G__law_text_right := ok__law_text_right (P := P) (w := w) B
  have G__law_middle_right := ok__law_middle_right (P := P) (w := w) B
  have G__law_decimals_right := ok__law_decimals_right (P := P) (w := w) B
  have S : FnScope ["_law_script", "_law_deck_here", "_law_turn", "_law_texts", "_law_form_here", "_law_top", "_law_codes", "_law_code", "_law_way", "_law_kind", "_law_sign"] ["_law_script"] (defScope (ts 65)) := ⟨rfl, rfl, rfl, by decide +kernel, rfl, by decide +kernel, by decide +kernel⟩
  refine mk_fn F S (fun vs H Q E h => ?_) (fun f0 cdv A outer s H vs Q E hr h => ?_)
  · obtain ⟨a, xs, rfl, hL, hl, q⟩ := h; rfl
  · obtain ⟨a, xs, rfl, hL, hl, q⟩ := h
    have scn := S.nd
    refine ⟨_, (pss_cons (ps_set (i := 1) scn rfl (.inl rfl) (pe_callD G__law_deck (hr.mono (by decide)) (by rfl) (pa_cons (pv 0) pa_nil)))
      (pss_cons (ps_for PassesOwn.never rfl (pi_range1 (by rfl) (B.fre 57) (pa_cons pe_int pa_nil)) (pg_name (i := 2) scn rfl (.inl rfl))
        (pss_cons (ps_set (i := 4) scn rfl (.inl rfl) (pe_callD G__law_format (hr.mono (by decide)) (by rfl) (pa_cons (pv 1) pa_nil)))
          (pss_cons (ps_set (i := 5) scn rfl (.inl rfl) (pe_callD G_count_of (hr.mono (by decide)) (by rfl) (pa_cons (pv 4) pa_nil)))
          (pss_cons (ps_set (i := 6) scn rfl (.inl rfl) (pe_lst (pa_cons pe_int (pa_cons pe_int (pa_cons (pe_op op_sub (pv 5) pe_int) (pa_cons (pv 5) (pa_cons (pe_callD G__law_draw (hr.mono (by decide)) (by rfl) (pa_cons (pv 1) (pa_cons (pe_callB (call_min2 rfl) (by rfl) (B.fre 56) (by decide +kernel) (pa_cons (pv 5) (pa_cons (pe_op op_pow pe_int pe_int) pa_nil))) pa_nil))) (pa_cons (pe_op op_sub (pe_op op_sub (pv 5) pe_int) (pe_callD G__law_draw (hr.mono (by decide)) (by rfl) (pa_cons (pv 1) (pa_cons (pe_callB (call_min2 rfl) (by rfl) (B.fre 56) (by decide +kernel) (pa_cons (pv 5) (pa_cons (pe_op op_pow pe_int pe_int) pa_nil))) pa_nil)))) pa_nil))))))))
          (pss_one (ps_for PassesOwn.never rfl (pi_list (pv 6)) (pg_name (i := 7) scn rfl (.inl rfl))
          (pss_cons (ps_par (i := 10) (j := 8) rfl scn rfl rfl (by decide) rfl rfl (pa_cons (pe_callD G__law_draw (hr.mono (by decide)) (by rfl) (pa_cons (pv 1) (pa_cons pe_int pa_nil))) (pa_cons (pe_ix ix_list (pe_lst (pa_cons pe_str (pa_cons pe_str (pa_cons pe_str (pa_cons pe_str pa_nil))))) (pe_callD G__law_draw (hr.mono (by decide)) (by rfl) (pa_cons (pv 1) (pa_cons pe_int pa_nil))) (fun _ _ => rfl)) pa_nil)) (by rfl))
            (pss_cons (ps_set (i := 8) scn rfl (.inl rfl) (pe_ifExp (PW.pt (pw_and (pt_cmpR op_lt (pe_ix ix_tup (pv 4) pe_int (fun _ _ => rfl)) pe_int (nomark _)) (pw_and1 (pt_cmpR op_eq (pe_callD G__law_draw (hr.mono (by decide)) (by rfl) (pa_cons (pv 1) (pa_cons pe_int pa_nil))) pe_int (nomark _))))) pe_str (pv 8)))
            (pss_cons (ps_for PassesOwn.never rfl (pi_tup (pe_tup (pa_cons pe_str (pa_cons pe_str (pa_cons pe_str pa_nil))))) (pg_name (i := 9) scn rfl (.inl rfl))
              (pss_one (ps_if (pt_not (pt_val (pe_callD G__law_text_right (hr.mono (by decide)) (by rfl) (pa_cons (pv 4) (pa_cons (pv 8) (pa_cons (pv 7) (pa_cons (pv 10) (pa_cons (pv 9) pa_nil))))))))
                (pss_one (ps_ret pe_bl))
                pss_nil)))
            (pss_cons (ps_if (pt_not (pt_val (pe_callD G__law_hex_right (hr.mono (by decide)) (by rfl) (pa_cons (pv 4) (pa_cons (pv 7) (pa_cons (pv 10) pa_nil))))))
              (pss_one (ps_ret pe_bl))
              pss_nil)
            (pss_cons (ps_if (PW.pt (pw_and (pt_cmpR op_lt (pv 7) (pv 5) (nomark _)) (pw_and1 (pt_not (pt_val (pe_callD G__law_middle_right (hr.mono (by decide)) (by rfl) (pa_cons (pv 1) (pa_cons (pv 4) (pa_cons (pv 7) pa_nil)))))))))
              (pss_one (ps_ret pe_bl))
              pss_nil)
            (pss_one (ps_if (PW.pt (pw_and (pt_cmpR op_lt (pv 7) (pv 5) (nomark _)) (pw_and1 (pt_not (pt_val (pe_callD G__law_decimals_right (hr.mono (by decide)) (by rfl) (pa_cons (pv 4) (pa_cons (pv 7) pa_nil))))))))
            (pss_one (ps_ret pe_bl))
            pss_nil)))))))))))))
      (pss_cons (ps_set (i := 3) scn rfl (.inl rfl) (pe_lst (pa_cons (pe_callW G_number_text (hr.mono (by decide)) (by rfl) (pa_cons (pe_tup (pa_cons pe_int (pa_cons (pe_un un_neg pe_int) (pa_cons pe_int pa_nil)))) (pa_cons pe_str (pa_cons pe_int (pa_cons pe_int pa_nil))))) (pa_cons (pe_callW G_number_text (hr.mono (by decide)) (by rfl) (pa_cons (pe_tup (pa_cons pe_int (pa_cons pe_int (pa_cons pe_int pa_nil)))) (pa_cons pe_str (pa_cons pe_int (pa_cons pe_int pa_nil))))) (pa_cons (pe_callD G_hex_text (hr.mono (by decide)) (by rfl) (pa_cons (pe_tup (pa_cons pe_int (pa_cons (pe_un un_neg pe_int) (pa_cons pe_int pa_nil)))) (pa_cons pe_int (pa_cons pe_int pa_nil)))) pa_nil)))))
      (pss_one (ps_ret (pe_cmpR (op_eqD hr.units) (pv 3) (pe_lst (pa_cons (pe_strS [48, 46, 50] (by decide +kernel)) (pa_cons (pe_strS [49, 101, 49, 56] (by decide +kernel)) (pa_cons (pe_strS [45, 48, 120, 53, 112, 45, 49] (by decide +kernel)) pa_nil)))) (nomark _))))))), ?_⟩
    refine ⟨_, rfl, a, xs, rfl, hL, hl, fun d c H1 d1 s1 => ?_⟩
    refine ⟨8, rfl, by decide, by decide, ?_⟩
    refine for_range (lo := 0) (n := (8 : Int).toNat) (fun i σ G => ∃ w2 w4 w5 w6 w7 w8 w9 w10 n, σ = [some (.ref a), some (.ref d), w2, none, w4, w5, w6, w7, w8, w9, w10] ∧ DeckAt G d c n ∧ n ≤ 100 * i)
      ⟨none, none, none, none, none, none, none, none, 0, rfl, d1, Nat.le_refl _⟩ (fun i0 σ G hi hP => ?_) (fun σ G hP => ?_)
    · obtain ⟨w2, w4, w5, w6, w7, w8, w9, w10, n, rfl, dk, hn⟩ := hP
      have hi8 : i0 < 8 := hi
      refine ⟨_, rfl, d, c, n, rfl, dk, by omega, fun p H2 n2 f gf hp113 hn2 d2 k2 hp => ?_⟩
      have fb := gf.fb
      have b1 := fb.p
      have b2 := fb.l
      have b3 := fb.h
      have b4 := fb.ok.lh
      have hN2 : 2 ≤ f.N := by
        unfold Fm.N
        have := f.half_pos
        exact Nat.le_trans (by omega) (Nat.le_mul_of_pos_right _ this)
      have hpn := d2.tup_ne hp
      refine ⟨_, rfl, p, f, rfl, .inl (.inl hp), fb.ok, by omega, by omega, ?_⟩
      refine ⟨_, rfl, _, _, rfl, rfl, _, rfl, _, rfl, _, rfl, _, _, rfl, rfl, ⟨by decide, by decide, by decide⟩, _, _, rfl, d, c, n2, min f.N (10 ^ 12), ?_, d2, by omega, by omega, by omega, fun r1 H3 hr1 d3 k3 => ?_⟩
      · have e0 : (10 : Int) ^ (12 : Int).toNat = ((10 ^ 12 : Nat) : Int) := by decide
        show [V.ref d, V.int (if (10 : Int) ^ (12 : Int).toNat < ((f.N : Nat) : Int) then (10 : Int) ^ (12 : Int).toNat else ((f.N : Nat) : Int))] = _
        rw [e0, min_cast]
      refine ⟨_, rfl, _, _, rfl, rfl, _, rfl, _, rfl, _, _, rfl, rfl, ⟨by decide, by decide, by decide⟩, _, _, rfl, d, c, n2 + 1, min f.N (10 ^ 9), ?_, d3, by omega, by omega, by omega, fun r2 H4 hr2 d4 k4 => ?_⟩
      · have e0 : (10 : Int) ^ (9 : Int).toNat = ((10 ^ 9 : Nat) : Int) := by decide
        show [V.ref d, V.int (if (10 : Int) ^ (9 : Int).toNat < ((f.N : Nat) : Int) then (10 : Int) ^ (9 : Int).toNat else ((f.N : Nat) : Int))] = _
        rw [e0, min_cast]
      refine ⟨_, _, rfl, rfl, l6, fun p6 hp6 => ?_⟩
      have e1 : (f.N : Int) - 1 = ((f.N - 1 : Nat) : Int) := by omega
      have e2 : (f.N : Int) - 1 - (r2 : Int) = ((f.N - 1 - r2 : Nat) : Int) := by omega
      have s5 := same_new (o := .lst ([0, 1, f.N - 1, f.N, r1, f.N - 1 - r2].map fun x : Nat => V.int (x : Int))) hp6
      have u5 := @upd_same H4 p6 (.lst ([0, 1, f.N - 1, f.N, r1, f.N - 1 - r2].map fun x : Nat => V.int (x : Int)))
      have el : (HO.lst [V.int 0, V.int 1, V.int ((f.N : Int) - 1), V.int (f.N : Int), V.int (r1 : Int), V.int ((f.N : Int) - 1 - (r2 : Int))]) = .lst ([0, 1, f.N - 1, f.N, r1, f.N - 1 - r2].map fun x : Nat => V.int (x : Int)) := by
        rw [e2, e1]
        rfl
      have hall : ∀ x ∈ [0, 1, f.N - 1, f.N, r1, f.N - 1 - r2], x ≤ f.N := by
        intro x hx
        simp only [List.mem_cons, List.mem_nil_iff, or_false] at hx
        omega
      have eH : upd H4 p6 (HO.lst [V.int 0, V.int 1, V.int ((f.N : Int) - 1), V.int (f.N : Int), V.int (r1 : Int), V.int ((f.N : Int) - 1 - (r2 : Int))]) = upd H4 p6 (.lst ([0, 1, f.N - 1, f.N, r1, f.N - 1 - r2].map fun x : Nat => V.int (x : Int))) := by rw [el]
      have T0 : Turn1 (upd H4 p6 (HO.lst [V.int 0, V.int 1, V.int ((f.N : Int) - 1), V.int (f.N : Int), V.int (r1 : Int), V.int ((f.N : Int) - 1 - (r2 : Int))])) d c p p6 f [0, 1, f.N - 1, f.N, r1, f.N - 1 - r2] n2 2 := by
        rw [eH]
        exact ⟨⟨_, d4.up s5, Nat.le_refl _⟩, s5 _ _ (k4 _ _ hpn.1 hpn.2 (k3 _ _ hpn.1 hpn.2 hp)), u5, d4.nd hp6⟩
      have hcl : [0, 1, f.N - 1, f.N, r1, f.N - 1 - r2].length = 6 := rfl
      generalize [0, 1, f.N - 1, f.N, r1, f.N - 1 - r2] = cs at hall T0 hcl
      refine ⟨_, rfl, p6, rfl, ⟨_, .inl (.inl T0.l)⟩, ?_⟩
      refine for_list (K := K) (a := p6) (xs := cs.map fun x : Nat => V.int (x : Int)) (fun j σ G => ∃ w7 w8 w9 w10, σ = [some (.ref a), some (.ref d), some (.int (0 + (i0 : Int))), none, some (.ref p), some (.int (f.N : Int)), some (.ref p6), w7, w8, w9, w10] ∧ Turn1 G d c p p6 f cs n2 (2 + 4 * j))
        ⟨w7, w8, w9, w10, rfl, T0⟩ (fun j σ G _ hP => .inl (.inl hP.choose_spec.choose_spec.choose_spec.choose_spec.2.l)) (fun j cv σ G hj hP => ?_) (fun σ G hP => ?_)
      · obtain ⟨v7, v8, v9, v10, rfl, ⟨n3, dk3, hn3⟩, fk3, lk3, h6n⟩ := hP
        rw [List.getElem?_map] at hj
        obtain ⟨x, hx0, hx1⟩ := Option.map_eq_some_iff.mp hj
        subst hx1
        have hx := hall x (List.mem_of_getElem? hx0)
        have hj6 : j < 6 := by
          by_cases z : j < 6
          · exact z
          · rw [List.getElem?_eq_none (by omega)] at hx0
            cases hx0
        clear hx0 hall T0 hN2 hr1 hr2
        refine ⟨_, rfl, d, c, n3, 2, rfl, dk3, by omega, by decide, by decide, fun r3 Ha hr3 da ka => ?_⟩
        refine ⟨l4, fun qa hqa => ?_⟩
        have sa := same_new (o := .lst (four.map fun W => V.str W.nm)) hqa
        have ua := @upd_same Ha qa (.lst (four.map fun W => V.str W.nm))
        have nqa := da.nd hqa
        refine ⟨_, rfl, d, c, n3 + 1, 4, rfl, da.up sa, by omega, by decide, by decide, fun r4 Hb hr4 db kb => ?_⟩
        obtain ⟨W0, hW0⟩ : ∃ W : Way, (four.map fun W => V.str W.nm)[r4]? = some (V.str W.nm) := by
          rcases (show r4 = 0 ∨ r4 = 1 ∨ r4 = 2 ∨ r4 = 3 by omega) with rfl | rfl | rfl | rfl
          · exact ⟨.even, rfl⟩
          · exact ⟨.away, rfl⟩
          · exact ⟨.zero, rfl⟩
          · exact ⟨.out, rfl⟩
        obtain ⟨sg, hsg⟩ := sign_of hr3
        have fb2 := kb _ _ hpn.1 hpn.2 (sa _ _ (ka _ _ hpn.1 hpn.2 fk3))
        have lb2 := kb _ _ h6n.1 h6n.2 (sa _ _ (ka _ _ h6n.1 h6n.2 lk3))
        refine ⟨qa, _, ((r4 : Nat) : Int), _, rfl, rfl, .inl (.inl (kb _ _ nqa.1 nqa.2 ua)), atI_nat (j := r4) hW0, V.int (sgi sg), V.str W0.nm, by rw [hsg], ?_⟩
        refine ⟨_, rfl, p, _, 0, _, rfl, rfl, .inl (.inl fb2), rfl, _, _, rfl, rfl, _, rfl, ifD (fun h => ?_) (fun h => ?_)⟩
        · refine ⟨_, rfl, d, c, n3 + 2, 3, rfl, db, by omega, by decide, by decide, fun r5 G5 hr5 dG0 kc => ?_⟩
          have fG := kc _ _ hpn.1 hpn.2 fb2
          have lG := kc _ _ h6n.1 h6n.2 lb2
          obtain ⟨n5, hn5, dG⟩ : ∃ n5, n5 ≤ n2 + (2 + 4 * j) + 3 ∧ DeckAt G5 d c n5 := ⟨_, by omega, dG0⟩
          refine ⟨rfl, _, rfl, ifD (fun h2 => ?_) (fun h2 => ?_)⟩
          · have hW : ∃ W : Way, W = .odd := ⟨_, rfl⟩
            -- the way W, the heap G5, the deck's count n5
            refine ⟨l3, fun q2 hq2 => ⟨q2, rfl, ⟨_, sq_t⟩, ?_⟩⟩
            have sq2 := same_new (o := .tup (kds.map fun k => V.str k.nm)) hq2
            have uq2 := @upd_same G5 q2 (.tup (kds.map fun k => V.str k.nm))
            refine for_tup (K := K) (a := q2) (xs := kds.map fun k => V.str k.nm) (fun i σ G => ∃ w9, σ = [some (.ref a), some (.ref d), some (.int (0 + (i0 : Int))), none, some (.ref p), some (.int (f.N : Int)), some (.ref p6), some (.int (x : Int)), some (.str Way.odd.nm), w9, some (.int (sgi sg))] ∧ Same G5 G ∧ G q2 = some (.tup (kds.map fun k => V.str k.nm)))
              ⟨_, rfl, sq2, uq2⟩ (fun i σ G _ hP => .inl (.inl hP.choose_spec.2.2)) (fun i kv σ G hi hP => ?_) (fun σ G hP => ?_)
            · obtain ⟨u9, rfl, sG, uG⟩ := hP
              rw [List.getElem?_map] at hi
              obtain ⟨k, hk, hkx⟩ := Option.map_eq_some_iff.mp hi
              subst hkx
              exact ⟨_, rfl, _, rfl, _, rfl, _, rfl, _, rfl, p, f, .odd, x, sg, k, rfl, .inl (.inl (sG _ _ fG)), gf, hx, fun G6 s6 => ⟨true, rfl, _, rfl, sG.trans s6, s6 _ _ uG⟩⟩
            obtain ⟨u9, rfl, sG, uG⟩ := hP
            refine ⟨_, rfl, _, rfl, _, rfl, p, f, x, sg, rfl, .inl (.inl (sG _ _ fG)), fb, hx, fun G6 s6 => ⟨true, rfl, ?_⟩⟩
            have sG6 := sG.trans s6
            have dG6 := dG.up sG6
            have fG6 := sG6 _ _ fG
            have lG6 := sG6 _ _ lG
            clear sG s6 sG6 uG
            refine ⟨_, rfl, _, rfl, _, _, rfl, rfl, _, rfl, ifD (fun h => ?_) (fun h => ?_)⟩
            · refine ⟨_, rfl, _, rfl, _, rfl, d, c, p, n5, f, x, rfl, dG6, by omega, fG6, fb, by omega, fun G7 d7 k7 => ⟨true, rfl, ?_⟩⟩
              have fG7 := k7 _ _ hpn.1 hpn.2 fG6
              have lG7 := k7 _ _ h6n.1 h6n.2 lG6
              refine ⟨_, rfl, _, rfl, _, _, rfl, rfl, _, rfl, ifD (fun h2 => ?_) (fun h2 => absurd h h2)⟩
              exact ⟨_, rfl, _, rfl, p, f, x, rfl, .inl (.inl fG7), gf, by omega, fun G8 s8 => ⟨true, rfl, _, _, _, _, rfl, ⟨n5 + 1, d7.up s8, by omega⟩, s8 _ _ fG7, s8 _ _ lG7, h6n⟩⟩
            · refine ⟨_, rfl, _, rfl, _, _, rfl, rfl, _, rfl, ifD (fun h2 => absurd h2 h) (fun h2 => ?_)⟩
              exact ⟨_, _, _, _, rfl, ⟨n5, dG6, by omega⟩, fG6, lG6, h6n⟩
          · refine ⟨_, rfl, ?_⟩
            -- the way W, the heap G5, the deck's count n5
            refine ⟨l3, fun q2 hq2 => ⟨q2, rfl, ⟨_, sq_t⟩, ?_⟩⟩
            have sq2 := same_new (o := .tup (kds.map fun k => V.str k.nm)) hq2
            have uq2 := @upd_same G5 q2 (.tup (kds.map fun k => V.str k.nm))
            refine for_tup (K := K) (a := q2) (xs := kds.map fun k => V.str k.nm) (fun i σ G => ∃ w9, σ = [some (.ref a), some (.ref d), some (.int (0 + (i0 : Int))), none, some (.ref p), some (.int (f.N : Int)), some (.ref p6), some (.int (x : Int)), some (.str W0.nm), w9, some (.int (sgi sg))] ∧ Same G5 G ∧ G q2 = some (.tup (kds.map fun k => V.str k.nm)))
              ⟨_, rfl, sq2, uq2⟩ (fun i σ G _ hP => .inl (.inl hP.choose_spec.2.2)) (fun i kv σ G hi hP => ?_) (fun σ G hP => ?_)
            · obtain ⟨u9, rfl, sG, uG⟩ := hP
              rw [List.getElem?_map] at hi
              obtain ⟨k, hk, hkx⟩ := Option.map_eq_some_iff.mp hi
              subst hkx
              exact ⟨_, rfl, _, rfl, _, rfl, _, rfl, _, rfl, p, f, W0, x, sg, k, rfl, .inl (.inl (sG _ _ fG)), gf, hx, fun G6 s6 => ⟨true, rfl, _, rfl, sG.trans s6, s6 _ _ uG⟩⟩
            obtain ⟨u9, rfl, sG, uG⟩ := hP
            refine ⟨_, rfl, _, rfl, _, rfl, p, f, x, sg, rfl, .inl (.inl (sG _ _ fG)), fb, hx, fun G6 s6 => ⟨true, rfl, ?_⟩⟩
            have sG6 := sG.trans s6
            have dG6 := dG.up sG6
            have fG6 := sG6 _ _ fG
            have lG6 := sG6 _ _ lG
            clear sG s6 sG6 uG
            refine ⟨_, rfl, _, rfl, _, _, rfl, rfl, _, rfl, ifD (fun h => ?_) (fun h => ?_)⟩
            · refine ⟨_, rfl, _, rfl, _, rfl, d, c, p, n5, f, x, rfl, dG6, by omega, fG6, fb, by omega, fun G7 d7 k7 => ⟨true, rfl, ?_⟩⟩
              have fG7 := k7 _ _ hpn.1 hpn.2 fG6
              have lG7 := k7 _ _ h6n.1 h6n.2 lG6
              refine ⟨_, rfl, _, rfl, _, _, rfl, rfl, _, rfl, ifD (fun h2 => ?_) (fun h2 => absurd h h2)⟩
              exact ⟨_, rfl, _, rfl, p, f, x, rfl, .inl (.inl fG7), gf, by omega, fun G8 s8 => ⟨true, rfl, _, _, _, _, rfl, ⟨n5 + 1, d7.up s8, by omega⟩, s8 _ _ fG7, s8 _ _ lG7, h6n⟩⟩
            · refine ⟨_, rfl, _, rfl, _, _, rfl, rfl, _, rfl, ifD (fun h2 => absurd h2 h) (fun h2 => ?_)⟩
              exact ⟨_, _, _, _, rfl, ⟨n5, dG6, by omega⟩, fG6, lG6, h6n⟩
        · refine ⟨_, rfl, ?_⟩
          obtain ⟨n5, hn5, dG⟩ : ∃ n5, n5 ≤ n2 + (2 + 4 * j) + 3 ∧ DeckAt Hb d c n5 := ⟨_, by omega, db⟩
          have fG := fb2
          have lG := lb2
          -- the way W, the heap Hb, the deck's count n5
          refine ⟨l3, fun q2 hq2 => ⟨q2, rfl, ⟨_, sq_t⟩, ?_⟩⟩
          have sq2 := same_new (o := .tup (kds.map fun k => V.str k.nm)) hq2
          have uq2 := @upd_same Hb q2 (.tup (kds.map fun k => V.str k.nm))
          refine for_tup (K := K) (a := q2) (xs := kds.map fun k => V.str k.nm) (fun i σ G => ∃ w9, σ = [some (.ref a), some (.ref d), some (.int (0 + (i0 : Int))), none, some (.ref p), some (.int (f.N : Int)), some (.ref p6), some (.int (x : Int)), some (.str W0.nm), w9, some (.int (sgi sg))] ∧ Same Hb G ∧ G q2 = some (.tup (kds.map fun k => V.str k.nm)))
            ⟨_, rfl, sq2, uq2⟩ (fun i σ G _ hP => .inl (.inl hP.choose_spec.2.2)) (fun i kv σ G hi hP => ?_) (fun σ G hP => ?_)
          · obtain ⟨u9, rfl, sG, uG⟩ := hP
            rw [List.getElem?_map] at hi
            obtain ⟨k, hk, hkx⟩ := Option.map_eq_some_iff.mp hi
            subst hkx
            exact ⟨_, rfl, _, rfl, _, rfl, _, rfl, _, rfl, p, f, W0, x, sg, k, rfl, .inl (.inl (sG _ _ fG)), gf, hx, fun G6 s6 => ⟨true, rfl, _, rfl, sG.trans s6, s6 _ _ uG⟩⟩
          obtain ⟨u9, rfl, sG, uG⟩ := hP
          refine ⟨_, rfl, _, rfl, _, rfl, p, f, x, sg, rfl, .inl (.inl (sG _ _ fG)), fb, hx, fun G6 s6 => ⟨true, rfl, ?_⟩⟩
          have sG6 := sG.trans s6
          have dG6 := dG.up sG6
          have fG6 := sG6 _ _ fG
          have lG6 := sG6 _ _ lG
          clear sG s6 sG6 uG
          refine ⟨_, rfl, _, rfl, _, _, rfl, rfl, _, rfl, ifD (fun h => ?_) (fun h => ?_)⟩
          · refine ⟨_, rfl, _, rfl, _, rfl, d, c, p, n5, f, x, rfl, dG6, by omega, fG6, fb, by omega, fun G7 d7 k7 => ⟨true, rfl, ?_⟩⟩
            have fG7 := k7 _ _ hpn.1 hpn.2 fG6
            have lG7 := k7 _ _ h6n.1 h6n.2 lG6
            refine ⟨_, rfl, _, rfl, _, _, rfl, rfl, _, rfl, ifD (fun h2 => ?_) (fun h2 => absurd h h2)⟩
            exact ⟨_, rfl, _, rfl, p, f, x, rfl, .inl (.inl fG7), gf, by omega, fun G8 s8 => ⟨true, rfl, _, _, _, _, rfl, ⟨n5 + 1, d7.up s8, by omega⟩, s8 _ _ fG7, s8 _ _ lG7, h6n⟩⟩
          · refine ⟨_, rfl, _, rfl, _, _, rfl, rfl, _, rfl, ifD (fun h2 => absurd h2 h) (fun h2 => ?_)⟩
            exact ⟨_, _, _, _, rfl, ⟨n5, dG6, by omega⟩, fG6, lG6, h6n⟩
      · obtain ⟨v7, v8, v9, v10, rfl, ⟨n3, dk3, hn3⟩, fk3, lk3, h6n⟩ := hP
        rw [List.length_map, hcl] at hn3
        exact ⟨_, _, _, _, _, _, _, _, _, rfl, dk3, by omega⟩
    · obtain ⟨w2, w4, w5, w6, w7, w8, w9, w10, n, rfl, dk, hn⟩ := hP
      have g1 : GF ⟨3, -2, 2⟩ := gf_of (by decide) (by decide) (by decide) (by decide) (by decide) (by decide +kernel)
      have g2 : GF ⟨1, 60, 60⟩ := gf_of (by decide) (by decide) (by decide) (by decide) (by decide) (by decide +kernel)
      refine ⟨_, rfl, l3, fun q1 h1 => ?_⟩
      refine ⟨q1, ⟨3, -2, 2⟩, .even, false, 1, .auto, rfl, .inl (.inl upd_same), g1, by decide +kernel, fun G1 t1 => ?_⟩
      refine ⟨l3, fun q2 h2 => ?_⟩
      refine ⟨q2, ⟨1, 60, 60⟩, .even, false, 1, .auto, rfl, .inl (.inl upd_same), g2, by decide +kernel, fun G2 t2 => ?_⟩
      refine ⟨_, rfl, l3, fun q3 h3 => ?_⟩
      refine ⟨q3, ⟨3, -2, 2⟩, true, 9, rfl, .inl (.inl upd_same), g1.fb, by decide +kernel, fun G3 t3 => ?_⟩
      rw [text_a, text_b, text_c]
      refine ⟨l3, fun q4 h4 => ?_⟩
      refine ⟨_, rfl, l3, fun q5 h5 => ?_⟩
      have k5 := same_new (o := .lst [.str (SX.S [48, 46, 50]), .str (SX.S [49, 101, 49, 56]), .str (SX.S [45, 48, 120, 53, 112, 45, 49])]) h5
      refine ⟨.list [.str (SX.S [48, 46, 50]), .str (SX.S [49, 101, 49, 56]), .str (SX.S [45, 48, 120, 53, 112, 45, 49])], .list [.str (SX.S [48, 46, 50]), .str (SX.S [49, 101, 49, 56]), .str (SX.S [45, 48, 120, 53, 112, 45, 49])],
        .lst (.inl (.inl (k5 _ _ upd_same))) (.cons (.str _) (.cons (.str _) (.cons (.str _) .nil))), .lst (.inl (.inl upd_same)) (.cons (.str _) (.cons (.str _) (.cons (.str _) .nil))), by decide +kernel, by decide +kernel, ?_⟩
      exact rB_ (by decide +kernel) (q _)

end
end NT
/-! text W15 -/
set_option Elab.async false
set_option linter.all false
set_option maxRecDepth 100000
set_option maxHeartbeats 0
namespace NT
open PySem PySem.Spec PyProof.Rows L2
theorem law_facts {P : Program} {w : World} {K : PySem.W.Frag} {h : Heap} {mg : Str → Option Value} {f : Addr} (X : K.In h) (G : h.Ns mainGlobals mg) (hfa : mg ("law" : Str) = some (.ref f)) (c : He.SaysD faL fnL K) (nd : noDig K = true) :
    ∃ fd : FuncData, (∀ (s : Shared) (v : Value), BindsTo s fd ⟨[v], []⟩ [("_law_script", v)]) ∧ ∀ base : Heap, K.In base → base.Ns mainGlobals mg → FnOk P w K mg base CX0 8 f fd ["_law_script"] (sp_law K) := by
  have hd : fnL[45]? = some (dd 65 "law") := rfl
  obtain ⟨fd, F⟩ := c.def_ 45 hd
  have F' : FunD K "law" "law" (defArgs (ts 65)) (defBody (ts 65)) (defScope (ts 65)) [] [] (He.fAd K ("law", none)) fd := F
  have e := hfa.symm.trans (He.glo_ok X G (c.fact 45 (f := .glo "law") rfl))
  cases e
  have b := FunD.bindsA (ps := ["_law_script"]) F' fun _ _ _ _ _ _ us hl => match us, hl with | [_], _ => rfl
  have nd2 : PySem.W.nsIn K cStatics "sys.int_max_str_digits" = some none := of_decide_eq_true nd
  exact ⟨fd, fun s v => b s [v] rfl, fun base hX hG => ok_law ⟨c, hX, hG, nd2⟩ F'⟩
end NT
open PySem PySem.W PySem.Calls PyProof.Rows
theorem PySem.Challenge.cw_numbertexts_k15_whole_texts_of_numbers_holds : PySem.Challenge.rw_numbertexts_k15_whole_texts_of_numbers.Holds := by
  w_on; o_law
  refine HandSHeadRun.head_any (r := NT.rowR) (q := view NT.rowR.prog [65]) (H := NT.hookN) (ob := NT.lookN) (M := 4000) (loose := NT.nmL) (d := HandSHeadRun.topDef NT.rowR.prog 65) (kwd := []) NT.lookN_eq
    (by kernel_rfl) (fun s => by kernel_rfl) NT.runN (by kernel_rfl) (by kernel_rfl) (by kernel_rfl) (by rfl) (by first | assumption | decide +kernel) (by decide +kernel) ⟨rfl, rfl, rfl, rfl, rfl, by decide +kernel⟩ ?hw ?hc
  case hw => w_witness2
  case hc =>
    refine L2.walk_ofE (l := PySem.Challenge.rw_numbertexts_k15_whole_texts_of_numbers) (n := 63) (k := 8) (x := "_law_script") (CX := L2.CX0) rfl (by decide) (by kernel_rfl) ⟨rfl, by decide, by decide⟩ ?F (fun _ _ _ _ z => z)
    intro w mg fa h Y G hmg0
    obtain ⟨K, KX, c, nd⟩ := Y
    have hmg : mg ("law" : PySem.Str) = some (.ref fa) := by
      have e : (HandSHeadRun.topDef NT.rowR.prog 65).name = ("law" : PySem.Str) := by kernel_rfl
      rw [← e]
      exact hmg0
    obtain ⟨fd, hb, hF⟩ := NT.law_facts (P := (PySem.Challenge.rw_numbertexts_k15_whole_texts_of_numbers).prog) (w := w) KX G hmg c nd
    exact ⟨K, fd, NT.sp_law K, KX, hb, fun H a ns hl _ hS => ⟨a, ns, rfl, hS, Nat.le_trans hl (by decide), fun _ => rfl⟩, hF⟩
