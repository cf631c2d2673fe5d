import PyProof.Rows.All
import Wide.All
import OpenK.AllK
import Wide.FinOn
import HandS.ForMost
import HandS.ForExc
import HandS.Wide
import HandS.Style
import HandS.IsInst
import HandS.RaiseMore
import HandS.Evl
import HandS.More
import HandS.EndBits
import KE.GoesEnum
import PyProof.Rows.StrOr
import PyProof.ReprRoads
import HandS.Walk
import HandS.Lambda
import HandS.Dict
import PyProof.Rows.StrDigitsNeg
import PySem.Challenge.RW_kindredtold_k53_whole_plain_data
set_option Elab.async false
set_option linter.all false
set_option maxRecDepth 100000
set_option maxHeartbeats 4000000
/-! own rules beside the hand layer: repr and == of data, texts times ints, enumerate of a text, str and int of long numbers -/
namespace KX
open PySem PySem.Spec PyProof.Rows L2
section
variable {X : Cx}
/-! ### data: repr, == -/
def rRepr (K : PySem.W.Frag) : List V → Hp → VK → Prop := fun xs H Q => ∃ (v : V) (d : PyData), xs = [v] ∧ Dp K H v d ∧ d.showable = true ∧ d.shown.length ≤ sizeLine ∧ d.depth ≤ 9000 ∧ Q (.str d.shown) H
theorem dp_noDict {K : PySem.W.Frag} {H : Hp} : ∀ (d : PyData) (v : V), Dp K H v d → d.hasDict = false := by
  intro d
  refine PyData.rec (motive_1 := fun d => ∀ v, Dp K H v d → d.hasDict = false) (motive_2 := fun ds => ∀ vs, DpAll K H vs ds → PyData.hasDictAll ds = false) (motive_3 := fun _ => True) (motive_4 := fun _ => True) ?_ ?_ ?_ ?_ ?_ ?_ ?_ ?_ ?_ ?_ ?_ ?_ d
  · intro v _; rfl
  · intro b v _; rfl
  · intro i v _; rfl
  · intro x v _; rfl
  · intro xs ih v h
    cases h with
    | lst _ ha => simpa only [PyData.hasDict] using ih _ ha
  · intro xs ih v h
    cases h with
    | tup _ ha => simpa only [PyData.hasDict] using ih _ ha
  · intro kvs _ v h; cases h
  · intro vs _; rfl
  · intro x xs i1 i2 vs h
    cases h with
    | cons h1 h2 => simp only [PyData.hasDictAll, i1 _ h1, i2 _ h2, Bool.or_false]
  · trivial
  · intros; trivial
  · intros; trivial
theorem call_repr_data (hg : X.A.guards = some []) (hu : X.A.units + 9100 < cLine) : CallR X (.builtin "repr") (rRepr X.K) := by
  intro pins s σ H xs us Q I r h
  obtain ⟨v, d, rfl, hd, hs, hz, hdp, q⟩ := h
  obtain ⟨u, rfl, ru⟩ := Vals.one r
  obtain ⟨as, rd⟩ := Dp.reads I d v u hd ru
  have hn : d.hasDict = true → sysModules ∉ as := fun e => by rw [dp_noDict d v hd] at e; cases e
  have fin : ∀ (h' : Heap) (tk : Nat) (w : Tok), (∀ b o, s.heap.get? b = some o → h'.get? b = some o) → EP X pins σ Q (.str d.shown w) { s with heap := h', toks := tk } := fun h' tk w k => ⟨.str d.shown, H, I.kept (h' := h') (t' := tk) k, ⟨w, rfl⟩, q⟩
  have fin0 : EP X pins σ Q (.str d.shown s.toks) { s with toks := s.toks + 1 } := fin s.heap (s.toks + 1) s.toks fun _ _ e => e
  cases rd with
  | none => exact PySem.P.repr_of_none fin0
  | bool b => exact PySem.P.repr_of_bool fin0
  | int i t => exact PySem.P.repr_of_int (of_decide_eq_true hs) fin0
  | str x t => exact PySem.P.repr_of_str fin0 hz
  | list h1 h2 h3 h4 => exact repr_of_reads' (.list h1 h2 h3 h4) hs hn hg (by omega) (fun _ _ e => e) (fun h' w tk k => fin h' tk w k) hz
  | tuple h1 h2 h3 h4 => exact repr_of_reads' (.tuple h1 h2 h3 h4) hs hn hg (by omega) (fun _ _ e => e) (fun h' w tk k => fin h' tk w k) hz
  | dict h1 h2 h3 h4 h5 => cases hd
/-- == and != of data, one side of which is not deep -/
def rEqX (K : PySem.W.Frag) : R2 := fun x y H Q => ∃ d e, Dp K H x d ∧ Dp K H y e ∧ d.canLay0 = true ∧ e.canLay0 = true ∧ min d.depth e.depth ≤ 100 ∧ Q (.bl (PyData.eqv d e)) H
def rNeX (K : PySem.W.Frag) : R2 := fun x y H Q => ∃ d e, Dp K H x d ∧ Dp K H y e ∧ d.canLay0 = true ∧ e.canLay0 = true ∧ min d.depth e.depth ≤ 100 ∧ Q (.bl (!PyData.eqv d e)) H
theorem op_eqX (hu : X.A.units + 200 < cLine) : OpR X (compareOp .Eq) (rEqX X.K) := by
  intro pins s σ H x y v u Q I rx ry h
  obtain ⟨d, e, hd, he, sd, se, hm, q⟩ := h
  obtain ⟨as, r1⟩ := Dp.reads I d x v hd rx
  obtain ⟨bs, r2⟩ := Dp.reads I e y u he ry
  exact SeqAt.compareEq_reads r1 r2 sd se (by omega) ⟨.bl _, H, I, rfl, q⟩
theorem op_neX (hu : X.A.units + 200 < cLine) : OpR X (compareOp .NotEq) (rNeX X.K) := by
  intro pins s σ H x y v u Q I rx ry h
  obtain ⟨d, e, hd, he, sd, se, hm, q⟩ := h
  obtain ⟨as, r1⟩ := Dp.reads I d x v hd rx
  obtain ⟨bs, r2⟩ := Dp.reads I e y u he ry
  exact SeqAt.compareNe_reads r1 r2 sd se (by omega) ⟨.bl _, H, I, rfl, q⟩
theorem hu200 {k : Nat} {A : Around} (r : Room k A) : A.units + 200 < cLine := by have := r.un; omega
/-! ### texts -/
/-- s * n, both such that all is small -/
theorem op_mulStr : OpR X (binaryOp .Mult) (fun x y H Q => ∃ (z : Str) (n : Nat), x = .str z ∧ y = .int (n : Int) ∧ n ≤ 100000 ∧ z.length ≤ 100 ∧ Q (.str (Txt.mul z n)) H) := by
  intro pins s σ H x y v u Q I rx ry h
  obtain ⟨z, n, rfl, rfl, hn, hz, q⟩ := h
  obtain ⟨t, rfl⟩ := rx
  obtain ⟨t', rfl⟩ := ry
  refine SB.mul ⟨?_, fun h1 _ => ?_, fun _ _ => ?_⟩ fun t' k => ⟨.str _, H, I.tok _, ⟨_, rfl⟩, q⟩
  · have h1 : ¬ ((n : Int) < -(2 ^ 63 : Int)) := by omega
    have h2 : ¬ ((n : Int) ≥ 2 ^ 63) := by omega
    rw [decide_eq_false h1, decide_eq_false h2]; rfl
  · have h3 : (100 : Int) ≤ (2 ^ 63 - 1) / (n : Int) := by
      refine (Int.le_ediv_iff_mul_le (by omega)).mpr ?_
      omega
    omega
  · have h4 : z.length * (n : Int).toNat ≤ 100 * 100000 := Nat.mul_le_mul hz (by omega)
    unfold Builtin.Str.tooLong
    exact decide_eq_false (by rw [sizeLine_eq]; omega)
theorem call_str_bool : CallR X (.type "str") (fun xs H Q => ∃ b, xs = [.bl b] ∧ Q (.str (if b then "True" else "False")) H) := by
  intro pins s σ H xs us Q I r h
  obtain ⟨b, rfl, q⟩ := h
  obtain ⟨u, rfl, ru⟩ := Vals.one r
  cases ru
  exact PySem.P.str_of_bool ⟨.str _, H, I.tok _, ⟨_, rfl⟩, q⟩
/-! ### long numbers as texts -/
theorem noDigits_of {K : PySem.W.Frag} {h : Heap} (Z : K.In h) (e : PySem.W.nsOkIn K cStatics = true) (q : PySem.W.nsIn K cStatics "sys.int_max_str_digits" = some none) : h.NoDigits :=
  ⟨_, .of_isNs (PySem.W.isNs_of_in Z e), PySem.W.nsMap_none_of_in Z e q⟩
structure NoDig (K : PySem.W.Frag) : Prop where
  ok : PySem.W.nsOkIn K cStatics = true
  no : PySem.W.nsIn K cStatics "sys.int_max_str_digits" = some none
theorem call_str_wide (hc : X.calm = true) (nd : NoDig X.K) : CallR X (.type "str") (fun xs H Q => ∃ i : Int, xs = [.int i] ∧ i.natAbs < 10 ^ 4300 ∧ Q (.str (toString i)) H) := by
  intro pins s σ H xs us Q I r h
  obtain ⟨i, rfl, hi, q⟩ := h
  obtain ⟨u, rfl, t, rfl⟩ := Vals.one r
  exact str_of_int_or (I.ok.hd hc) (noDigits_of I.kIn nd.ok nd.no) (fun _ => ⟨.str _, H, I.tok _, ⟨_, rfl⟩, q⟩) fun z => absurd hi (Nat.not_lt.mpr z)
end
/-! ### int of a long text -/
section
open PySem.NumText
theorem textW {M : Model} {A : Around} {E : Value → Shared → Prop} {s : Shared} {Q : Value → Shared → Prop} {v : Value} {text : List Nat} {n : Int} {mc : Str → Option Value}
    (hs : ¬ (text.takeWhile (· != 0)).length ≤ 640) (hr : (int_private% "readNumeral") 4300 10 (text.takeWhile (· != 0)) = (int_private% "Numeral.value") n)
    (ha : ((text.takeWhile (· != 0)).length == text.length) = true) (h1 : s.heap.Ns cStatics mc) (h2 : mc "sys.int_max_str_digits" = none) (h : Q (.int n s.toks) { s with toks := s.toks + 1 }) :
    wpAny M A ((int_private% "intFromText") v text 10) Q E s := by
  obtain ⟨hp, g, d, tk, os⟩ := s
  have lim : ∀ {R : Nat → Shared → Prop}, R 4300 ⟨hp, g, d, tk, os⟩ → wpAny M A Builtin.intMaxStrDigits R E ⟨hp, g, d, tk, os⟩ := fun {R} z => by
    unfold Builtin.intMaxStrDigits
    refine wpAny_bind (wpAny_nsGet h1 ?_)
    rw [h2]
    exact wpAny_pure z
  repeat (any_goals (first
    | assumption
    | (with_reducible refine wpAny_ite_false (decide_eq_false hs) ?_)
    | (with_reducible refine wpAny_ite_true (decide_eq_true ha) ?_)
    | (with_reducible refine lim ?_)
    | wp_step))
  all_goals (try rw [hr])
  all_goals (try dsimp only)
  repeat (any_goals (first
    | assumption
    | (with_reducible refine wpAny_ite_true (decide_eq_true ha) ?_)
    | wp_step))
structure Hid2 (p : Prop) : Prop where
  out : p
theorem newW {x : Str} {u : Tok} {n : Int} (hl : ¬ (numSeenOf x).length ≤ 640) (hz : x.length ≤ sizeLine) (hn : PySem.intText? x = some n) :
    Meets (Builtin.«int.__new__» ⟨[.type "int", .str x u], []⟩) (fun _ R s => s.heap.NoDigits ∧ R (.ok (.ret (.int n s.toks))) { s with toks := s.toks + 1 }) :=
  .of_wp fun prog w A R s hq => by
    obtain ⟨hp, g, d, tk, os⟩ := s
    obtain ⟨⟨mc, q1, q2⟩, hR⟩ := hq
    have f1 := F.conv_sub_int
    have f2 := F.madeHere_int
    have f3 := PySem.W.KIN.str_int
    have f4 := PySem.W.KIN.str_idx
    have f5 := PySem.W.KIN.str_trunc
    have f6 : typeOf (.str x u) = pure (.type "str") := rfl
    have hr : (int_private% "readNumeral") 4300 10 (numSeenOf x) = (int_private% "Numeral.value") n ∧ ((numSeenOf x).length == (numTextOf x).length) = true := by
      rcases read4300 x hz with ⟨m, e1, e2, e3⟩ | ⟨e1, _⟩
      · rw [hn] at e1
        cases e1
        exact ⟨e3, e2⟩
      · rw [hn] at e1
        cases e1
    have hk := Hid2.mk (And.intro hl (And.intro hr (And.intro q1 q2)))
    clear hl hr hn q1 q2 hz
    repeat (any_goals (first
      | assumption
      | ((with_reducible show wpAny _ _ ((int_private% "intFromText") _ _ _) _ _ _); refine textW hk.out.1 hk.out.2.1.1 hk.out.2.1.2 hk.out.2.2.1 hk.out.2.2.2 ?_)
      | wp_step))
    all_goals first | exact ⟨_, rfl, hR⟩ | skip
end
section
variable {X : Cx}
/-- int of a text that is a number of at most 4300 digits -/
theorem call_int_text (nd : NoDig X.K) : CallR X (.type "int") (fun xs H Q => ∃ (a : Str) (n : Int), xs = [.str a] ∧ PySem.intText? a = some n ∧ a.length ≤ sizeLine ∧ (∀ c ∈ a.cps.toList, c ≠ 0 ∧ c < 128) ∧ Q (.int n) H) := by
  intro pins s σ H xs us Q I r h
  obtain ⟨a, n, rfl, hn, hz, ha, q⟩ := h
  obtain ⟨u, rfl, t, rfl⟩ := Vals.one r
  have fin : EP X pins σ Q (.int n s.toks) { s with toks := s.toks + 1 } := ⟨.int n, H, I.tok _, ⟨_, rfl⟩, q⟩
  by_cases hl : (numSeenOf a).length ≤ 640
  · by_cases hs : a.length ≤ 640
    · exact PySem.W.KIN.call_text hn hs fin
    · have e1 : a.cps.all (· < 128) = true := by
        rw [← Array.all_toList]
        exact List.all_eq_true.mpr fun c hc => decide_eq_true (ha c hc).2
      have e2 : numTextOf a = a.cps.toList := if_pos e1
      have e3 : numSeenOf a = a.cps.toList := by
        show (numTextOf a).takeWhile (· != 0) = a.cps.toList
        rw [e2]
        have tw : ∀ l : List Nat, (∀ c ∈ l, c ≠ 0) → l.takeWhile (· != 0) = l := by
          intro l
          induction l with
          | nil => intro _; rfl
          | cons c r ih =>
            intro z
            rw [List.takeWhile_cons, if_pos (by simpa using z c List.mem_cons_self), ih fun d hd => z d (List.mem_cons_of_mem _ hd)]
        exact tw _ fun c hc => (ha c hc).1
      rw [e3] at hl
      exact absurd hl hs
  · exact call_int_1 (newW hl hz hn) ⟨noDigits_of I.kIn nd.ok nd.no, ⟨typeIs_int _ _ _, fin⟩⟩
/-! ### *= of great ints -/
theorem ip_mulW : PIp X .Mult (rI CMulW fun i j => .int (i * j)) := by
  intro pins s σ H x y v u Q I rx ry h
  exact (opI (f := inplaceOp .Mult) fun _ _ _ _ _ _ _ hc q => imul_int q (CMulW.ok hc)) pins s σ H x y v u Q I rx ry h
/-! ### enumerate of a text -/
def IteS (x : Str) : It := ⟨fun i _ => i < x.cps.size, fun i H v H' => ∃ T c, v = .ref T ∧ H T = none ∧ H' = upd H T (.tup [.int (i : Nat), .str ⟨#[c]⟩]) ∧ x.cps[i]? = some c, fun i _ => i = x.cps.size⟩
theorem turn_enumS {P : Program} {w : World} {K : PySem.W.Frag} {elts : List Expr} {kk : Nat} {tpos : Pos} (x : Str) (t : Tok) (e it : Addr) :
    Turn P w K (.Tuple elts kk tpos) (IteS x) [e, it] e (fun i h => (∃ old, IsEnum h e it ((i : Nat) : Int) old) ∧ h.IsStrIter it (strIterType x) x t i ∧ e ≠ it) where
  mem := by simp
  obj := fun i h st b hb => by
    obtain ⟨⟨old, he⟩, ⟨o, ho, hc, hd⟩, _⟩ := st
    have e' : b = e ∨ b = it := by simpa using hb
    rcases e' with z | z
    · rw [z]; exact ⟨_, he, fun v q => nomatch q⟩
    · rw [z]; exact ⟨o, ho, fun v q => by rw [hd] at q; cases q⟩
  keep := fun i h h' st k => by
    obtain ⟨⟨old, he⟩, ⟨o, ho, r⟩, hne⟩ := st
    exact ⟨⟨old, k e (by simp) _ he⟩, ⟨o, k it (by simp) o ho, r⟩, hne⟩
  item := by
    intro X hP hw hK hc i pins s σ H E I hf st hg
    subst hP hw hK
    obtain ⟨⟨old, he⟩, hit, hne⟩ := st
    have hel : e < s.heap.objs.size := Heap.lt_size he
    have hil : it < s.heap.objs.size := by obtain ⟨_, q, _⟩ := hit; exact Heap.lt_size q
    have D := Draws.text (prog := X.prog) (w := X.w) (A := X.A.in1) (show X.A.in1.handled = none from I.ok.hd hc) it x t
    refine wpAny_pyNext_enum_itemD D he hit hg hne (by simpa using hne) fun u h' tk hx ho hit' hT hsz hk => ?_
    obtain ⟨c, t2, hcx, rfl⟩ := hx
    refine ⟨_, rfl, wpAny_letOwnedTupleGo_enum (s := { s with heap := h', toks := tk + 1 }) ho fun h'' he' sb => ?_⟩
    have hT2 : h''.get? s.heap.objs.size = some { cls := .type "tuple", data := .seq #[.int i tk, .str ⟨#[c]⟩ t2] } := (sb.2 _ (Nat.ne_of_gt hel)).trans hT
    have new : ObjOk X.prog X.w (upd H s.heap.objs.size (.tup [.int (i : Nat), .str ⟨#[c]⟩])) h'' s.heap.objs.size (.tup [.int (i : Nat), .str ⟨#[c]⟩]) :=
      ⟨by show 2 ≤ sizeLine; decide, [.int i tk, .str ⟨#[c]⟩ t2], .cons ⟨_, rfl⟩ (.cons ⟨_, rfl⟩ .nil), ⟨_, hT2, rfl, _, rfl⟩⟩
    have I1 : Inv X pins σ (upd H s.heap.objs.size (.tup [.int (i : Nat), .str ⟨#[c]⟩])) { s with heap := h'', toks := tk + 1 } :=
      I.turnedNew (ch := [e, it]) (fun b ob hb q => (sb.2 b (fun z => hb (by simp [z]))).trans (hk b ob (fun z => hb (by simp [z])) (fun z => hb (by simp [z])) q)) hf (Nat.le_refl _) new
    refine ⟨.ref s.heap.objs.size, _, I1, rfl, ⟨_, c, rfl, I.hok.fresh (Nat.le_refl _), rfl, hcx⟩, ⟨⟨.str ⟨#[c]⟩ t2, ?_⟩, ?_, hne⟩, fun b hb => ?_⟩
    · have e1 : ((i + 1 : Nat) : Int) = (i : Int) + 1 := by omega
      rw [e1]; exact he'
    · obtain ⟨o, q1, q2⟩ := hit'
      exact ⟨o, (sb.2 it (Ne.symm hne)).trans q1, q2⟩
    · have hb' : b < s.heap.objs.size := by
        have e' : b = e ∨ b = it := by simpa using hb
        rcases e' with z | z
        · rw [z]; exact hel
        · rw [z]; exact hil
      rw [upd_ne (Nat.ne_of_lt hb')]
      exact (hf b hb).1
  done := by
    intro X hP hw hK hc i pins s σ H E I hf st hg
    subst hP hw hK
    obtain ⟨⟨old, he⟩, hit, hne⟩ := st
    obtain ⟨f0, f1, f2, f3, f4, f5⟩ := hf it (by simp)
    have D := Draws.text (prog := X.prog) (w := X.w) (A := X.A.in1) (show X.A.in1.handled = none from I.ok.hd hc) it x t
    obtain rfl : i = x.cps.size := hg
    exact wpAny_pyNext_enum_endD D he hit fun h' eb => ⟨rfl, I.turned (t' := s.toks) (fun b o hb q => eb b o hb q) f0 f1 f3 f4 f5⟩
  self := fun A i s Q E st h => let ⟨⟨_, he⟩, _⟩ := st; wpAny_pyIter_enum he h
def iEnumS (ta : TA) : TI := fun σ H R => ta σ H fun vs H1 => ∃ x, vs = [.str x] ∧ R (IteS x) H1
theorem pi_enumS {e : Expr} {ta : TA} {p pos tpos : Pos} {elts : List Expr} {kk : Nat} (hg : Gl X "enumerate") (hm : X.mg "enumerate" = none) (ha : PA X [e] ta) (hs : starEach [e] X.env = [(false, eval e X.env)] := by rfl) :
    PI X (.Tuple elts kk tpos) (.Call (.Name "enumerate" p) [e] [] pos) (iEnumS ta) := by
  refine ⟨fun pins s σ H R I h => ?_⟩
  refine Call_ (ld_blt I hg hm boot_enumerate (PyProof.Rows.callWith_type1 (thn (ha.run pos pins s σ H _ I h) fun us s1 ⟨vs, H1, I1, r1, q1⟩ => ?_) hs rfl))
  obtain ⟨x, rfl, q⟩ := q1
  obtain ⟨u, rfl, t, rfl⟩ := Vals.one r1
  refine call_enumerate_str fun h' he hit hsz hk => wpAny_pyIter_enum he ?_
  have I2 : Inv X pins σ H1 { s1 with heap := h' } := I1.kept (t' := s1.toks) hk
  refine ⟨s1.heap.objs.size + 1, [s1.heap.objs.size + 1, s1.heap.objs.size], _, _, H1, rfl, I2, turn_enumS x t (s1.heap.objs.size + 1) s1.heap.objs.size, ⟨⟨.none, he⟩, hit, Nat.succ_ne_self _⟩, fun b hb => ?_, q⟩
  have e' : b = s1.heap.objs.size + 1 ∨ b = s1.heap.objs.size := by simpa using hb
  have hle : s1.heap.objs.size ≤ b := by
    rcases e' with z | z
    · rw [z]; exact Nat.le_add_right _ _
    · rw [z]; exact Nat.le_refl _
  exact I1.fpOk hle (I1.hok.fresh hle)
end
end KX

set_option Elab.async false
set_option linter.all false
set_option maxRecDepth 100000
set_option maxHeartbeats 4000000
/-! the end of a law row where the law's own frame asks repr: the caller's guards are known to be none -/
namespace KX
open PySem PySem.Spec PyProof.Rows L2
section
variable {P : Program} {w : World} {K : PySem.W.Frag} {mg : Str → Option Value} {base : Heap}
/-- a def's body run at ONE caller -/
theorem run_at {x qual : Str} {st : Stmt} {f : Addr} {fd : FuncData} {N ps : List Str} {k : Nat} (F : Fun K x qual st f fd) (S : FnScope N ps (defScope st)) {A : Around} {outer : List Env} {s : Shared} {H : Hp} {us : List Value} {vs : List V} {Q : VK} {E : XK}
    (hr : Room (k + 1) A) (e0 : Env0 P w K mg base A outer s H) (hb : BindsTo s fd ⟨us, []⟩ (ps.zip us)) (r : Vals vs us) (hl : vs.length = ps.length)
    (body : ∀ cdv : Value, Room k (A.deeper (envOfC qual (defScope st) s.heap.objs.size f cdv)) → ∃ t, PSs (cxOf CX0 P w K mg base N qual (defScope st) f cdv A outer s H E).nox (defBody st) t ∧ t { nx := fun _ H' => Q .non H', rt := Q } (start N vs) H) :
    codeAny (model P w) A (.call (.ref f) ⟨us, []⟩) (CR CX0 outer P w H s Q E) s := by
  obtain ⟨oc, od, kV, doc, pm, an, cdv, ct, osl, rfl, lk, hcd⟩ := F.ex
  have Z : K.In s.heap := e0.mod.kin.keeps fun b o e => (e0.bs b o e).1
  have lim : s.heap.NoLimit := e0.mod.nolimit.keeps fun b o e => (e0.bs b o e).1
  refine codeAny_call_function hr.depth (Z _ _ lk) rfl S.co S.gen rfl (PySem.W.codeRec_of Z hcd) (hb _ _ _ _ ?_)
  refine wpAny_newFunctionEnv_cells S.kind (fun y hy => ?_) fun env he s1 ic => ?_
  · rcases S.par y.1 (List.of_mem_zip (show (y.1, y.2) ∈ ps.zip us from hy)).1 with q | q
    · exact .inl q
    · exact .inr ⟨q, PySem.W.cellsFrom_some _ _ _ (.inl q)⟩
  subst he
  refine ⟨lim.keeps ic.toInCall.keep, codeAny_func ?_⟩
  obtain ⟨t, ht, hq⟩ := body cdv (hr.deeper _)
  have I : Inv (cxOf CX0 P w K mg base N qual (defScope st) f cdv A outer s H E) [] (start N vs) H s1 := inv_start S hr.hd e0 hl r ic
  refine wpAny_mono (ht.nox.run [] s1 (start N vs) H _ I hq) (fun fl s' hs => ?_) fun e s' hs => hs
  cases fl with
  | ret u => exact let ⟨v, _, H', J, rv, q⟩ := hs; ⟨v, H', J.os, J.bare, J.base, J.hok, rv, q⟩
  | next => exact let ⟨_, H', J, q⟩ := hs; ⟨V.non, H', J.os, J.bare, J.base, J.hok, rfl, q⟩
  | brk => exact let ⟨_, _, _, q⟩ := hs; False.elim q
  | cont => exact let ⟨_, _, _, q⟩ := hs; False.elim q
/-- the promise of the law's call at its one caller, over each ground -/
def AtCaller (P : Program) (w : World) (K : PySem.W.Frag) (mg : Str → Option Value) (fa a : Addr) (ns : List Int) (s₁ : Shared) : Prop :=
  ∀ (base : Heap) (H : Hp), K.In base → base.Ns mainGlobals mg → Env0 P w K mg base callerA [] s₁ H → SqL K H a (ns.map V.int) →
    codeAny (model P w) callerA (.call (.ref fa) ⟨[.ref a], []⟩) (CR CX0 [] P w H s₁ (fun v _ => v = .bl true) E0) s₁
theorem law_at {mb : Str → Option Value} {fa a : Addr} {s₁ : Shared} {vs : List Value} {ns : List Int}
    (Z : K.In s₁.heap) (hns : s₁.heap.Ns mainGlobals mg) (hb : s₁.heap.Ns builtinsNs mb) (hbb : ∀ x : Str, x ≠ "__name__" → mb x = bootBuiltins x) (hlim : s₁.heap.NoLimit) (hg : s₁.gens = #[])
    (ha : s₁.heap.get? a = some { cls := .type "list", data := .seq vs.toArray }) (hi : IntsAre vs ns) (hl : ns.length ≤ sizeLine) (F : AtCaller P w K mg fa a ns s₁) :
    codeAny (model P w) callerA (.call (.ref fa) ⟨[.ref a], []⟩) (fun r s' => r = .ok (.ret (.bool true)) ∧ OldK s₁.heap s'.heap ∧ s'.os = s₁.os ∧ AllBare s'.gens) s₁ := by
  have rv := vals_ints hi
  obtain ⟨H, h1, h2, h3, h4⟩ : ∃ H : Hp, (∀ b u, H b = some u → b = a ∧ u = .frz { cls := .type "list", data := .seq vs.toArray } (.lst (ns.map V.int))) ∧ SqL K H a (ns.map V.int) ∧ HOk P w H s₁.heap ∧ (H a ≠ none → K.lookup a = none) := by
    have zl : (ns.map V.int).length ≤ sizeLine := by rw [List.length_map]; exact hl
    cases hk : K.lookup a with
    | some o =>
      have e := Z a o hk
      rw [ha] at e
      cases e
      exact ⟨fun _ => none, fun b u q => (nomatch q), .inr ⟨_, vs.toArray, _, hk, rfl, rfl, rfl, by rw [List.size_toArray, hi.length]; exact hl, by simpa using rv⟩, fun b u q => (nomatch q), fun q => absurd rfl q⟩
    | none =>
      refine ⟨fun b => if b = a then some (.frz { cls := .type "list", data := .seq vs.toArray } (.lst (ns.map V.int))) else none, fun b u q => ?_, .inl (.inr ⟨_, if_pos rfl⟩), fun b u q => ?_, fun _ => rfl⟩
      · by_cases e : b = a
        · exact ⟨e, (Option.some.inj ((if_pos e).symm.trans q)).symm⟩
        · exact nomatch (if_neg e).symm.trans q
      · by_cases e : b = a
        · cases (if_pos e).symm.trans q
          rw [e]
          exact ⟨ha, zl, vs, _, rv, ha⟩
        · exact nomatch (if_neg e).symm.trans q
  have free : ∀ {b : Addr}, b ≠ a → H b = none := fun {b} hb => by
    cases q : H b with
    | none => rfl
    | some u => exact absurd (h1 b u q).1 hb
  have keep : ∀ {b : Addr} {o : Obj}, s₁.heap.get? b = some o → b ≠ a → (hidT s₁.heap H).get? b = some o := fun e hb => hidT_get e (free hb)
  have dk : ∀ {b : Addr} {m : Str → Option Value}, s₁.heap.Ns b m → (hidT s₁.heap H).Ns b m := fun {b m} ⟨o, es, ep, e, d, r⟩ => by
    refine ⟨o, es, ep, keep e fun z => ?_, d, r⟩
    rw [z, ha] at e
    cases e
    cases d
  have kB : K.In (hidT s₁.heap H) := fun b o e => by
    refine hidT_get (Z b o e) ?_
    cases q : H b with
    | none => rfl
    | some u =>
      have eb := (h1 b u q).1
      rw [eb] at q e
      rw [h4 (by rw [q]; simp)] at e
      cases e
  have hM : Mod K mg (hidT s₁.heap H) := ⟨kB, dk hns, ⟨mb, dk hb, hbb⟩, let ⟨mc, q1, q2⟩ := hlim; ⟨mc, dk q1, q2⟩⟩
  have e0 : Env0 P w K mg (hidT s₁.heap H) callerA [] s₁ H := ⟨rfl, hM, fun b o e => of_hidT e, Nat.le_of_eq (hidT_size _ _), trivial, fun b hb => absurd (show b ∈ ([] : List Addr) from hb) (by simp), h3, .of_eq hg⟩
  refine codeAny_mono (F _ H kB (dk hns) e0 h2) fun r s' h => ?_
  match r, h with
  | .ok (.ret u), h =>
    obtain ⟨v, H', os, bare, un, hok', r', q⟩ := h
    subst q
    obtain rfl : u = Value.bool true := r'
    refine ⟨rfl, OldK.of_keep fun b o e => ?_, os, bare⟩
    cases q : H b with
    | none => exact un.keep b o e q (by intro z; exact absurd (show b ∈ ([] : List Addr) from z) (by simp)) (by simp)
    | some u =>
      obtain ⟨eb, eu⟩ := h1 b u q
      rw [eu] at q
      obtain ⟨e2, _⟩ := hok' b _ (un.frzs b _ _ q)
      rw [eb, ha] at e
      cases e
      exact e2
/-- the goal that k_head leaves (case hc) -/
theorem walk_at {l : PySem.W.OpenLaw} {n : Nat} {q : Program} {loose : List Str} {XP : (Str → Option Value) → Heap → Prop} {YP : World → Heap → Prop} {d : DefRec} {K : Params → PySem.W.Frag}
    (hn : l.most = some n) (hn2 : n ≤ sizeLine) (hdf : d.params.defaults = []) (hY : ∀ (w : World) (h : Heap), YP w h → (K w.params).In h)
    (F : ∀ (w : World) (mg : Str → Option Value) (fa a : Addr) (ns : List Int) (s₁ : Shared), (K w.params).In s₁.heap → s₁.heap.Ns mainGlobals mg → mg d.name = some (.ref fa) → ns.length ≤ n → (∀ z ∈ ns, Builtin.Int.intBits z ≤ 1048576) → AtCaller l.prog w (K w.params) mg fa a ns s₁) :
    PySem.W.WalkO q loose XP YP l.row.toRowW d [] (fun f vs => PySem.call f vs) := by
  refine Att.attach_callB hn hdf fun w s₀ s₁ mg mb fa o pm cd doc a vs ns G Y ho hd hcd hmg hobj hints hlen hbits hg => ?_
  exact law_at (hY w _ Y) G.T.g G.T.b G.T.builtins G.T.nolimit hg hobj hints (Nat.le_trans hlen hn2) (F w mg fa a ns s₁ (hY w _ Y) G.T.g hmg hlen hbits)
end
end KX

set_option Elab.async false
set_option linter.all false
set_option maxRecDepth 100000
set_option maxHeartbeats 4000000
/-! evaluating what a reading asks, over data -/
namespace KX
open PySem PySem.Spec PyProof.Rows L2 Evl
section
variable {K : PySem.W.Frag} {H H' : Hp}
mutual
theorem dp_mono (e : Ex H H') : ∀ {v : V} {d : PyData}, Dp K H v d → Dp K H' v d
  | _, _, .non => .non
  | _, _, .bl b => .bl b
  | _, _, .int i => .int i
  | _, _, .str x => .str x
  | _, _, .lst h a => .lst (ex_l e h) (dpa_mono e a)
  | _, _, .tup h a => .tup (ex_t e h) (dpa_mono e a)
theorem dpa_mono (e : Ex H H') : ∀ {vs : List V} {ds : List PyData}, DpAll K H vs ds → DpAll K H' vs ds
  | _, _, .nil => .nil
  | _, _, .cons a b => .cons (dp_mono e a) (dpa_mono e b)
end
theorem dpa_len : ∀ {vs : List V} {ds : List PyData}, DpAll K H vs ds → vs.length = ds.length
  | _, _, .nil => rfl
  | _, _, .cons _ b => congrArg (· + 1) (dpa_len b)
theorem dpa_get : ∀ {vs : List V} {ds : List PyData} {i : Nat} {d : PyData}, DpAll K H vs ds → ds[i]? = some d → ∃ v, vs[i]? = some v ∧ Dp K H v d
  | _, _, _, _, .nil, h => by simp at h
  | _, _, 0, d, .cons a b, h => by simp at h; subst h; exact ⟨_, rfl, a⟩
  | _, _, i + 1, d, .cons a b, h => by
    obtain ⟨v, q1, q2⟩ := dpa_get (i := i) b (by simpa using h)
    exact ⟨v, by simpa using q1, q2⟩
theorem dpa_app : ∀ {vs ws : List V} {ds es : List PyData}, DpAll K H vs ds → DpAll K H ws es → DpAll K H (vs ++ ws) (ds ++ es)
  | _, _, _, _, .nil, h => h
  | _, _, _, _, .cons a b, h => .cons a (dpa_app b h)
theorem dpa_one {v : V} {d : PyData} (h : Dp K H v d) : DpAll K H [v] [d] := .cons h .nil
/-- the type's name -/
def tyOf : PyData → String
  | .none => "NoneType" | .bool _ => "bool" | .int _ => "int" | .str _ => "str" | .list _ => "list" | .tuple _ => "tuple" | .dict _ => "dict"
theorem tyx_of {v : V} {d : PyData} (h : Dp K H v d) : TyX K H v (.type (tyOf d)) := by
  cases h with
  | non => exact .base .non
  | bl b => exact .base (.bl b)
  | int i => exact .base (.int i)
  | str x => exact .base (.str x)
  | lst hs _ =>
    rcases hs with (h | ⟨o, h⟩) | ⟨o, vs, n, h, hc, _⟩
    · exact .base (.lst h)
    · exact .base (.frz h)
    · exact .kList h hc
  | tup hs _ =>
    rcases hs with (h | ⟨o, h⟩) | ⟨o, vs, n, h, hc, _⟩
    · exact .base (.tup h)
    · exact .fTuple h
    · exact .kTuple h hc
variable {σ : L2.St} {ta tb tc : TE} {x y z v : V} {d : PyData}
/-- isinstance(x, T) -/
theorem ev_isi {n : String} {b : Bool} (ha : Ev ta σ H v) (hd : Dp K H v d) (hk : kitB (tyOf d) n = some b) : Ev (tCB (rIsi K) (tCons ta (tCons (tC (.ty n)) tNil))) σ H (.bl b) := fun H1 e Q q =>
  ha H1 e _ fun H2 e2 => ⟨v, .ty n, _, _, b, rfl, .ty n, tyx_of (dp_mono (e.trans e2) hd), kit_ty hk, q H2 e2⟩
theorem ev_chain {r r' : R2} {k k' : Bool} (ha : Ev ta σ H x) (hb : Ev tb σ H y) (hc : Ev tc σ H z) (hr : RV r x y H (.bl k)) (hr' : RV r' y z H (.bl k')) : Ev (tChain r r' ta tb tc) σ H (.bl (k && k')) := fun H1 e Q q =>
  ha H1 e _ fun H2 e2 => hb H2 (e.trans e2) _ fun H3 e3 => hr H3 ((e.trans e2).trans e3) _ fun H4 e4 => ⟨k, rfl, by
    have e14 : Ex H1 H4 := (e2.trans e3).trans e4
    cases k with
    | false => exact iteF (q H4 e14)
    | true => exact iteT (hc H4 (e.trans e14) _ fun H5 e5 => hr' H5 ((e.trans e14).trans e5) _ fun H6 e6 => q H6 ((e14.trans e5).trans e6))⟩
/-- the second comparison is asked where the first one holds -/
theorem ev_chainT {r r' : R2} {k' : Bool} (ha : Ev ta σ H x) (hb : Ev tb σ H y) (hc : Ev tc σ H z) (hr : RV r x y H (.bl true)) (hr' : RV r' y z H (.bl k')) : Ev (tChain r r' ta tb tc) σ H (.bl k') := ev_chain (k := true) ha hb hc hr hr'
theorem rv_inS {c : Nat} {w : Str} : RV (fun x y H Q => ∃ (c : Nat) (z : Str), x = .str ⟨#[c]⟩ ∧ y = .str z ∧ Q (.bl (decide (c ∈ z.cps.toList))) H) (.str ⟨#[c]⟩) (.str w) H (.bl (decide (c ∈ w.cps.toList))) := fun H1 _ _ q => ⟨c, w, rfl, rfl, q H1 (Ex.refl H1)⟩
theorem rv_niS {c : Nat} {w : Str} : RV (fun x y H Q => ∃ (c : Nat) (z : Str), x = .str ⟨#[c]⟩ ∧ y = .str z ∧ Q (.bl (!decide (c ∈ z.cps.toList))) H) (.str ⟨#[c]⟩) (.str w) H (.bl (!decide (c ∈ w.cps.toList))) := fun H1 _ _ q => ⟨c, w, rfl, rfl, q H1 (Ex.refl H1)⟩
/-- len of a text -/
theorem ev_lenS {w : Str} (ha : Ev ta σ H (.str w)) (hz : w.length ≤ sizeLine) : Ev (tCB (fun xs H Q => ∃ z : Str, xs = [.str z] ∧ z.length ≤ sizeLine ∧ Q (.int z.length) H) (tCons ta tNil)) σ H (.int (w.length : Int)) := fun H1 e Q q =>
  ha H1 e _ fun H2 e2 => ⟨w, rfl, hz, q H2 e2⟩
end
/-! ### the types of data -/
def is_int : PyData → Bool | .int _ => true | .bool _ => true | _ => false
def is_bool : PyData → Bool | .bool _ => true | _ => false
def is_str : PyData → Bool | .str _ => true | _ => false
def is_tuple : PyData → Bool | .tuple _ => true | _ => false
def is_list : PyData → Bool | .list _ => true | _ => false
theorem kit_int : ∀ d : PyData, kitB (tyOf d) "int" = some (is_int d)
  | .none => (by decide +kernel : kitB "NoneType" "int" = some false)
  | .bool _ => (by decide +kernel : kitB "bool" "int" = some true)
  | .int _ => (by decide +kernel : kitB "int" "int" = some true)
  | .str _ => (by decide +kernel : kitB "str" "int" = some false)
  | .list _ => (by decide +kernel : kitB "list" "int" = some false)
  | .tuple _ => (by decide +kernel : kitB "tuple" "int" = some false)
  | .dict _ => (by decide +kernel : kitB "dict" "int" = some false)
theorem kit_bool : ∀ d : PyData, kitB (tyOf d) "bool" = some (is_bool d)
  | .none => (by decide +kernel : kitB "NoneType" "bool" = some false)
  | .bool _ => (by decide +kernel : kitB "bool" "bool" = some true)
  | .int _ => (by decide +kernel : kitB "int" "bool" = some false)
  | .str _ => (by decide +kernel : kitB "str" "bool" = some false)
  | .list _ => (by decide +kernel : kitB "list" "bool" = some false)
  | .tuple _ => (by decide +kernel : kitB "tuple" "bool" = some false)
  | .dict _ => (by decide +kernel : kitB "dict" "bool" = some false)
theorem kit_str : ∀ d : PyData, kitB (tyOf d) "str" = some (is_str d)
  | .none => (by decide +kernel : kitB "NoneType" "str" = some false)
  | .bool _ => (by decide +kernel : kitB "bool" "str" = some false)
  | .int _ => (by decide +kernel : kitB "int" "str" = some false)
  | .str _ => (by decide +kernel : kitB "str" "str" = some true)
  | .list _ => (by decide +kernel : kitB "list" "str" = some false)
  | .tuple _ => (by decide +kernel : kitB "tuple" "str" = some false)
  | .dict _ => (by decide +kernel : kitB "dict" "str" = some false)
theorem kit_tuple : ∀ d : PyData, kitB (tyOf d) "tuple" = some (is_tuple d)
  | .none => (by decide +kernel : kitB "NoneType" "tuple" = some false)
  | .bool _ => (by decide +kernel : kitB "bool" "tuple" = some false)
  | .int _ => (by decide +kernel : kitB "int" "tuple" = some false)
  | .str _ => (by decide +kernel : kitB "str" "tuple" = some false)
  | .list _ => (by decide +kernel : kitB "list" "tuple" = some false)
  | .tuple _ => (by decide +kernel : kitB "tuple" "tuple" = some true)
  | .dict _ => (by decide +kernel : kitB "dict" "tuple" = some false)
theorem kit_list : ∀ d : PyData, kitB (tyOf d) "list" = some (is_list d)
  | .none => (by decide +kernel : kitB "NoneType" "list" = some false)
  | .bool _ => (by decide +kernel : kitB "bool" "list" = some false)
  | .int _ => (by decide +kernel : kitB "int" "list" = some false)
  | .str _ => (by decide +kernel : kitB "str" "list" = some false)
  | .list _ => (by decide +kernel : kitB "list" "list" = some true)
  | .tuple _ => (by decide +kernel : kitB "tuple" "list" = some false)
  | .dict _ => (by decide +kernel : kitB "dict" "list" = some false)

/-! ### signs -/
def small (c : Nat) : Bool := decide (97 ≤ c) && decide (c ≤ 122)
def digit (c : Nat) : Bool := decide (48 ≤ c) && decide (c ≤ 57)
theorem in_letters (c : Nat) : decide (c ∈ (Str.ofString "abcdefghijklmnopqrstuvwxyz").cps.toList) = small c := by
  have e : (Str.ofString "abcdefghijklmnopqrstuvwxyz").cps.toList = [97,98,99,100,101,102,103,104,105,106,107,108,109,110,111,112,113,114,115,116,117,118,119,120,121,122] := by decide +kernel
  rw [e, Bool.eq_iff_iff]
  simp only [small, decide_eq_true_eq, Bool.and_eq_true, List.mem_cons, List.not_mem_nil, or_false]
  omega
theorem in_digits (c : Nat) : decide (c ∈ (Str.ofString "0123456789").cps.toList) = digit c := by
  have e : (Str.ofString "0123456789").cps.toList = [48,49,50,51,52,53,54,55,56,57] := by decide +kernel
  rw [e, Bool.eq_iff_iff]
  simp only [digit, decide_eq_true_eq, Bool.and_eq_true, List.mem_cons, List.not_mem_nil, or_false]
  omega
/-! ### promises -/
/-- what a def answers that changes nothing that was tracked, of one datum -/
def spD (K : PySem.W.Frag) (Pre : PyData → Prop) (f : PyData → V) : Sp := fun vs H Q _ => ∃ v d, vs = [v] ∧ Dp K H v d ∧ Pre d ∧ ∀ H', Ex H H' → Q (f d) H'
theorem spD_v {K : PySem.W.Frag} {Pre : PyData → Prop} {f : PyData → V} {H : Hp} {v : V} {d : PyData} (h : Dp K H v d) (p : Pre d) : SpV (spD K Pre f) [v] H (f d) := fun H1 e Q q E => ⟨v, d, rfl, dp_mono e h, p, q⟩
/-! ### comprehensions without a test whose elements are values -/
section
variable {K : PySem.W.Frag} {H : Hp} {σ : L2.St} {te tl : TE} {j : Nat} {vs : List Nat}
theorem lcE {J : It} {n : Nat} {G : Hp → Prop} {Y : Nat → Hp → V → Hp → Prop} {H0 : Hp} {Q : VK} (wk : Walk J n G Y) (hG : ∀ H', Ex H0 H' → G H') (it f : Nat → V) (hY : ∀ i Ha x Hb, i < n → Y i Ha x Hb → Hb = Ha ∧ x = it i) (hn : n ≤ sizeLine)
    (hw : ∀ x, wipe ((wipe σ vs).set j (some x)) vs = wipe σ vs) (he : ∀ i H1, Ex H0 H1 → i < n → Ev te ((wipe σ vs).set j (some (it i))) H1 (f i))
    (q : ∀ D H2, H0 D = none → Ex H0 H2 → H2 D = some (.lst ((List.range n).map f)) → Q (.ref D) H2) : ∀ D, H0 D = none → ∃ W : Nat → Nat → Hp → Prop, (∃ m, W 0 m (upd H0 D (.lst []))) ∧ ∀ i m H, W i m H →
      (J.stop i H ∧ Q (.ref D) H) ∨ (J.go i H ∧ ∃ Nx : Hp → Prop, (∀ H', Nx H' → ∃ m', m' < m ∧ W (i + 1) m' H') ∧ ∀ x H', J.yld i H x H' → (gName j) x (wipe σ vs) H' fun σ2 H2 => wipe σ2 vs = wipe σ vs ∧ tYes σ2 H2 fun b H3 =>
        if b = true then te σ2 H3 fun y H4 => ∃ acc, H4 D = some (.lst acc) ∧ acc.length < sizeLine ∧ Nx (upd H4 D (.lst (acc ++ [y]))) else Nx H3) := fun D hD =>
  lc_it wk (fun i H' => Ex H0 H' ∧ H' D = some (.lst ((List.range i).map f))) ⟨Ex.new hD, upd_same⟩ (fun i H' _ p => hG H' p.1) (fun i x Ha Hb hi p y => by
    obtain ⟨rfl, rfl⟩ := hY i Ha x Hb hi y
    refine ⟨hw _, (he i Hb p.1 hi Hb (Ex.refl _) _ fun H4 e4 => ⟨_, e4 D _ p.2, by rw [List.length_map, List.length_range]; omega, Ex.mut (p.1.trans e4) hD, ?_⟩)⟩
    rw [List.range_succ, List.map_append]
    exact upd_same) fun H' p => q D H' hD p.1 p.2
theorem range_map {α β : Type} [Inhabited α] (f : α → β) : ∀ (l : List α) {d : α}, (List.range l.length).map (fun i => f (l.getD i d)) = l.map f := by
  intro l d
  apply List.ext_getElem
  · rw [List.length_map, List.length_map, List.length_range]
  · intro i h1 h2
    have h3 : i < l.length := by rw [List.length_map] at h2; exact h2
    rw [List.getElem_map, List.getElem_map, List.getElem_range, List.getD_eq_getElem?_getD, List.getElem?_eq_getElem h3]
    rfl
/-- over a text -/
theorem el_lcS {z : Str} (f : Nat → V) (h : Ev tl σ H (.str z)) (hz : z.length ≤ sizeLine) (hw : ∀ x, wipe ((wipe σ vs).set j (some x)) vs = wipe σ vs)
    (he : ∀ (c : Nat) H1, Ex H H1 → c ∈ z.cps.toList → Ev te ((wipe σ vs).set j (some (.str ⟨#[c]⟩))) H1 (f c)) : EvL (tLc (iStr tl) (gName j) tYes te vs) σ H (z.cps.toList.map f) := fun H1 e1 Q q => h H1 e1 _ fun H2 e2 => ⟨z, rfl, by
  have el : (List.range z.cps.size).map (fun i => f (z.cps.toList.getD i 0)) = z.cps.toList.map f := by
    have e0 : z.cps.size = z.cps.toList.length := Array.length_toList.symm
    rw [e0]
    exact range_map f z.cps.toList
  refine lcE (H0 := H2) walk_str (fun _ _ => trivial) (fun i => .str ⟨#[z.cps.toList.getD i 0]⟩) (fun i => f (z.cps.toList.getD i 0)) (fun i Ha x Hb hi y => ?_) hz hw (fun i H3 e3 hi => ?_) (fun D H3 hD e3 h3 => q D H3 (fresh_back e2 hD) (e2.trans e3) (by rw [← el]; exact h3))
  · obtain ⟨e, c, hc, rfl⟩ := y
    refine ⟨e, ?_⟩
    have hc' : z.cps.toList[i]? = some c := by rw [Array.getElem?_toList]; exact hc
    show V.str ⟨#[c]⟩ = V.str ⟨#[z.cps.toList.getD i 0]⟩
    rw [List.getD_eq_getElem?_getD, hc']
    rfl
  · refine he _ H3 ((e1.trans e2).trans e3) ?_
    have hi' : i < z.cps.toList.length := by simpa using hi
    rw [List.getD_eq_getElem?_getD, List.getElem?_eq_getElem hi']
    exact List.getElem_mem hi'⟩
/-- over a tuple -/
theorem el_lcT {a : Addr} {xs : List V} (f : Nat → V) (h : Ev tl σ H (.ref a)) (hx : SqT K H a xs) (hz : xs.length ≤ sizeLine) (hw : ∀ x, wipe ((wipe σ vs).set j (some x)) vs = wipe σ vs)
    (he : ∀ (i : Nat) (x : V) H1, Ex H H1 → xs[i]? = some x → Ev te ((wipe σ vs).set j (some x)) H1 (f i)) : EvL (tLc (iTup K tl) (gName j) tYes te vs) σ H ((List.range xs.length).map f) := fun H1 e1 Q q => h H1 e1 _ fun H2 e2 => ⟨a, rfl, ⟨xs, ex_t (e1.trans e2) hx⟩, by
  refine lcE (H0 := H2) (walk_tup (xs := xs)) (fun _ e3 => ex_t ((e1.trans e2).trans e3) hx) (fun i => xs.getD i .non) f (fun i Ha x Hb hi y => ?_) hz hw (fun i H3 e3 hi => ?_) (fun D H3 hD e3 h3 => q D H3 (fresh_back e2 hD) (e2.trans e3) h3)
  · refine ⟨y.1, ?_⟩
    rw [List.getD_eq_getElem?_getD, y.2]
    rfl
  · refine he i _ H3 ((e1.trans e2).trans e3) ?_
    rw [List.getD_eq_getElem?_getD, List.getElem?_eq_getElem hi]
    rfl⟩
/-- all, any of a new list of truths -/
theorem ev_allN {ta : TE} {bs : List Bool} (h : EvL ta σ H (bs.map V.bl)) : Ev (tCB (rAll K) (tCons ta tNil)) σ H (.bl (bs.all id)) := fun H1 e1 Q q => h H1 e1 _ fun p H2 _ e2 h2 => ⟨p, bs, rfl, sq_of h2, q H2 e2⟩
theorem ev_anyN {ta : TE} {bs : List Bool} (h : EvL ta σ H (bs.map V.bl)) : Ev (tCB (rAny K) (tCons ta tNil)) σ H (.bl (bs.any id)) := fun H1 e1 Q q => h H1 e1 _ fun p H2 _ e2 h2 => ⟨p, bs, rfl, sq_of h2, q H2 e2⟩
end
theorem str_of : ∀ {d : PyData}, is_str d = true → ∃ x, d = .str x
  | .str x, _ => ⟨x, rfl⟩
theorem tuple_of : ∀ {d : PyData}, is_tuple d = true → ∃ x, d = .tuple x
  | .tuple x, _ => ⟨x, rfl⟩
theorem ixS_nat {H : Hp} {z : Str} {i : Nat} {c : Nat} (hz : z.length ≤ sizeLine) (h : z.cps.toList[i]? = some c) : RV rIxS (.str z) (.int (i : Int)) H (.str ⟨#[c]⟩) := fun H1 _ Q q => ⟨z, _, c, rfl, rfl, hz, atI_nat h, q H1 (Ex.refl H1)⟩
theorem len_cps (z : Str) : z.length = z.cps.toList.length := Array.length_toList.symm
theorem rv_bl {r : R2} {x y : V} {H : Hp} {b c : Bool} (h : RV r x y H (.bl b)) (e : b = c) : RV r x y H (.bl c) := by
  rw [← e]
  exact h
theorem rv_leT {i j : Int} {H : Hp} {b : Bool} (e : decide (i ≤ j) = b) : RV (rI0 fun i j => .bl (decide (i ≤ j))) (.int i) (.int j) H (.bl b) := rv_bl rv_I0 e
theorem rv_ltT {i j : Int} {H : Hp} {b : Bool} (e : decide (i < j) = b) : RV (rI0 fun i j => .bl (decide (i < j))) (.int i) (.int j) H (.bl b) := rv_bl rv_I0 e
theorem et_tru {K : PySem.W.Frag} {σ : L2.St} {H : Hp} {ta : TE} {x : V} {k : Bool} (ha : Ev ta σ H x) (ht : ∀ H1, Ex H H1 → TruV K x H1 k) : EvT (fun σ H Q => ta σ H fun x H' => ∃ k, TruV K x H' k ∧ Q k H') σ H k := fun H1 e Q q => ha H1 e _ fun H2 e2 => ⟨k, ht H2 (e.trans e2), q H2 e2⟩
/-- of one datum: an answer, or the error of the class at C -/
def spR (K : PySem.W.Frag) (C : Addr) (Pre : PyData → Prop) (f : PyData → Option V) : Sp := fun vs H Q E => ∃ v d, vs = [v] ∧ Dp K H v d ∧ Pre d ∧ (∀ r, f d = some r → ∀ H', Ex H H' → Q r H') ∧ (f d = none → ∀ H', Ex H H' → E (.ref C) none H')
/-! ### texts as lists of signs -/
def S (l : List Nat) : Str := ⟨l.toArray⟩
theorem S_cps (l : List Nat) : (S l).cps.toList = l := rfl
theorem S_len (l : List Nat) : (S l).length = l.length := List.size_toArray
theorem S_of (z : Str) : S z.cps.toList = z := by cases z; rfl
theorem S_inj {a b : List Nat} (h : S a = S b) : a = b := by
  have e := congrArg (fun z : Str => z.cps.toList) h
  exact e
theorem S_app (a b : List Nat) : S a ++ S b = S (a ++ b) := by
  show Str.mk (a.toArray ++ b.toArray) = Str.mk (a ++ b).toArray
  rw [List.append_toArray]
theorem cut_from (l : List Nat) (k : Nat) : cutS (S l) (some (k : Int)) none = S (l.drop k) := by
  unfold cutS
  rw [HT.sIx_nat, HT.sIx_none, S_cps, S_len]
  show S _ = S _
  congr 1
  rw [List.take_of_length_le (by rw [List.length_drop]; exact Nat.le_refl _)]
  by_cases h : k ≤ l.length
  · rw [Nat.min_eq_left h]
  · rw [Nat.min_eq_right (by omega), List.drop_of_length_le (Nat.le_refl _), List.drop_of_length_le (by omega)]
theorem cut_to (l : List Nat) (k : Nat) : cutS (S l) none (some (k : Int)) = S (l.take k) := by
  unfold cutS
  rw [HT.sIx_nat, HT.sIx_none, S_cps, S_len]
  show S _ = S _
  congr 1
  rw [List.drop_zero, Nat.sub_zero]
  by_cases h : k ≤ l.length
  · rw [Nat.min_eq_left h]
  · rw [Nat.min_eq_right (by omega), List.take_of_length_le (Nat.le_refl _), List.take_of_length_le (by omega)]
theorem cut_mid (l : List Nat) (a b : Nat) (h : b ≤ l.length) (ab : a ≤ b) : cutS (S l) (some (a : Int)) (some (b : Int)) = S ((l.drop a).take (b - a)) := by
  unfold cutS
  rw [HT.sIx_nat, HT.sIx_nat, S_cps, S_len, Nat.min_eq_left h, Nat.min_eq_left (by omega)]
  rfl
theorem ev_sl {σ : L2.St} {H : Hp} {te : TE} {tl th : TO} {z : Str} {lo hi : Option Int} (h : Ev te σ H (.str z)) (h1 : EvO tl σ H lo) (h2 : EvO th σ H hi) (hz : z.length ≤ sizeLine) : Ev (tSl rSlS te tl th) σ H (.str (cutS z lo hi)) := fun H1 e Q q =>
  h H1 e _ fun H2 e2 => h1 H2 (e.trans e2) _ fun H3 e3 => h2 H3 ((e.trans e2).trans e3) _ fun H4 e4 => ⟨z, rfl, hz, q H4 ((e2.trans e3).trans e4)⟩
theorem dec_S (a b : List Nat) : decide (V.str (S a) = V.str (S b)) = decide (a = b) := decide_eq_decide.mpr ⟨fun q => S_inj (V.str.inj q), fun q => by rw [q]⟩
theorem rv_eqS {H : Hp} {a b : List Nat} : RV rEq (.str (S a)) (.str (S b)) H (.bl (decide (a = b))) := rv_bl (rv_eq rfl) (dec_S a b)
theorem rv_neS {H : Hp} {a b : List Nat} : RV rNe (.str (S a)) (.str (S b)) H (.bl (!decide (a = b))) := rv_bl (rv_ne rfl) (by rw [dec_S])
theorem ev_lenL {K : PySem.W.Frag} {σ : L2.St} {H : Hp} {ta : TE} {l : List Nat} (ha : Ev ta σ H (.str (S l))) (hz : l.length ≤ sizeLine) : Ev (tCB (fun xs H Q => ∃ z : Str, xs = [.str z] ∧ z.length ≤ sizeLine ∧ Q (.int z.length) H) (tCons ta tNil)) σ H (.int (l.length : Int)) :=
  ev_is (ev_lenS ha (by rw [S_len]; exact hz)) (by rw [S_len])
/-- of one text: an answer, or the error of the class at C -/
def spS (C : Addr) (Pre : List Nat → Prop) (f : List Nat → Option V) : Sp := fun vs H Q E => ∃ l, vs = [.str (S l)] ∧ Pre l ∧ (∀ r, f l = some r → ∀ H', Ex H H' → Q r H') ∧ (f l = none → ∀ H', Ex H H' → E (.ref C) none H')
theorem walk_enumS {x : Str} : Walk (IteS x) x.cps.size (fun _ => True) (fun i H v H' => ∃ T c, v = .ref T ∧ H T = none ∧ H' = upd H T (.tup [.int (i : Nat), .str ⟨#[c]⟩]) ∧ x.cps[i]? = some c) :=
  ⟨fun _ _ hi _ => hi, fun _ _ => rfl, fun _ _ _ _ _ _ y => y⟩
theorem take_snoc {α : Type} : ∀ {l : List α} {i : Nat} {x : α}, l[i]? = some x → l.take (i + 1) = l.take i ++ [x]
  | [], i, x, h => by simp at h
  | a :: l, 0, x, h => by
    have e : a = x := Option.some.inj h
    subst e
    rfl
  | a :: l, i + 1, x, h => by
    show a :: l.take (i + 1) = a :: l.take i ++ [x]
    rw [take_snoc (l := l) (i := i) (x := x) h]
    rfl
theorem ex_at {H H' : Hp} {a : Addr} {o : HO} (e : Ex H H') (h : H a = some o) : H' a = some o := e a o h
end KX

set_option autoImplicit false
set_option Elab.async false
set_option linter.all false
set_option maxRecDepth 100000
set_option maxHeartbeats 4000000
/-! objects' fields; data without lists, which stay whatever lists are written -/
namespace KX
open PySem PySem.Spec PyProof.Rows L2 Evl
section
variable {K : PySem.W.Frag} {H H' : Hp} {σ : L2.St} {ta tv : TE} {a C dx : Addr} {fs : List (Str × V)} {f : Str} {v : V} {D : Ends} {tz : TS}
theorem ev_fld (ha : Ev ta σ H (.ref a)) (ho : H a = some (.ins C dx fs)) (hc : Cls K C) (hn : NoAttr K C f) (hl : fs.lookup f = some v) : Ev (tFld K ta f) σ H v := fun H1 e Q q =>
  ha H1 e _ fun H2 e2 => ⟨a, C, dx, fs, v, rfl, (e.trans e2) a _ ho, hc, hn, hl, q H2 e2⟩
theorem s_fld (hv : Ev tv σ H v) (ha : Ev ta σ H (.ref a)) (ho : H a = some (.ins C dx fs)) (hc : Cls K C) (hn : NoAttr K C f) (hl : fs.length < 1000) (k : ∀ H1, Ex H H1 → D.nx σ (upd H1 a (.ins C dx (putF f v fs)))) : sFld K ta tv f D σ H :=
  hv H (Ex.refl _) _ fun H1 e1 => ha H1 e1 _ fun H2 e2 => ⟨a, C, dx, fs, rfl, (e1.trans e2) a _ ho, hc, hn, hl, k H2 (e1.trans e2)⟩
theorem q_fld (hv : Ev tv σ H v) (ha : Ev ta σ H (.ref a)) (ho : H a = some (.ins C dx fs)) (hc : Cls K C) (hn : NoAttr K C f) (hl : fs.length < 1000) (k : ∀ H1, Ex H H1 → tz D σ (upd H1 a (.ins C dx (putF f v fs)))) : tSeq (sFld K ta tv f) tz D σ H :=
  s_fld (D := { D with nx := tz D }) hv ha ho hc hn hl k
/-- a new list into a field -/
theorem q_fldL {xs : List V} (hv : EvL tv σ H xs) (ha : Ev ta σ H (.ref a)) (ho : H a = some (.ins C dx fs)) (hc : Cls K C) (hn : NoAttr K C f) (hl : fs.length < 1000)
    (k : ∀ p H1, H p = none → Ex H H1 → H1 p = some (.lst xs) → tz D σ (upd H1 a (.ins C dx (putF f (.ref p) fs)))) : tSeq (sFld K ta tv f) tz D σ H :=
  hv H (Ex.refl _) _ fun p H1 hp e1 h1 => ha H1 e1 _ fun H2 e2 => ⟨a, C, dx, fs, rfl, (e1.trans e2) a _ ho, hc, hn, hl, k p H2 hp (e1.trans e2) (e2 p _ h1)⟩
theorem s_fldL {xs : List V} (hv : EvL tv σ H xs) (ha : Ev ta σ H (.ref a)) (ho : H a = some (.ins C dx fs)) (hc : Cls K C) (hn : NoAttr K C f) (hl : fs.length < 1000)
    (k : ∀ p H1, H p = none → Ex H H1 → H1 p = some (.lst xs) → D.nx σ (upd H1 a (.ins C dx (putF f (.ref p) fs)))) : sFld K ta tv f D σ H :=
  hv H (Ex.refl _) _ fun p H1 hp e1 h1 => ha H1 e1 _ fun H2 e2 => ⟨a, C, dx, fs, rfl, (e1.trans e2) a _ ho, hc, hn, hl, k p H2 hp (e1.trans e2) (e2 p _ h1)⟩
/-- len of a list or tuple -/
theorem ev_lenQ {xs : List V} (ha : Ev ta σ H (.ref a)) (h : SqL K H a xs) : Ev (tCB (fun xs H Q => ∃ p ys, xs = [.ref p] ∧ (SqL K H p ys ∨ SqT K H p ys) ∧ Q (.int ys.length) H) (tCons ta tNil)) σ H (.int (xs.length : Int)) := fun H1 e Q q =>
  ha H1 e _ fun H2 e2 => ⟨a, xs, rfl, .inl (ex_l (e.trans e2) h), q H2 e2⟩
theorem ev_lenT {xs : List V} (ha : Ev ta σ H (.ref a)) (h : SqT K H a xs) : Ev (tCB (fun xs H Q => ∃ p ys, xs = [.ref p] ∧ (SqL K H p ys ∨ SqT K H p ys) ∧ Q (.int ys.length) H) (tCons ta tNil)) σ H (.int (xs.length : Int)) := fun H1 e Q q =>
  ha H1 e _ fun H2 e2 => ⟨a, xs, rfl, .inr (ex_t (e.trans e2) h), q H2 e2⟩
/-- tuples stay -/
structure TupK (H H' : Hp) : Prop where
  tup : ∀ b xs, H b = some (.tup xs) → H' b = some (.tup xs)
  frz : ∀ b o u, H b = some (.frz o u) → H' b = some (.frz o u)
theorem TupK.of (e : Ex H H') : TupK H H' := ⟨fun b _ h => e b _ h, fun b _ _ h => e b _ h⟩
theorem TupK.refl (H : Hp) : TupK H H := ⟨fun _ _ h => h, fun _ _ _ h => h⟩
theorem TupK.trans {H1 : Hp} (p : TupK H H1) (q : TupK H1 H') : TupK H H' := ⟨fun b xs h => q.tup b xs (p.tup b xs h), fun b o u h => q.frz b o u (p.frz b o u h)⟩
/-- where a list or an instance stands, or nothing, something is written -/
theorem TupK.upd {o : HO} (hn : ∀ xs, H a ≠ some (.tup xs)) (hf : ∀ o u, H a ≠ some (.frz o u)) : TupK H (upd H a o) :=
  ⟨fun b xs h => by rw [upd_ne (fun z => by rw [z] at h; exact hn xs h)]; exact h, fun b o' u h => by rw [upd_ne (fun z => by rw [z] at h; exact hf o' u h)]; exact h⟩
theorem TupK.lst {xs : List V} {o : HO} (h : H a = some (.lst xs)) : TupK H (L2.upd H a o) := .upd (fun _ z => by rw [h] at z; cases z) (fun _ _ z => by rw [h] at z; cases z)
theorem TupK.ins {o : HO} (h : H a = some (.ins C dx fs)) : TupK H (L2.upd H a o) := .upd (fun _ z => by rw [h] at z; cases z) (fun _ _ z => by rw [h] at z; cases z)
theorem TupK.new {o : HO} (h : H a = none) : TupK H (L2.upd H a o) := .of (Ex.new h)
theorem TupK.sqt {xs : List V} (t : TupK H H') (h : SqT K H a xs) : SqT K H' a xs := by
  rcases h with (h | ⟨o, h⟩) | h
  · exact .inl (.inl (t.tup a xs h))
  · exact .inl (.inr ⟨o, t.frz a o _ h⟩)
  · exact .inr h
mutual
/-- no list within -/
def noList : PyData → Bool | .list _ => false | .tuple xs => noListA xs | .dict _ => false | _ => true
def noListA : List PyData → Bool | [] => true | x :: r => noList x && noListA r
end
theorem noListA_all : ∀ {xs : List PyData}, noListA xs = true ↔ ∀ d ∈ xs, noList d = true
  | [] => by simp [noListA]
  | x :: r => by
    have ih := noListA_all (xs := r)
    simp only [noListA, Bool.and_eq_true, ih, List.mem_cons, forall_eq_or_imp]
theorem noListA_app {xs ys : List PyData} : noListA (xs ++ ys) = (noListA xs && noListA ys) := by
  induction xs with
  | nil => simp [noListA]
  | cons x r ih => simp only [List.cons_append, noListA, ih, Bool.and_assoc]
mutual
theorem dp_tk (t : TupK H H') : ∀ {v : V} {d : PyData}, Dp K H v d → noList d = true → Dp K H' v d
  | _, _, .non, _ => .non
  | _, _, .bl b, _ => .bl b
  | _, _, .int i, _ => .int i
  | _, _, .str x, _ => .str x
  | _, _, .lst h a, n => by simp [noList] at n
  | _, _, .tup h a, n => .tup (t.sqt h) (dpa_tk t a (by simpa only [noList] using n))
theorem dpa_tk (t : TupK H H') : ∀ {vs : List V} {ds : List PyData}, DpAll K H vs ds → noListA ds = true → DpAll K H' vs ds
  | _, _, .nil, _ => .nil
  | _, _, .cons a b, n => by
    simp only [noListA, Bool.and_eq_true] at n
    exact .cons (dp_tk t a n.1) (dpa_tk t b n.2)
end
/-- all else stays -/
def Oth (own : Addr → Prop) (H H' : Hp) : Prop := ∀ b o, H b = some o → ¬ own b → H' b = some o
theorem Oth.trans {own own' : Addr → Prop} {H1 : Hp} (p : Oth own H H1) (q : Oth own' H1 H') (h : ∀ b o, H b = some o → own' b → own b) : Oth own H H' := fun b o e n => q b o (p b o e n) fun z => n (h b o e z)
theorem Oth.of {own : Addr → Prop} (e : Ex H H') : Oth own H H' := fun b o h _ => e b o h
theorem Oth.upd {own : Addr → Prop} {o : HO} (h : own a) : Oth own H (L2.upd H a o) := fun b u e n => by
  rw [upd_ne (fun z => n (by rw [z]; exact h))]
  exact e
/-- fresh ahead: an extension -/
theorem Oth.ex {own : Addr → Prop} {H0 : Hp} (p : Oth own H H') (e : Ex H0 H) (f : ∀ b, own b → H0 b = none) : Ex H0 H' := fun b o h => p b o (e b o h) fun z => by rw [f b z] at h; cases h
end
end KX

set_option Elab.async false
set_option linter.all false
set_option maxRecDepth 100000
set_option maxHeartbeats 4000000
namespace K53
open PySem PySem.Spec PyProof.Rows L2 KX
def top (i : Nat) : Stmt := PySem.Challenge.pw_kindredtold_k53_whole_plain_data.main.body.getD i (.Pass ⟨0, 0, 0, 0⟩)
abbrev s_is_whole : Stmt := top 6
abbrev s_is_word : Stmt := top 12
abbrev s_is_short : Stmt := top 13
abbrev s_atom_text : Stmt := top 14
abbrev s_write_data : Stmt := top 15
abbrev s_read_whole : Stmt := top 16
abbrev s_read_atom : Stmt := top 17
abbrev s_pieces_of : Stmt := top 18
abbrev s_read_data : Stmt := top 20
abbrev s_law_draw : Stmt := top 22
abbrev s_law_take : Stmt := top 23
abbrev s_law_data : Stmt := top 24
abbrev s_law_word : Stmt := top 25
abbrev s_law_written : Stmt := top 26
abbrev s_law_number : Stmt := top 27
abbrev s_law_read : Stmt := top 28
abbrev s_law_told : Stmt := top 29
abbrev s_law : Stmt := top 30
abbrev s_DataReader_init__ : Stmt := inClass (top 19) 0
abbrev s_DataReader_item : Stmt := inClass (top 19) 1
abbrev s_DataReader_open_one : Stmt := inClass (top 19) 2
abbrev s_DataReader_close_one : Stmt := inClass (top 19) 3
abbrev s_DataReader_comma : Stmt := inClass (top 19) 4
abbrev s_DataReader_take : Stmt := inClass (top 19) 5
/-- the addresses of what the top has made -/
structure Ad where
  f_is_whole : Addr
  d_is_whole : FuncData
  f_is_word : Addr
  d_is_word : FuncData
  f_is_short : Addr
  d_is_short : FuncData
  f_atom_text : Addr
  d_atom_text : FuncData
  f_write_data : Addr
  d_write_data : FuncData
  f_read_whole : Addr
  d_read_whole : FuncData
  f_read_atom : Addr
  d_read_atom : FuncData
  f_pieces_of : Addr
  d_pieces_of : FuncData
  f_read_data : Addr
  d_read_data : FuncData
  f_law_draw : Addr
  d_law_draw : FuncData
  f_law_take : Addr
  d_law_take : FuncData
  f_law_data : Addr
  d_law_data : FuncData
  f_law_word : Addr
  d_law_word : FuncData
  f_law_written : Addr
  d_law_written : FuncData
  f_law_number : Addr
  d_law_number : FuncData
  f_law_read : Addr
  d_law_read : FuncData
  f_law_told : Addr
  d_law_told : FuncData
  f_law : Addr
  d_law : FuncData
  c_Fault : Addr
  c_Malformed : Addr
  c_DataReader : Addr
  f_DataReader_init__ : Addr
  d_DataReader_init__ : FuncData
  f_DataReader_item : Addr
  d_DataReader_item : FuncData
  f_DataReader_open_one : Addr
  d_DataReader_open_one : FuncData
  f_DataReader_close_one : Addr
  d_DataReader_close_one : FuncData
  f_DataReader_comma : Addr
  d_DataReader_comma : FuncData
  f_DataReader_take : Addr
  d_DataReader_take : FuncData
  a_SIGNS : Addr
/-- what the top has left -/
structure Txt (w : World) (K : PySem.W.Frag) (mg : Str → Option Value) (A : Ad) : Prop where
  g_Fault : mg "Fault" = some (.ref A.c_Fault)
  x_Fault : PySem.W.excIn K A.c_Fault [.type "ValueError", .type "Exception", .type "BaseException", .type "object"] "ValueError.__new__" = true
  k_Fault : PySem.W.keepIn K (.ref A.c_Fault) = true
  b_Fault : PySem.W.subIn K (.ref A.c_Fault) (.type "BaseException") = some true
  t_Fault : PySem.W.typeIn K (.ref A.c_Fault) = some (.type "type")
  i_Fault : PySem.W.isClsIn K A.c_Fault = true
  s_Fault : PySem.W.subIn K (.ref A.c_Fault) (.ref A.c_Fault) = some true
  g_Malformed : mg "Malformed" = some (.ref A.c_Malformed)
  x_Malformed : PySem.W.excIn K A.c_Malformed [.type "ValueError", .type "Exception", .type "BaseException", .type "object"] "ValueError.__new__" = true
  k_Malformed : PySem.W.keepIn K (.ref A.c_Malformed) = true
  b_Malformed : PySem.W.subIn K (.ref A.c_Malformed) (.type "BaseException") = some true
  t_Malformed : PySem.W.typeIn K (.ref A.c_Malformed) = some (.type "type")
  i_Malformed : PySem.W.isClsIn K A.c_Malformed = true
  s_Malformed : PySem.W.subIn K (.ref A.c_Malformed) (.ref A.c_Malformed) = some true
  g_DataReader : mg "DataReader" = some (.ref A.c_DataReader)
  cl_DataReader : Cls K A.c_DataReader
  mk_DataReader : Mk K A.c_DataReader A.f_DataReader_init__
  n_DataReader_tuples : NoAttr K A.c_DataReader "tuples"
  n_DataReader_ready : NoAttr K A.c_DataReader "ready"
  n_DataReader_told : NoAttr K A.c_DataReader "told"
  F_is_whole : Fun K "is_whole" "is_whole" s_is_whole A.f_is_whole A.d_is_whole
  b_is_whole : Binds K A.d_is_whole ["value"] []
  m_is_whole : mg "is_whole" = some (.ref A.f_is_whole)
  F_is_word : Fun K "is_word" "is_word" s_is_word A.f_is_word A.d_is_word
  b_is_word : Binds K A.d_is_word ["value"] []
  m_is_word : mg "is_word" = some (.ref A.f_is_word)
  F_is_short : Fun K "is_short" "is_short" s_is_short A.f_is_short A.d_is_short
  b_is_short : Binds K A.d_is_short ["value"] []
  m_is_short : mg "is_short" = some (.ref A.f_is_short)
  F_atom_text : Fun K "atom_text" "atom_text" s_atom_text A.f_atom_text A.d_atom_text
  b_atom_text : Binds K A.d_atom_text ["value"] []
  m_atom_text : mg "atom_text" = some (.ref A.f_atom_text)
  F_write_data : Fun K "write_data" "write_data" s_write_data A.f_write_data A.d_write_data
  b_write_data : Binds K A.d_write_data ["data"] []
  m_write_data : mg "write_data" = some (.ref A.f_write_data)
  F_read_whole : Fun K "read_whole" "read_whole" s_read_whole A.f_read_whole A.d_read_whole
  b_read_whole : Binds K A.d_read_whole ["text"] []
  m_read_whole : mg "read_whole" = some (.ref A.f_read_whole)
  F_read_atom : Fun K "read_atom" "read_atom" s_read_atom A.f_read_atom A.d_read_atom
  b_read_atom : Binds K A.d_read_atom ["piece"] []
  m_read_atom : mg "read_atom" = some (.ref A.f_read_atom)
  F_pieces_of : Fun K "pieces_of" "pieces_of" s_pieces_of A.f_pieces_of A.d_pieces_of
  b_pieces_of : Binds K A.d_pieces_of ["text"] []
  m_pieces_of : mg "pieces_of" = some (.ref A.f_pieces_of)
  F_read_data : Fun K "read_data" "read_data" s_read_data A.f_read_data A.d_read_data
  b_read_data : Binds K A.d_read_data ["text"] []
  m_read_data : mg "read_data" = some (.ref A.f_read_data)
  F_law_draw : Fun K "_law_draw" "_law_draw" s_law_draw A.f_law_draw A.d_law_draw
  b_law_draw : Binds K A.d_law_draw ["script"] []
  m_law_draw : mg "_law_draw" = some (.ref A.f_law_draw)
  F_law_take : Fun K "_law_take" "_law_take" s_law_take A.f_law_take A.d_law_take
  b_law_take : Binds K A.d_law_take ["draw", "many"] []
  m_law_take : mg "_law_take" = some (.ref A.f_law_take)
  F_law_data : Fun K "_law_data" "_law_data" s_law_data A.f_law_data A.d_law_data
  b_law_data : Binds K A.d_law_data ["draw", "deep"] []
  m_law_data : mg "_law_data" = some (.ref A.f_law_data)
  F_law_word : Fun K "_law_word" "_law_word" s_law_word A.f_law_word A.d_law_word
  b_law_word : Binds K A.d_law_word ["value"] []
  m_law_word : mg "_law_word" = some (.ref A.f_law_word)
  F_law_written : Fun K "_law_written" "_law_written" s_law_written A.f_law_written A.d_law_written
  b_law_written : Binds K A.d_law_written ["data"] []
  m_law_written : mg "_law_written" = some (.ref A.f_law_written)
  F_law_number : Fun K "_law_number" "_law_number" s_law_number A.f_law_number A.d_law_number
  b_law_number : Binds K A.d_law_number ["text"] []
  m_law_number : mg "_law_number" = some (.ref A.f_law_number)
  F_law_read : Fun K "_law_read" "_law_read" s_law_read A.f_law_read A.d_law_read
  b_law_read : Binds K A.d_law_read ["text"] []
  m_law_read : mg "_law_read" = some (.ref A.f_law_read)
  F_law_told : Fun K "_law_told" "_law_told" s_law_told A.f_law_told A.d_law_told
  b_law_told : Binds K A.d_law_told ["which", "value"] []
  m_law_told : mg "_law_told" = some (.ref A.f_law_told)
  F_law : Fun K "law" "law" s_law A.f_law A.d_law
  b_law : Binds K A.d_law ["script"] []
  m_law : mg "law" = some (.ref A.f_law)
  F_DataReader_init__ : Fun K "__init__" "DataReader.__init__" s_DataReader_init__ A.f_DataReader_init__ A.d_DataReader_init__
  b_DataReader_init__ : Binds K A.d_DataReader_init__ ["self"] []
  M_DataReader_init__ : Meth K A.c_DataReader "__init__" A.f_DataReader_init__
  F_DataReader_item : Fun K "item" "DataReader.item" s_DataReader_item A.f_DataReader_item A.d_DataReader_item
  b_DataReader_item : Binds K A.d_DataReader_item ["self", "value"] []
  M_DataReader_item : Meth K A.c_DataReader "item" A.f_DataReader_item
  F_DataReader_open_one : Fun K "open_one" "DataReader.open_one" s_DataReader_open_one A.f_DataReader_open_one A.d_DataReader_open_one
  b_DataReader_open_one : Binds K A.d_DataReader_open_one ["self"] []
  M_DataReader_open_one : Meth K A.c_DataReader "open_one" A.f_DataReader_open_one
  F_DataReader_close_one : Fun K "close_one" "DataReader.close_one" s_DataReader_close_one A.f_DataReader_close_one A.d_DataReader_close_one
  b_DataReader_close_one : Binds K A.d_DataReader_close_one ["self"] []
  M_DataReader_close_one : Meth K A.c_DataReader "close_one" A.f_DataReader_close_one
  F_DataReader_comma : Fun K "comma" "DataReader.comma" s_DataReader_comma A.f_DataReader_comma A.d_DataReader_comma
  b_DataReader_comma : Binds K A.d_DataReader_comma ["self"] []
  M_DataReader_comma : Meth K A.c_DataReader "comma" A.f_DataReader_comma
  F_DataReader_take : Fun K "take" "DataReader.take" s_DataReader_take A.f_DataReader_take A.d_DataReader_take
  b_DataReader_take : Binds K A.d_DataReader_take ["self", "piece"] []
  M_DataReader_take : Meth K A.c_DataReader "take" A.f_DataReader_take
  v_LETTERS : ∃ t, mg "LETTERS" = some (.str "abcdefghijklmnopqrstuvwxyz" t)
  v_DIGITS : ∃ t, mg "DIGITS" = some (.str "0123456789" t)
  v_MOST_WORD : ∃ t, mg "MOST_WORD" = some (.int 12 t)
  v_MOST_DEPTH : ∃ t, mg "MOST_DEPTH" = some (.int 1000 t)
  v_MOST_DIGITS : ∃ t, mg "MOST_DIGITS" = some (.int 4000 t)
  v_SIGNS : mg "SIGNS" = some (.ref A.a_SIGNS)
  D_SIGNS : ∃ n_SIGNS h0_SIGNS h1_SIGNS h2_SIGNS t0_SIGNS t1_SIGNS t2_SIGNS u2_SIGNS, KDict K w A.a_SIGNS #[{ hash := h0_SIGNS, key := .str "+" t0_SIGNS, val := .bool true }, { hash := h1_SIGNS, key := .str "-" t1_SIGNS, val := .bool false }, { hash := h2_SIGNS, key := .str "." t2_SIGNS, val := .str "" u2_SIGNS }] n_SIGNS
  z_ValueError : mg "ValueError" = none
  z_abs : mg "abs" = none
  z_all : mg "all" = none
  z_any : mg "any" = none
  z_bool : mg "bool" = none
  z_enumerate : mg "enumerate" = none
  z_int : mg "int" = none
  z_isinstance : mg "isinstance" = none
  z_len : mg "len" = none
  z_range : mg "range" = none
  z_repr : mg "repr" = none
  z_str : mg "str" = none
  z_tuple : mg "tuple" = none
  nd : NoDig K
theorem txt_mk {w : World} {K : PySem.W.Frag} {h : Heap} {mg : Str → Option Value} (X : K.In h) (G : h.Ns mainGlobals mg)
    {C_Fault : Addr}
    {C_Malformed : Addr}
    {C_DataReader : Addr}
    {od1 an1 : Option Addr}
    {sl1 : Array (Option Value)}
    {oc1 kV1 dc1 pm1 cd1 ct1 : Value}
    {f1 : Addr}
    {od2 an2 : Option Addr}
    {sl2 : Array (Option Value)}
    {oc2 kV2 dc2 pm2 cd2 ct2 : Value}
    {f2 : Addr}
    {od3 an3 : Option Addr}
    {sl3 : Array (Option Value)}
    {oc3 kV3 dc3 pm3 cd3 ct3 : Value}
    {f3 : Addr}
    {od4 an4 : Option Addr}
    {sl4 : Array (Option Value)}
    {oc4 kV4 dc4 pm4 cd4 ct4 : Value}
    {f4 : Addr}
    {od5 an5 : Option Addr}
    {sl5 : Array (Option Value)}
    {oc5 kV5 dc5 pm5 cd5 ct5 : Value}
    {f5 : Addr}
    {od6 an6 : Option Addr}
    {sl6 : Array (Option Value)}
    {oc6 kV6 dc6 pm6 cd6 ct6 : Value}
    {f6 : Addr}
    {od7 an7 : Option Addr}
    {sl7 : Array (Option Value)}
    {oc7 kV7 dc7 pm7 cd7 ct7 : Value}
    {f7 : Addr}
    {od8 an8 : Option Addr}
    {sl8 : Array (Option Value)}
    {oc8 kV8 dc8 pm8 cd8 ct8 : Value}
    {f8 : Addr}
    {od9 an9 : Option Addr}
    {sl9 : Array (Option Value)}
    {oc9 kV9 dc9 pm9 cd9 ct9 : Value}
    {f9 : Addr}
    {od10 an10 : Option Addr}
    {sl10 : Array (Option Value)}
    {oc10 kV10 dc10 pm10 cd10 ct10 : Value}
    {f10 : Addr}
    {od11 an11 : Option Addr}
    {sl11 : Array (Option Value)}
    {oc11 kV11 dc11 pm11 cd11 ct11 : Value}
    {f11 : Addr}
    {od12 an12 : Option Addr}
    {sl12 : Array (Option Value)}
    {oc12 kV12 dc12 pm12 cd12 ct12 : Value}
    {f12 : Addr}
    {od13 an13 : Option Addr}
    {sl13 : Array (Option Value)}
    {oc13 kV13 dc13 pm13 cd13 ct13 : Value}
    {f13 : Addr}
    {od14 an14 : Option Addr}
    {sl14 : Array (Option Value)}
    {oc14 kV14 dc14 pm14 cd14 ct14 : Value}
    {f14 : Addr}
    {od15 an15 : Option Addr}
    {sl15 : Array (Option Value)}
    {oc15 kV15 dc15 pm15 cd15 ct15 : Value}
    {f15 : Addr}
    {od16 an16 : Option Addr}
    {sl16 : Array (Option Value)}
    {oc16 kV16 dc16 pm16 cd16 ct16 : Value}
    {f16 : Addr}
    {od17 an17 : Option Addr}
    {sl17 : Array (Option Value)}
    {oc17 kV17 dc17 pm17 cd17 ct17 : Value}
    {f17 : Addr}
    {od18 an18 : Option Addr}
    {sl18 : Array (Option Value)}
    {oc18 kV18 dc18 pm18 cd18 ct18 : Value}
    {f18 : Addr}
    {od19 an19 : Option Addr}
    {sl19 : Array (Option Value)}
    {oc19 kV19 dc19 pm19 cd19 ct19 : Value}
    {f19 : Addr}
    {od20 an20 : Option Addr}
    {sl20 : Array (Option Value)}
    {oc20 kV20 dc20 pm20 cd20 ct20 : Value}
    {f20 : Addr}
    {od21 an21 : Option Addr}
    {sl21 : Array (Option Value)}
    {oc21 kV21 dc21 pm21 cd21 ct21 : Value}
    {f21 : Addr}
    {od22 an22 : Option Addr}
    {sl22 : Array (Option Value)}
    {oc22 kV22 dc22 pm22 cd22 ct22 : Value}
    {f22 : Addr}
    {od23 an23 : Option Addr}
    {sl23 : Array (Option Value)}
    {oc23 kV23 dc23 pm23 cd23 ct23 : Value}
    {f23 : Addr}
    {od24 an24 : Option Addr}
    {sl24 : Array (Option Value)}
    {oc24 kV24 dc24 pm24 cd24 ct24 : Value}
    {f24 : Addr}
    {t_LETTERS : Tok}
    {t_DIGITS : Tok}
    {t_MOST_WORD : Tok}
    {t_MOST_DEPTH : Tok}
    {t_MOST_DIGITS : Tok}
    {A_SIGNS : Addr}
    {n_SIGNS : Nat}
    {h0_SIGNS h1_SIGNS h2_SIGNS : Int}
    {t0_SIGNS t1_SIGNS t2_SIGNS u2_SIGNS : Tok}
    (g_Fault : PySem.W.nsIn K mainGlobals "Fault" = some (some (.ref C_Fault)))
    (x_Fault : PySem.W.excIn K C_Fault [.type "ValueError", .type "Exception", .type "BaseException", .type "object"] "ValueError.__new__" = true)
    (k_Fault : PySem.W.keepIn K (.ref C_Fault) = true)
    (b_Fault : PySem.W.subIn K (.ref C_Fault) (.type "BaseException") = some true)
    (t_Fault : PySem.W.typeIn K (.ref C_Fault) = some (.type "type"))
    (i_Fault : PySem.W.isClsIn K C_Fault = true)
    (s_Fault : PySem.W.subIn K (.ref C_Fault) (.ref C_Fault) = some true)
    (g_Malformed : PySem.W.nsIn K mainGlobals "Malformed" = some (some (.ref C_Malformed)))
    (x_Malformed : PySem.W.excIn K C_Malformed [.type "ValueError", .type "Exception", .type "BaseException", .type "object"] "ValueError.__new__" = true)
    (k_Malformed : PySem.W.keepIn K (.ref C_Malformed) = true)
    (b_Malformed : PySem.W.subIn K (.ref C_Malformed) (.type "BaseException") = some true)
    (t_Malformed : PySem.W.typeIn K (.ref C_Malformed) = some (.type "type"))
    (i_Malformed : PySem.W.isClsIn K C_Malformed = true)
    (s_Malformed : PySem.W.subIn K (.ref C_Malformed) (.ref C_Malformed) = some true)
    (g_DataReader : PySem.W.nsIn K mainGlobals "DataReader" = some (some (.ref C_DataReader)))
    (pg_DataReader : PySem.W.plainGet K C_DataReader Str.empty = true)
    (hd_DataReader : PySem.W.hasDictIn K C_DataReader = true)
    (po_DataReader : PySem.W.plainOver K C_DataReader = true)
    (sa_DataReader : PySem.W.findIn K (.ref C_DataReader) "__setattr__" = some (some (.builtin "object.__setattr__")))
    (mk_DataReader : PySem.W.makesIn K C_DataReader = true)
    (kc_DataReader : PySem.W.keepIn K (.ref C_DataReader) = true)
    (n_DataReader_tuples : PySem.W.findIn K (.ref C_DataReader) "tuples" = some none)
    (n_DataReader_ready : PySem.W.findIn K (.ref C_DataReader) "ready" = some none)
    (n_DataReader_told : PySem.W.findIn K (.ref C_DataReader) "told" = some none)
    (a1 : PySem.W.nsIn K mainGlobals "is_whole" = some (some (.ref f1)))
    (l1 : K.lookup f1 = some ⟨oc1, od1, .func (PySem.W.fnOf "is_whole" "is_whole" (defArgs s_is_whole) (defBody s_is_whole) (defScope s_is_whole) .none kV1 dc1 pm1 an1 cd1 ct1), sl1⟩)
    (c1 : PySem.W.codeIn K cd1 "is_whole" = true)
    (k1 : PySem.W.keepIn K (.ref f1) = true)
    (a2 : PySem.W.nsIn K mainGlobals "is_word" = some (some (.ref f2)))
    (l2 : K.lookup f2 = some ⟨oc2, od2, .func (PySem.W.fnOf "is_word" "is_word" (defArgs s_is_word) (defBody s_is_word) (defScope s_is_word) .none kV2 dc2 pm2 an2 cd2 ct2), sl2⟩)
    (c2 : PySem.W.codeIn K cd2 "is_word" = true)
    (k2 : PySem.W.keepIn K (.ref f2) = true)
    (a3 : PySem.W.nsIn K mainGlobals "is_short" = some (some (.ref f3)))
    (l3 : K.lookup f3 = some ⟨oc3, od3, .func (PySem.W.fnOf "is_short" "is_short" (defArgs s_is_short) (defBody s_is_short) (defScope s_is_short) .none kV3 dc3 pm3 an3 cd3 ct3), sl3⟩)
    (c3 : PySem.W.codeIn K cd3 "is_short" = true)
    (k3 : PySem.W.keepIn K (.ref f3) = true)
    (a4 : PySem.W.nsIn K mainGlobals "atom_text" = some (some (.ref f4)))
    (l4 : K.lookup f4 = some ⟨oc4, od4, .func (PySem.W.fnOf "atom_text" "atom_text" (defArgs s_atom_text) (defBody s_atom_text) (defScope s_atom_text) .none kV4 dc4 pm4 an4 cd4 ct4), sl4⟩)
    (c4 : PySem.W.codeIn K cd4 "atom_text" = true)
    (k4 : PySem.W.keepIn K (.ref f4) = true)
    (a5 : PySem.W.nsIn K mainGlobals "write_data" = some (some (.ref f5)))
    (l5 : K.lookup f5 = some ⟨oc5, od5, .func (PySem.W.fnOf "write_data" "write_data" (defArgs s_write_data) (defBody s_write_data) (defScope s_write_data) .none kV5 dc5 pm5 an5 cd5 ct5), sl5⟩)
    (c5 : PySem.W.codeIn K cd5 "write_data" = true)
    (k5 : PySem.W.keepIn K (.ref f5) = true)
    (a6 : PySem.W.nsIn K mainGlobals "read_whole" = some (some (.ref f6)))
    (l6 : K.lookup f6 = some ⟨oc6, od6, .func (PySem.W.fnOf "read_whole" "read_whole" (defArgs s_read_whole) (defBody s_read_whole) (defScope s_read_whole) .none kV6 dc6 pm6 an6 cd6 ct6), sl6⟩)
    (c6 : PySem.W.codeIn K cd6 "read_whole" = true)
    (k6 : PySem.W.keepIn K (.ref f6) = true)
    (a7 : PySem.W.nsIn K mainGlobals "read_atom" = some (some (.ref f7)))
    (l7 : K.lookup f7 = some ⟨oc7, od7, .func (PySem.W.fnOf "read_atom" "read_atom" (defArgs s_read_atom) (defBody s_read_atom) (defScope s_read_atom) .none kV7 dc7 pm7 an7 cd7 ct7), sl7⟩)
    (c7 : PySem.W.codeIn K cd7 "read_atom" = true)
    (k7 : PySem.W.keepIn K (.ref f7) = true)
    (a8 : PySem.W.nsIn K mainGlobals "pieces_of" = some (some (.ref f8)))
    (l8 : K.lookup f8 = some ⟨oc8, od8, .func (PySem.W.fnOf "pieces_of" "pieces_of" (defArgs s_pieces_of) (defBody s_pieces_of) (defScope s_pieces_of) .none kV8 dc8 pm8 an8 cd8 ct8), sl8⟩)
    (c8 : PySem.W.codeIn K cd8 "pieces_of" = true)
    (k8 : PySem.W.keepIn K (.ref f8) = true)
    (a9 : PySem.W.nsIn K mainGlobals "read_data" = some (some (.ref f9)))
    (l9 : K.lookup f9 = some ⟨oc9, od9, .func (PySem.W.fnOf "read_data" "read_data" (defArgs s_read_data) (defBody s_read_data) (defScope s_read_data) .none kV9 dc9 pm9 an9 cd9 ct9), sl9⟩)
    (c9 : PySem.W.codeIn K cd9 "read_data" = true)
    (k9 : PySem.W.keepIn K (.ref f9) = true)
    (a10 : PySem.W.nsIn K mainGlobals "_law_draw" = some (some (.ref f10)))
    (l10 : K.lookup f10 = some ⟨oc10, od10, .func (PySem.W.fnOf "_law_draw" "_law_draw" (defArgs s_law_draw) (defBody s_law_draw) (defScope s_law_draw) .none kV10 dc10 pm10 an10 cd10 ct10), sl10⟩)
    (c10 : PySem.W.codeIn K cd10 "_law_draw" = true)
    (k10 : PySem.W.keepIn K (.ref f10) = true)
    (a11 : PySem.W.nsIn K mainGlobals "_law_take" = some (some (.ref f11)))
    (l11 : K.lookup f11 = some ⟨oc11, od11, .func (PySem.W.fnOf "_law_take" "_law_take" (defArgs s_law_take) (defBody s_law_take) (defScope s_law_take) .none kV11 dc11 pm11 an11 cd11 ct11), sl11⟩)
    (c11 : PySem.W.codeIn K cd11 "_law_take" = true)
    (k11 : PySem.W.keepIn K (.ref f11) = true)
    (a12 : PySem.W.nsIn K mainGlobals "_law_data" = some (some (.ref f12)))
    (l12 : K.lookup f12 = some ⟨oc12, od12, .func (PySem.W.fnOf "_law_data" "_law_data" (defArgs s_law_data) (defBody s_law_data) (defScope s_law_data) .none kV12 dc12 pm12 an12 cd12 ct12), sl12⟩)
    (c12 : PySem.W.codeIn K cd12 "_law_data" = true)
    (k12 : PySem.W.keepIn K (.ref f12) = true)
    (a13 : PySem.W.nsIn K mainGlobals "_law_word" = some (some (.ref f13)))
    (l13 : K.lookup f13 = some ⟨oc13, od13, .func (PySem.W.fnOf "_law_word" "_law_word" (defArgs s_law_word) (defBody s_law_word) (defScope s_law_word) .none kV13 dc13 pm13 an13 cd13 ct13), sl13⟩)
    (c13 : PySem.W.codeIn K cd13 "_law_word" = true)
    (k13 : PySem.W.keepIn K (.ref f13) = true)
    (a14 : PySem.W.nsIn K mainGlobals "_law_written" = some (some (.ref f14)))
    (l14 : K.lookup f14 = some ⟨oc14, od14, .func (PySem.W.fnOf "_law_written" "_law_written" (defArgs s_law_written) (defBody s_law_written) (defScope s_law_written) .none kV14 dc14 pm14 an14 cd14 ct14), sl14⟩)
    (c14 : PySem.W.codeIn K cd14 "_law_written" = true)
    (k14 : PySem.W.keepIn K (.ref f14) = true)
    (a15 : PySem.W.nsIn K mainGlobals "_law_number" = some (some (.ref f15)))
    (l15 : K.lookup f15 = some ⟨oc15, od15, .func (PySem.W.fnOf "_law_number" "_law_number" (defArgs s_law_number) (defBody s_law_number) (defScope s_law_number) .none kV15 dc15 pm15 an15 cd15 ct15), sl15⟩)
    (c15 : PySem.W.codeIn K cd15 "_law_number" = true)
    (k15 : PySem.W.keepIn K (.ref f15) = true)
    (a16 : PySem.W.nsIn K mainGlobals "_law_read" = some (some (.ref f16)))
    (l16 : K.lookup f16 = some ⟨oc16, od16, .func (PySem.W.fnOf "_law_read" "_law_read" (defArgs s_law_read) (defBody s_law_read) (defScope s_law_read) .none kV16 dc16 pm16 an16 cd16 ct16), sl16⟩)
    (c16 : PySem.W.codeIn K cd16 "_law_read" = true)
    (k16 : PySem.W.keepIn K (.ref f16) = true)
    (a17 : PySem.W.nsIn K mainGlobals "_law_told" = some (some (.ref f17)))
    (l17 : K.lookup f17 = some ⟨oc17, od17, .func (PySem.W.fnOf "_law_told" "_law_told" (defArgs s_law_told) (defBody s_law_told) (defScope s_law_told) .none kV17 dc17 pm17 an17 cd17 ct17), sl17⟩)
    (c17 : PySem.W.codeIn K cd17 "_law_told" = true)
    (k17 : PySem.W.keepIn K (.ref f17) = true)
    (a18 : PySem.W.nsIn K mainGlobals "law" = some (some (.ref f18)))
    (l18 : K.lookup f18 = some ⟨oc18, od18, .func (PySem.W.fnOf "law" "law" (defArgs s_law) (defBody s_law) (defScope s_law) .none kV18 dc18 pm18 an18 cd18 ct18), sl18⟩)
    (c18 : PySem.W.codeIn K cd18 "law" = true)
    (k18 : PySem.W.keepIn K (.ref f18) = true)
    (a19 : PySem.W.findIn K (.ref C_DataReader) "__init__" = some (some (.ref f19)))
    (i19 : PySem.W.isFn K (.ref f19) = true)
    (l19 : K.lookup f19 = some ⟨oc19, od19, .func (PySem.W.fnOf "__init__" "DataReader.__init__" (defArgs s_DataReader_init__) (defBody s_DataReader_init__) (defScope s_DataReader_init__) .none kV19 dc19 pm19 an19 cd19 ct19), sl19⟩)
    (c19 : PySem.W.codeIn K cd19 "DataReader.__init__" = true)
    (k19 : PySem.W.keepIn K (.ref f19) = true)
    (a20 : PySem.W.findIn K (.ref C_DataReader) "item" = some (some (.ref f20)))
    (i20 : PySem.W.isFn K (.ref f20) = true)
    (l20 : K.lookup f20 = some ⟨oc20, od20, .func (PySem.W.fnOf "item" "DataReader.item" (defArgs s_DataReader_item) (defBody s_DataReader_item) (defScope s_DataReader_item) .none kV20 dc20 pm20 an20 cd20 ct20), sl20⟩)
    (c20 : PySem.W.codeIn K cd20 "DataReader.item" = true)
    (k20 : PySem.W.keepIn K (.ref f20) = true)
    (a21 : PySem.W.findIn K (.ref C_DataReader) "open_one" = some (some (.ref f21)))
    (i21 : PySem.W.isFn K (.ref f21) = true)
    (l21 : K.lookup f21 = some ⟨oc21, od21, .func (PySem.W.fnOf "open_one" "DataReader.open_one" (defArgs s_DataReader_open_one) (defBody s_DataReader_open_one) (defScope s_DataReader_open_one) .none kV21 dc21 pm21 an21 cd21 ct21), sl21⟩)
    (c21 : PySem.W.codeIn K cd21 "DataReader.open_one" = true)
    (k21 : PySem.W.keepIn K (.ref f21) = true)
    (a22 : PySem.W.findIn K (.ref C_DataReader) "close_one" = some (some (.ref f22)))
    (i22 : PySem.W.isFn K (.ref f22) = true)
    (l22 : K.lookup f22 = some ⟨oc22, od22, .func (PySem.W.fnOf "close_one" "DataReader.close_one" (defArgs s_DataReader_close_one) (defBody s_DataReader_close_one) (defScope s_DataReader_close_one) .none kV22 dc22 pm22 an22 cd22 ct22), sl22⟩)
    (c22 : PySem.W.codeIn K cd22 "DataReader.close_one" = true)
    (k22 : PySem.W.keepIn K (.ref f22) = true)
    (a23 : PySem.W.findIn K (.ref C_DataReader) "comma" = some (some (.ref f23)))
    (i23 : PySem.W.isFn K (.ref f23) = true)
    (l23 : K.lookup f23 = some ⟨oc23, od23, .func (PySem.W.fnOf "comma" "DataReader.comma" (defArgs s_DataReader_comma) (defBody s_DataReader_comma) (defScope s_DataReader_comma) .none kV23 dc23 pm23 an23 cd23 ct23), sl23⟩)
    (c23 : PySem.W.codeIn K cd23 "DataReader.comma" = true)
    (k23 : PySem.W.keepIn K (.ref f23) = true)
    (a24 : PySem.W.findIn K (.ref C_DataReader) "take" = some (some (.ref f24)))
    (i24 : PySem.W.isFn K (.ref f24) = true)
    (l24 : K.lookup f24 = some ⟨oc24, od24, .func (PySem.W.fnOf "take" "DataReader.take" (defArgs s_DataReader_take) (defBody s_DataReader_take) (defScope s_DataReader_take) .none kV24 dc24 pm24 an24 cd24 ct24), sl24⟩)
    (c24 : PySem.W.codeIn K cd24 "DataReader.take" = true)
    (k24 : PySem.W.keepIn K (.ref f24) = true)
    (v_LETTERS : PySem.W.nsIn K mainGlobals "LETTERS" = some (some (.str "abcdefghijklmnopqrstuvwxyz" t_LETTERS)))
    (v_DIGITS : PySem.W.nsIn K mainGlobals "DIGITS" = some (some (.str "0123456789" t_DIGITS)))
    (v_MOST_WORD : PySem.W.nsIn K mainGlobals "MOST_WORD" = some (some (.int 12 t_MOST_WORD)))
    (v_MOST_DEPTH : PySem.W.nsIn K mainGlobals "MOST_DEPTH" = some (some (.int 1000 t_MOST_DEPTH)))
    (v_MOST_DIGITS : PySem.W.nsIn K mainGlobals "MOST_DIGITS" = some (some (.int 4000 t_MOST_DIGITS)))
    (v_SIGNS : PySem.W.nsIn K mainGlobals "SIGNS" = some (some (.ref A_SIGNS)))
    (D_SIGNS : K.lookup A_SIGNS = some ⟨.type "dict", none, .dict #[{ hash := h0_SIGNS, key := .str "+" t0_SIGNS, val := .bool true }, { hash := h1_SIGNS, key := .str "-" t1_SIGNS, val := .bool false }, { hash := h2_SIGNS, key := .str "." t2_SIGNS, val := .str "" u2_SIGNS }] n_SIGNS, #[]⟩)
    (K_SIGNS : PySem.W.KeysLit w.params (#[{ hash := h0_SIGNS, key := .str "+" t0_SIGNS, val := .bool true }, { hash := h1_SIGNS, key := .str "-" t1_SIGNS, val := .bool false }, { hash := h2_SIGNS, key := .str "." t2_SIGNS, val := .str "" u2_SIGNS }] : Array DictEntry).toList)
    (S_SIGNS : (A_SIGNS == sysModules) = false)
    (z_ValueError : PySem.W.nsIn K mainGlobals "ValueError" = some none)
    (z_abs : PySem.W.nsIn K mainGlobals "abs" = some none)
    (z_all : PySem.W.nsIn K mainGlobals "all" = some none)
    (z_any : PySem.W.nsIn K mainGlobals "any" = some none)
    (z_bool : PySem.W.nsIn K mainGlobals "bool" = some none)
    (z_enumerate : PySem.W.nsIn K mainGlobals "enumerate" = some none)
    (z_int : PySem.W.nsIn K mainGlobals "int" = some none)
    (z_isinstance : PySem.W.nsIn K mainGlobals "isinstance" = some none)
    (z_len : PySem.W.nsIn K mainGlobals "len" = some none)
    (z_range : PySem.W.nsIn K mainGlobals "range" = some none)
    (z_repr : PySem.W.nsIn K mainGlobals "repr" = some none)
    (z_str : PySem.W.nsIn K mainGlobals "str" = some none)
    (z_tuple : PySem.W.nsIn K mainGlobals "tuple" = some none)
    (nd1 : PySem.W.nsOkIn K cStatics = true)
    (nd2 : PySem.W.nsIn K cStatics "sys.int_max_str_digits" = some none)
    : ∃ A : Ad, Txt w K mg A :=
  ⟨{ f_is_whole := f1, f_is_word := f2, f_is_short := f3, f_atom_text := f4, f_write_data := f5, f_read_whole := f6, f_read_atom := f7, f_pieces_of := f8, f_read_data := f9, f_law_draw := f10, f_law_take := f11, f_law_data := f12, f_law_word := f13, f_law_written := f14, f_law_number := f15, f_law_read := f16, f_law_told := f17, f_law := f18, d_is_whole := (PySem.W.fnOf "is_whole" "is_whole" (defArgs s_is_whole) (defBody s_is_whole) (defScope s_is_whole) .none kV1 dc1 pm1 an1 cd1 ct1), d_is_word := (PySem.W.fnOf "is_word" "is_word" (defArgs s_is_word) (defBody s_is_word) (defScope s_is_word) .none kV2 dc2 pm2 an2 cd2 ct2), d_is_short := (PySem.W.fnOf "is_short" "is_short" (defArgs s_is_short) (defBody s_is_short) (defScope s_is_short) .none kV3 dc3 pm3 an3 cd3 ct3), d_atom_text := (PySem.W.fnOf "atom_text" "atom_text" (defArgs s_atom_text) (defBody s_atom_text) (defScope s_atom_text) .none kV4 dc4 pm4 an4 cd4 ct4), d_write_data := (PySem.W.fnOf "write_data" "write_data" (defArgs s_write_data) (defBody s_write_data) (defScope s_write_data) .none kV5 dc5 pm5 an5 cd5 ct5), d_read_whole := (PySem.W.fnOf "read_whole" "read_whole" (defArgs s_read_whole) (defBody s_read_whole) (defScope s_read_whole) .none kV6 dc6 pm6 an6 cd6 ct6), d_read_atom := (PySem.W.fnOf "read_atom" "read_atom" (defArgs s_read_atom) (defBody s_read_atom) (defScope s_read_atom) .none kV7 dc7 pm7 an7 cd7 ct7), d_pieces_of := (PySem.W.fnOf "pieces_of" "pieces_of" (defArgs s_pieces_of) (defBody s_pieces_of) (defScope s_pieces_of) .none kV8 dc8 pm8 an8 cd8 ct8), d_read_data := (PySem.W.fnOf "read_data" "read_data" (defArgs s_read_data) (defBody s_read_data) (defScope s_read_data) .none kV9 dc9 pm9 an9 cd9 ct9), d_law_draw := (PySem.W.fnOf "_law_draw" "_law_draw" (defArgs s_law_draw) (defBody s_law_draw) (defScope s_law_draw) .none kV10 dc10 pm10 an10 cd10 ct10), d_law_take := (PySem.W.fnOf "_law_take" "_law_take" (defArgs s_law_take) (defBody s_law_take) (defScope s_law_take) .none kV11 dc11 pm11 an11 cd11 ct11), d_law_data := (PySem.W.fnOf "_law_data" "_law_data" (defArgs s_law_data) (defBody s_law_data) (defScope s_law_data) .none kV12 dc12 pm12 an12 cd12 ct12), d_law_word := (PySem.W.fnOf "_law_word" "_law_word" (defArgs s_law_word) (defBody s_law_word) (defScope s_law_word) .none kV13 dc13 pm13 an13 cd13 ct13), d_law_written := (PySem.W.fnOf "_law_written" "_law_written" (defArgs s_law_written) (defBody s_law_written) (defScope s_law_written) .none kV14 dc14 pm14 an14 cd14 ct14), d_law_number := (PySem.W.fnOf "_law_number" "_law_number" (defArgs s_law_number) (defBody s_law_number) (defScope s_law_number) .none kV15 dc15 pm15 an15 cd15 ct15), d_law_read := (PySem.W.fnOf "_law_read" "_law_read" (defArgs s_law_read) (defBody s_law_read) (defScope s_law_read) .none kV16 dc16 pm16 an16 cd16 ct16), d_law_told := (PySem.W.fnOf "_law_told" "_law_told" (defArgs s_law_told) (defBody s_law_told) (defScope s_law_told) .none kV17 dc17 pm17 an17 cd17 ct17), d_law := (PySem.W.fnOf "law" "law" (defArgs s_law) (defBody s_law) (defScope s_law) .none kV18 dc18 pm18 an18 cd18 ct18), c_Fault := C_Fault, c_Malformed := C_Malformed, c_DataReader := C_DataReader, f_DataReader_init__ := f19, f_DataReader_item := f20, f_DataReader_open_one := f21, f_DataReader_close_one := f22, f_DataReader_comma := f23, f_DataReader_take := f24, d_DataReader_init__ := (PySem.W.fnOf "__init__" "DataReader.__init__" (defArgs s_DataReader_init__) (defBody s_DataReader_init__) (defScope s_DataReader_init__) .none kV19 dc19 pm19 an19 cd19 ct19), d_DataReader_item := (PySem.W.fnOf "item" "DataReader.item" (defArgs s_DataReader_item) (defBody s_DataReader_item) (defScope s_DataReader_item) .none kV20 dc20 pm20 an20 cd20 ct20), d_DataReader_open_one := (PySem.W.fnOf "open_one" "DataReader.open_one" (defArgs s_DataReader_open_one) (defBody s_DataReader_open_one) (defScope s_DataReader_open_one) .none kV21 dc21 pm21 an21 cd21 ct21), d_DataReader_close_one := (PySem.W.fnOf "close_one" "DataReader.close_one" (defArgs s_DataReader_close_one) (defBody s_DataReader_close_one) (defScope s_DataReader_close_one) .none kV22 dc22 pm22 an22 cd22 ct22), d_DataReader_comma := (PySem.W.fnOf "comma" "DataReader.comma" (defArgs s_DataReader_comma) (defBody s_DataReader_comma) (defScope s_DataReader_comma) .none kV23 dc23 pm23 an23 cd23 ct23), d_DataReader_take := (PySem.W.fnOf "take" "DataReader.take" (defArgs s_DataReader_take) (defBody s_DataReader_take) (defScope s_DataReader_take) .none kV24 dc24 pm24 an24 cd24 ct24), a_SIGNS := A_SIGNS }, {
    g_Fault := PySem.W.mg_of X G g_Fault,
    x_Fault := x_Fault,
    k_Fault := k_Fault,
    b_Fault := b_Fault,
    t_Fault := t_Fault,
    i_Fault := i_Fault,
    s_Fault := s_Fault,
    g_Malformed := PySem.W.mg_of X G g_Malformed,
    x_Malformed := x_Malformed,
    k_Malformed := k_Malformed,
    b_Malformed := b_Malformed,
    t_Malformed := t_Malformed,
    i_Malformed := i_Malformed,
    s_Malformed := s_Malformed,
    g_DataReader := PySem.W.mg_of X G g_DataReader,
    cl_DataReader := ⟨pg_DataReader, hd_DataReader, po_DataReader, sa_DataReader⟩,
    n_DataReader_tuples := n_DataReader_tuples,
    n_DataReader_ready := n_DataReader_ready,
    n_DataReader_told := n_DataReader_told,
    F_is_whole := fun_mk (st := s_is_whole) l1 c1 k1,
    b_is_whole := (fun_mk (st := s_is_whole) l1 c1 k1).binds (ps := ["value"]) fun _ _ _ _ _ _ us hl => match us, hl with | [_], _ => rfl,
    m_is_whole := PySem.W.mg_of X G a1,
    F_is_word := fun_mk (st := s_is_word) l2 c2 k2,
    b_is_word := (fun_mk (st := s_is_word) l2 c2 k2).binds (ps := ["value"]) fun _ _ _ _ _ _ us hl => match us, hl with | [_], _ => rfl,
    m_is_word := PySem.W.mg_of X G a2,
    F_is_short := fun_mk (st := s_is_short) l3 c3 k3,
    b_is_short := (fun_mk (st := s_is_short) l3 c3 k3).binds (ps := ["value"]) fun _ _ _ _ _ _ us hl => match us, hl with | [_], _ => rfl,
    m_is_short := PySem.W.mg_of X G a3,
    F_atom_text := fun_mk (st := s_atom_text) l4 c4 k4,
    b_atom_text := (fun_mk (st := s_atom_text) l4 c4 k4).binds (ps := ["value"]) fun _ _ _ _ _ _ us hl => match us, hl with | [_], _ => rfl,
    m_atom_text := PySem.W.mg_of X G a4,
    F_write_data := fun_mk (st := s_write_data) l5 c5 k5,
    b_write_data := (fun_mk (st := s_write_data) l5 c5 k5).binds (ps := ["data"]) fun _ _ _ _ _ _ us hl => match us, hl with | [_], _ => rfl,
    m_write_data := PySem.W.mg_of X G a5,
    F_read_whole := fun_mk (st := s_read_whole) l6 c6 k6,
    b_read_whole := (fun_mk (st := s_read_whole) l6 c6 k6).binds (ps := ["text"]) fun _ _ _ _ _ _ us hl => match us, hl with | [_], _ => rfl,
    m_read_whole := PySem.W.mg_of X G a6,
    F_read_atom := fun_mk (st := s_read_atom) l7 c7 k7,
    b_read_atom := (fun_mk (st := s_read_atom) l7 c7 k7).binds (ps := ["piece"]) fun _ _ _ _ _ _ us hl => match us, hl with | [_], _ => rfl,
    m_read_atom := PySem.W.mg_of X G a7,
    F_pieces_of := fun_mk (st := s_pieces_of) l8 c8 k8,
    b_pieces_of := (fun_mk (st := s_pieces_of) l8 c8 k8).binds (ps := ["text"]) fun _ _ _ _ _ _ us hl => match us, hl with | [_], _ => rfl,
    m_pieces_of := PySem.W.mg_of X G a8,
    F_read_data := fun_mk (st := s_read_data) l9 c9 k9,
    b_read_data := (fun_mk (st := s_read_data) l9 c9 k9).binds (ps := ["text"]) fun _ _ _ _ _ _ us hl => match us, hl with | [_], _ => rfl,
    m_read_data := PySem.W.mg_of X G a9,
    F_law_draw := fun_mk (st := s_law_draw) l10 c10 k10,
    b_law_draw := (fun_mk (st := s_law_draw) l10 c10 k10).binds (ps := ["script"]) fun _ _ _ _ _ _ us hl => match us, hl with | [_], _ => rfl,
    m_law_draw := PySem.W.mg_of X G a10,
    F_law_take := fun_mk (st := s_law_take) l11 c11 k11,
    b_law_take := (fun_mk (st := s_law_take) l11 c11 k11).binds (ps := ["draw", "many"]) fun _ _ _ _ _ _ us hl => match us, hl with | [_, _], _ => rfl,
    m_law_take := PySem.W.mg_of X G a11,
    F_law_data := fun_mk (st := s_law_data) l12 c12 k12,
    b_law_data := (fun_mk (st := s_law_data) l12 c12 k12).binds (ps := ["draw", "deep"]) fun _ _ _ _ _ _ us hl => match us, hl with | [_, _], _ => rfl,
    m_law_data := PySem.W.mg_of X G a12,
    F_law_word := fun_mk (st := s_law_word) l13 c13 k13,
    b_law_word := (fun_mk (st := s_law_word) l13 c13 k13).binds (ps := ["value"]) fun _ _ _ _ _ _ us hl => match us, hl with | [_], _ => rfl,
    m_law_word := PySem.W.mg_of X G a13,
    F_law_written := fun_mk (st := s_law_written) l14 c14 k14,
    b_law_written := (fun_mk (st := s_law_written) l14 c14 k14).binds (ps := ["data"]) fun _ _ _ _ _ _ us hl => match us, hl with | [_], _ => rfl,
    m_law_written := PySem.W.mg_of X G a14,
    F_law_number := fun_mk (st := s_law_number) l15 c15 k15,
    b_law_number := (fun_mk (st := s_law_number) l15 c15 k15).binds (ps := ["text"]) fun _ _ _ _ _ _ us hl => match us, hl with | [_], _ => rfl,
    m_law_number := PySem.W.mg_of X G a15,
    F_law_read := fun_mk (st := s_law_read) l16 c16 k16,
    b_law_read := (fun_mk (st := s_law_read) l16 c16 k16).binds (ps := ["text"]) fun _ _ _ _ _ _ us hl => match us, hl with | [_], _ => rfl,
    m_law_read := PySem.W.mg_of X G a16,
    F_law_told := fun_mk (st := s_law_told) l17 c17 k17,
    b_law_told := (fun_mk (st := s_law_told) l17 c17 k17).binds (ps := ["which", "value"]) fun _ _ _ _ _ _ us hl => match us, hl with | [_, _], _ => rfl,
    m_law_told := PySem.W.mg_of X G a17,
    F_law := fun_mk (st := s_law) l18 c18 k18,
    b_law := (fun_mk (st := s_law) l18 c18 k18).binds (ps := ["script"]) fun _ _ _ _ _ _ us hl => match us, hl with | [_], _ => rfl,
    m_law := PySem.W.mg_of X G a18,
    F_DataReader_init__ := fun_mk (st := s_DataReader_init__) l19 c19 k19,
    b_DataReader_init__ := (fun_mk (st := s_DataReader_init__) l19 c19 k19).binds (ps := ["self"]) fun _ _ _ _ _ _ us hl => match us, hl with | [_], _ => rfl,
    M_DataReader_init__ := ⟨a19, i19, k19⟩,
    mk_DataReader := ⟨mk_DataReader, a19, i19, kc_DataReader⟩,
    F_DataReader_item := fun_mk (st := s_DataReader_item) l20 c20 k20,
    b_DataReader_item := (fun_mk (st := s_DataReader_item) l20 c20 k20).binds (ps := ["self", "value"]) fun _ _ _ _ _ _ us hl => match us, hl with | [_, _], _ => rfl,
    M_DataReader_item := ⟨a20, i20, k20⟩,
    F_DataReader_open_one := fun_mk (st := s_DataReader_open_one) l21 c21 k21,
    b_DataReader_open_one := (fun_mk (st := s_DataReader_open_one) l21 c21 k21).binds (ps := ["self"]) fun _ _ _ _ _ _ us hl => match us, hl with | [_], _ => rfl,
    M_DataReader_open_one := ⟨a21, i21, k21⟩,
    F_DataReader_close_one := fun_mk (st := s_DataReader_close_one) l22 c22 k22,
    b_DataReader_close_one := (fun_mk (st := s_DataReader_close_one) l22 c22 k22).binds (ps := ["self"]) fun _ _ _ _ _ _ us hl => match us, hl with | [_], _ => rfl,
    M_DataReader_close_one := ⟨a22, i22, k22⟩,
    F_DataReader_comma := fun_mk (st := s_DataReader_comma) l23 c23 k23,
    b_DataReader_comma := (fun_mk (st := s_DataReader_comma) l23 c23 k23).binds (ps := ["self"]) fun _ _ _ _ _ _ us hl => match us, hl with | [_], _ => rfl,
    M_DataReader_comma := ⟨a23, i23, k23⟩,
    F_DataReader_take := fun_mk (st := s_DataReader_take) l24 c24 k24,
    b_DataReader_take := (fun_mk (st := s_DataReader_take) l24 c24 k24).binds (ps := ["self", "piece"]) fun _ _ _ _ _ _ us hl => match us, hl with | [_, _], _ => rfl,
    M_DataReader_take := ⟨a24, i24, k24⟩,
    v_LETTERS := ⟨_, PySem.W.mg_of X G v_LETTERS⟩,
    v_DIGITS := ⟨_, PySem.W.mg_of X G v_DIGITS⟩,
    v_MOST_WORD := ⟨_, PySem.W.mg_of X G v_MOST_WORD⟩,
    v_MOST_DEPTH := ⟨_, PySem.W.mg_of X G v_MOST_DEPTH⟩,
    v_MOST_DIGITS := ⟨_, PySem.W.mg_of X G v_MOST_DIGITS⟩,
    v_SIGNS := PySem.W.mg_of X G v_SIGNS,
    D_SIGNS := ⟨_, _, _, _, _, _, _, _, D_SIGNS, K_SIGNS, S_SIGNS⟩,
    z_ValueError := PySem.W.mg_none_of X G z_ValueError,
    z_abs := PySem.W.mg_none_of X G z_abs,
    z_all := PySem.W.mg_none_of X G z_all,
    z_any := PySem.W.mg_none_of X G z_any,
    z_bool := PySem.W.mg_none_of X G z_bool,
    z_enumerate := PySem.W.mg_none_of X G z_enumerate,
    z_int := PySem.W.mg_none_of X G z_int,
    z_isinstance := PySem.W.mg_none_of X G z_isinstance,
    z_len := PySem.W.mg_none_of X G z_len,
    z_range := PySem.W.mg_none_of X G z_range,
    z_repr := PySem.W.mg_none_of X G z_repr,
    z_str := PySem.W.mg_none_of X G z_str,
    z_tuple := PySem.W.mg_none_of X G z_tuple,
    nd := ⟨nd1, nd2⟩
  }⟩
end K53

set_option Elab.async false
set_option linter.all false
set_option maxRecDepth 100000
set_option maxHeartbeats 4000000
namespace K53
open PySem PySem.Spec PyProof.Rows L2 KX Evl

/-! ### the plain functions -/
def isWhole : PyData → Bool | .int _ => true | _ => false
def wordL (l : List Nat) : Bool := decide (1 ≤ l.length) && decide (l.length ≤ 12) && (match l with | c :: _ => small c | [] => false) && l.all fun c => small c || digit c
def isWord : PyData → Bool | .str x => wordL x.cps.toList | _ => false
section
variable {P : Program} {w : World} {K : PySem.W.Frag} {mg : Str → Option Value} {base : Heap} {A : Ad}
theorem sc_is_whole : FnScope ["value"] ["value"] (defScope s_is_whole) := ⟨rfl, rfl, rfl, by decide +kernel, rfl, by decide +kernel, by decide +kernel⟩
theorem ok_is_whole (T : Txt w K mg A) : FnOk P w K mg base CX0 1 A.f_is_whole A.d_is_whole ["value"] (spD K (fun _ => True) fun d => .bl (isWhole d)) := by
  refine T.F_is_whole.ok sc_is_whole (fun vs H Q E h => ?_) (fun cdv Ar outer s H vs Q E hr h => ?_)
  · obtain ⟨v, d, rfl, _⟩ := h
    rfl
  obtain ⟨v, d, rfl, hd, _, k⟩ := h
  have nd := sc_is_whole.nd
  refine ⟨_, (pss_one (ps_ret (pe_and (pe_callB call_isi (by rfl) T.z_isinstance (by decide +kernel) (pa_cons (pv 0) (pa_cons (pe_bltn (v := .ty "int") (by rfl) T.z_int (by decide +kernel) rfl) pa_nil))) (pe_one (pe_not (pe_callB call_isi (by rfl) T.z_isinstance (by decide +kernel) (pa_cons (pv 0) (pa_cons (pe_bltn (v := .ty "bool") (by rfl) T.z_bool (by decide +kernel) rfl) pa_nil)))))))), ?_⟩
  refine s_ret (v := .bl (isWhole d)) ?_ k
  refine ev_is (ev_andV (ev_isi (ev_var rfl) hd (kit_int d)) fun _ => ev_notV (ev_isi (ev_var rfl) hd (kit_bool d))) ?_
  cases d <;> rfl
/-- texts are not too long -/
def ShortS : PyData → Prop | .str x => x.length ≤ 100000 | _ => True
theorem sc_is_word : FnScope ["value", "sign"] ["value"] (defScope s_is_word) := ⟨rfl, rfl, rfl, by decide +kernel, rfl, by decide +kernel, by decide +kernel⟩
theorem ok_is_word (T : Txt w K mg A) : FnOk P w K mg base CX0 1 A.f_is_word A.d_is_word ["value"] (spD K ShortS fun d => .bl (isWord d)) := by
  refine T.F_is_word.ok sc_is_word (fun vs H Q E h => ?_) (fun cdv Ar outer s H vs Q E hr h => ?_)
  · obtain ⟨v, d, rfl, _⟩ := h
    rfl
  obtain ⟨v, d, rfl, hd, hS, k⟩ := h
  have nd := sc_is_word.nd
  obtain ⟨_, v_LETTERS⟩ := T.v_LETTERS
  obtain ⟨_, v_DIGITS⟩ := T.v_DIGITS
  obtain ⟨_, v_MOST_WORD⟩ := T.v_MOST_WORD
  refine ⟨_, (pss_cons (ps_if (PW.pt (pw_or (pt_not (pt_val (pe_callB call_isi (by rfl) T.z_isinstance (by decide +kernel) (pa_cons (pv 0) (pa_cons (pe_bltn (v := .ty "str") (by rfl) T.z_str (by decide +kernel) rfl) pa_nil))))) (pw_or (pt_not (pt_chain op_le op_le pe_int (pe_callB call_len_str (by rfl) T.z_len (by decide +kernel) (pa_cons (pv 0) pa_nil)) (pe_glob (v := .int 12) (by rfl) v_MOST_WORD ⟨_, rfl⟩))) (pw_or1 (pt_cmpR op_notIn_sign (pe_ix ix_str (pv 0) pe_int (fun _ _ => rfl)) (pe_glob (v := .str "abcdefghijklmnopqrstuvwxyz") (by rfl) v_LETTERS ⟨_, rfl⟩) rfl))))) (pss_one (ps_ret pe_bl)) pss_nil)
      (pss_one (ps_ret (pe_callB (cr_all rfl) (by rfl) T.z_all (by decide +kernel) (pa_cons (pe_lc (own := [("sign", 1)]) (g := (gName 1)) (tt := tYes) (by rfl) nd (pi_str (pv 0)) (blkOk_by (own := [("sign", 1)]) (N := ["value", "sign"]) (sc := defScope s_is_word) (by decide +kernel)) (fun _ _ _ _ _ => (pg_name (i := 1) nd rfl (Or.inl rfl))) (fun _ _ _ _ _ => pts_nil) (fun _ _ _ _ _ => (pe_or (pe_cmpR op_in_sign (pv 1) (pe_glob (v := .str "abcdefghijklmnopqrstuvwxyz") (by rfl) v_LETTERS ⟨_, rfl⟩) rfl) (pe_one (pe_cmpR op_in_sign (pv 1) (pe_glob (v := .str "0123456789") (by rfl) v_DIGITS ⟨_, rfl⟩) rfl))))) pa_nil))))), ?_⟩
  by_cases hs : is_str d = true
  · obtain ⟨x, rfl⟩ := str_of hs
    cases hd
    have hz : x.length ≤ sizeLine := Nat.le_trans hS (by decide)
    have len := len_cps x
    have yes := fun H1 (e : Ex H H1) => kit_str (.str x)
    by_cases h1 : 1 ≤ x.length
    · obtain ⟨c, r, hl⟩ : ∃ c r, x.cps.toList = c :: r := by
        cases q : x.cps.toList with
        | nil => rw [len, q] at h1; simp at h1
        | cons c r => exact ⟨c, r, rfl⟩
      refine q_when (b := !decide (x.length ≤ 12) || !small c) ?_ (fun hb H1 e => s_ret ev_c fun H2 e2 => ?_) (fun hb H1 e => ?_)
      · refine et_is (et_or (a := false) (et_is (et_not (et_B (ev_isi (ev_var rfl) (.str x) (kit_str _)))) rfl) fun _ => ?_) (Bool.false_or _)
        refine et_or (et_not (et_test (ev_chainT ev_c (ev_lenS (ev_var rfl) hz) ev_c (rv_leT (decide_eq_true (by omega))) (rv_leT ?_)))) fun _ => et_test ?_
        · exact decide_eq_decide.mpr (by omega)
        · exact ev_is (ev_op (ev_op (ev_var rfl) ev_c (ixS_nat (i := 0) hz (by rw [hl]; rfl))) ev_c rv_niS) (by rw [in_letters])
      · have e0 : isWord (.str x) = false := by
          show wordL x.cps.toList = false
          unfold wordL
          rw [len, hl] at hb
          rw [hl]
          show (decide (1 ≤ (c :: r).length) && decide ((c :: r).length ≤ 12) && small c && _) = false
          generalize ((c :: r).all fun c => small c || digit c) = al
          revert hb
          cases decide ((c :: r).length ≤ 12) <;> cases small c <;> cases al <;> simp
        rw [← e0]
        exact k H2 (e.trans e2)
      · have e0 : isWord (.str x) = x.cps.toList.all fun c => small c || digit c := by
          show wordL x.cps.toList = _
          unfold wordL
          rw [len, hl] at hb
          rw [hl]
          have l1 : decide (1 ≤ (c :: r).length) = true := by simp
          show (decide (1 ≤ (c :: r).length) && decide ((c :: r).length ≤ 12) && small c && _) = _
          rw [l1]
          generalize ((c :: r).all fun c => small c || digit c) = al
          revert hb
          cases decide ((c :: r).length ≤ 12) <;> cases small c <;> simp
        refine s_ret (v := .bl (isWord (.str x))) (ev_is (ev_allN (bs := x.cps.toList.map fun c => small c || digit c) ?_) ?_) fun H2 e2 => k H2 (e.trans e2)
        · rw [List.map_map]
          refine el_lcS _ (ev_var rfl) hz (fun _ => rfl) fun c H3 e3 _ => ?_
          refine ev_is (ev_orV (ev_op (ev_var rfl) ev_c rv_inS) fun _ => ev_op (ev_var rfl) ev_c rv_inS) ?_
          rw [in_letters, in_digits]
          rfl
        · rw [e0, List.all_map]
          rfl
    · have l0 : x.cps.toList = [] := List.eq_nil_of_length_eq_zero (by omega)
      refine q_when (b := true) ?_ (fun hb H1 e => s_ret ev_c fun H2 e2 => ?_) (fun hb => nomatch hb)
      · refine et_is (et_or (a := false) (et_is (et_not (et_B (ev_isi (ev_var rfl) (.str x) (kit_str _)))) rfl) fun _ => ?_) (Bool.false_or _)
        exact et_or (a := true) (b := true) (et_is (et_not (et_test (ev_chain (k := false) (k' := true) ev_c (ev_lenS (ev_var rfl) hz) ev_c (rv_leT (decide_eq_false (by omega))) (rv_leT (decide_eq_true (by omega)))))) rfl) fun z => nomatch z
      · have e0 : isWord (.str x) = false := by
          show wordL x.cps.toList = false
          rw [l0]
          rfl
        rw [← e0]
        exact k H2 (e.trans e2)
  · refine q_when (b := true) ?_ (fun _ H1 e => s_ret ev_c fun H2 e2 => ?_) (fun z => nomatch z)
    · exact et_or (a := true) (b := true) (et_is (et_not (et_B (ev_isi (ev_var rfl) hd (kit_str d)))) (by simpa using hs)) fun z => nomatch z
    · have e0 : isWord d = false := by cases d <;> first | rfl | exact absurd rfl hs
      rw [← e0]
      exact k H2 (e.trans e2)
end
end K53

set_option Elab.async false
set_option linter.all false
set_option maxRecDepth 100000
set_option maxHeartbeats 4000000
namespace K53
open PySem PySem.Spec PyProof.Rows L2 KX Evl
/-! ### is_short -/
@[irreducible] def big (k : Nat) : Nat := 10 ^ (32 * k)
theorem big_succ (k : Nat) : big (k + 1) = big k * 10 ^ 32 := by
  unfold big
  rw [Nat.mul_succ, Nat.pow_add]
theorem big_mono {j k : Nat} (h : j ≤ k) : big j ≤ big k := by
  unfold big
  exact Nat.pow_le_pow_right (by decide) (Nat.mul_le_mul_left _ h)
theorem big_pos (k : Nat) : 0 < big k := by
  unfold big
  exact Nat.pow_pos (by decide)
theorem big_one : ((10 : Int) ^ (32 : Int).toNat) = ((big 1 : Nat) : Int) := by
  unfold big
  decide +kernel
theorem big_top : big 125 < 2 ^ 13300 := by
  unfold big
  decide +kernel
theorem whole_of : ∀ {d : PyData}, isWhole d = true → ∃ i, d = .int i
  | .int i, _ => ⟨i, rfl⟩
def isShort : PyData → Bool | .int i => decide (i.natAbs < big 125) | _ => false
theorem chain_abs (i : Int) (n : Nat) : (decide (-(n : Int) < i) && decide (i < (n : Int))) = decide (i.natAbs < n) := by
  rw [Bool.eq_iff_iff]
  simp only [Bool.and_eq_true, decide_eq_true_eq]
  omega
section
variable {P : Program} {w : World} {K : PySem.W.Frag} {mg : Str → Option Value} {base : Heap} {A : Ad}
theorem ev_between {σ : L2.St} {H : Hp} {ta tb tc : TE} {i : Int} {n : Nat} (ha : Ev ta σ H (.int (n : Int))) (hb : Ev tb σ H (.int i)) (hc : Ev tc σ H (.int (n : Int))) :
    Ev (tChain (rI0 fun i j => .bl (decide (i < j))) (rI0 fun i j => .bl (decide (i < j))) (tUn (rU fun i => .int (-i)) ta) tb tc) σ H (.bl (decide (i.natAbs < n))) :=
  ev_is (ev_chain (ev_un ha ru_neg) hb hc rv_I0 rv_I0) (congrArg V.bl (chain_abs i n))
theorem sc_is_short : FnScope ["value", "most", "_"] ["value"] (defScope s_is_short) := ⟨rfl, rfl, rfl, by decide +kernel, rfl, by decide +kernel, by decide +kernel⟩
theorem ok_is_short (T : Txt w K mg A) : FnOk P w K mg base CX0 2 A.f_is_short A.d_is_short ["value"] (spD K (fun _ => True) fun d => .bl (isShort d)) := by
  refine T.F_is_short.ok sc_is_short (fun vs H Q E h => ?_) (fun cdv Ar outer s H vs Q E hr h => ?_)
  · obtain ⟨v, d, rfl, _⟩ := h
    rfl
  obtain ⟨v, d, rfl, hd, _, k⟩ := h
  have nd := sc_is_short.nd
  have G_is_whole := ok_is_whole (P := P) (base := base) T
  have hr_is_whole := hr
  obtain ⟨_, v_MOST_DIGITS⟩ := T.v_MOST_DIGITS
  refine ⟨_, (pss_cons (ps_if (pt_not (pt_val (pe_call G_is_whole hr_is_whole (by rfl) T.m_is_whole T.F_is_whole.kp T.b_is_whole .nil pass0 (pa_cons (pv 0) pa_nil)))) (pss_one (ps_ret pe_bl)) pss_nil)
      (pss_cons (ps_set (i := 1) nd rfl (Or.inl rfl) (pe_op op_pow pe_int pe_int))
      (pss_cons (ps_if (pt_chain op_lt op_lt (pe_un un_neg (pv 1)) (pv 0) (pv 1)) (pss_one (ps_ret pe_bl)) pss_nil)
      (pss_cons (ps_for PassesOwn.never (by rfl) (pi_range1 (by rfl) T.z_range (pa_cons (pe_op op_sub (pe_op op_fdivN (pe_glob (v := .int 4000) (by rfl) v_MOST_DIGITS ⟨_, rfl⟩) pe_int) pe_int) pa_nil)) (pg_name (i := 2) nd rfl (Or.inl rfl))
        (pss_one (ps_aug (i := 1) nd rfl (Or.inl rfl) (pe_op op_pow pe_int pe_int) ip_mulW)))
      (pss_one (ps_ret (pe_chain op_lt op_lt (pe_un un_neg (pv 1)) (pv 0) (pv 1)))))))), ?_⟩
  refine q_when (b := !isWhole d) (et_not (et_B (ev_call (ea_cons (ev_var rfl) ea_nil) (spD_v (f := fun d => .bl (isWhole d)) hd trivial)))) (fun hb H1 e => s_ret ev_c fun H2 e2 => ?_) (fun hb H1 e1 => ?_)
  · have e0 : isShort d = false := by
      cases d with
      | int i => exact nomatch hb
      | _ => rfl
    rw [← e0]
    exact k H2 (e.trans e2)
  obtain ⟨i, rfl⟩ := whole_of (d := d) (by simpa using hb)
  cases hd
  refine q_asg (v := .int ((big 1 : Nat) : Int)) (ev_is (ev_op ev_c ev_c (rv_I ⟨by decide, by decide, by decide⟩)) (congrArg V.int big_one)) fun H2 e2 => ?_
  refine q_when (b := decide (i.natAbs < big 1)) (et_test (ev_between (ev_var rfl) (ev_var rfl) (ev_var rfl))) (fun hb H3 e3 => s_ret ev_c fun H4 e4 => ?_) (fun hb H3 e3 => ?_)
  · have e0 : isShort (.int i) = true := decide_eq_true (Nat.lt_of_lt_of_le (of_decide_eq_true hb) (big_mono (by decide)))
    rw [← e0]
    exact k H4 (((e1.trans e2).trans e3).trans e4)
  have e03 := (e1.trans e2).trans e3
  refine q_forR1 (n := 124) (ea_cons (ev_is (ev_op (ev_op ev_c ev_c (rv_I ⟨by decide, by decide⟩)) ev_c rv_I0) (by decide +kernel)) ea_nil) ⟨by decide, by decide⟩
    (fun t σ H' => Ex H H' ∧ ∃ v, σ = [some (.int i), some (.int ((big (t + 1) : Nat) : Int)), v]) (fun H4 e4 => ⟨e03.trans e4, _, rfl⟩) ?_ ?_
  · rintro t σ H' ht ⟨e5, v, rfl⟩
    refine ⟨_, rfl, ?_⟩
    refine (ev_is (ev_op ev_c ev_c (rv_I ⟨by decide, by decide, by decide⟩)) (congrArg V.int big_one) : Ev _ _ H' (.int ((big 1 : Nat) : Int))) H' (Ex.refl _) _ fun H6 e6 => ?_
    have ht' : t < 124 := by omega
    refine ⟨_, _, rfl, rfl, wide_mul (a := 13300) (b := 13300) ?_ ?_ (by decide) (by decide) (by decide), ?_⟩
    · rw [Int.natAbs_natCast]
      exact Nat.lt_of_le_of_lt (big_mono (by omega)) big_top
    · rw [Int.natAbs_natCast]
      exact Nat.lt_of_le_of_lt (big_mono (by decide)) big_top
    · refine ⟨e5.trans e6, some (.int (t : Int)), ?_⟩
      have e0 : ((big (t + 1) : Nat) : Int) * ((big 1 : Nat) : Int) = ((big (t + 1 + 1) : Nat) : Int) := by
        rw [big_succ (t + 1), ← Int.natCast_mul]
        have e1 : big 1 = 10 ^ 32 := by
          unfold big
          rfl
        rw [e1]
      show [some (V.int i), some (V.int (((big (t + 1) : Nat) : Int) * ((big 1 : Nat) : Int))), some (V.int (t : Int))] = _
      rw [e0]
  · rintro σ H' ⟨e5, v, rfl⟩
    exact s_ret (ev_between (ev_var rfl) (ev_var rfl) (ev_var rfl)) fun H6 e6 => k H6 (e5.trans e6)
end
end K53

set_option Elab.async false
set_option linter.all false
set_option maxRecDepth 100000
set_option maxHeartbeats 4000000
namespace K53
open PySem PySem.Spec PyProof.Rows L2 KX Evl
/-! ### atom_text -/
def atomText : PyData → Option Str
  | .bool b => some (if b then "+" else "-")
  | .str x => if isWord (.str x) then some x else if x = "" then some "." else none
  | .int i => if isShort (.int i) then some ((toString i : String) : Str) else none
  | _ => none
section
variable {P : Program} {w : World} {K : PySem.W.Frag} {mg : Str → Option Value} {base : Heap} {A : Ad}
theorem pow13300 : 2 ^ 13300 ≤ 10 ^ 4300 := by decide +kernel
def isEmpty : PyData → Bool | .str x => decide (x = "") | _ => true
theorem sc_atom_text : FnScope ["value"] ["value"] (defScope s_atom_text) := ⟨rfl, rfl, rfl, by decide +kernel, rfl, by decide +kernel, by decide +kernel⟩
theorem ok_atom_text (T : Txt w K mg A) : FnOk P w K mg base (L2.CX P w) 3 A.f_atom_text A.d_atom_text ["value"] (spR K A.c_Malformed ShortS fun d => (atomText d).map V.str) := by
  refine T.F_atom_text.okX sc_atom_text (fun vs H Q E h => ?_) (fun cdv Ar outer s H vs Q E hr h => ?_)
  · obtain ⟨v, d, rfl, _⟩ := h
    rfl
  obtain ⟨v, d, rfl, hd, hS, k, kE⟩ := h
  have nd := sc_atom_text.nd
  have G_is_word := ok_is_word (P := P) (base := base) T
  have G_is_short := ok_is_short (P := P) (base := base) T
  have hr_is_word := hr.mono (show 1 ≤ 2 by decide)
  have hr_is_short := hr
  have STR := (call_str_wide (X := cxOf (L2.CX P w) P w K mg base ["value"] "atom_text" (defScope s_atom_text) A.f_atom_text cdv Ar outer s H E) rfl T.nd).or SkE.call_str_str
  refine ⟨_, (pss_cons (ps_if (pt_val (pe_callB call_isi (by rfl) T.z_isinstance (by decide +kernel) (pa_cons (pv 0) (pa_cons (pe_bltn (v := .ty "bool") (by rfl) T.z_bool (by decide +kernel) rfl) pa_nil)))) (pss_one (ps_ret (pe_ifExp (pt_truth (pv 0) (by intro _; rfl)) pe_str pe_str))) pss_nil)
      (pss_cons (ps_if (PW.pt (pw_and (pt_not (pt_val (pe_call G_is_word hr_is_word (by rfl) T.m_is_word T.F_is_word.kp T.b_is_word .nil pass0 (pa_cons (pv 0) pa_nil)))) (pw_and (pt_not (pt_val (pe_call G_is_short hr_is_short (by rfl) T.m_is_short T.F_is_short.kp T.b_is_short .nil pass0 (pa_cons (pv 0) pa_nil)))) (pw_and1 (pt_not (PW.pt (pw_and (pt_val (pe_callB call_isi (by rfl) T.z_isinstance (by decide +kernel) (pa_cons (pv 0) (pa_cons (pe_bltn (v := .ty "str") (by rfl) T.z_str (by decide +kernel) rfl) pa_nil)))) (pw_and1 (pt_cmpR op_eq (pv 0) pe_str (nomark _)))))))))) (pss_one (ps_raise rfl (takes_of rfl rfl rfl rfl) (pmk_own PySem.F.excBase_ValueError T.x_Malformed T.g_Malformed T.k_Malformed (raises_own T.b_Malformed T.t_Malformed) (by exact rfl)))) pss_nil)
      (pss_one (ps_ret (pe_ifExp (pt_cmpR op_ne (pv 0) pe_str (nomark _)) (pe_callTy STR (by rfl) T.z_str (by decide +kernel) (pa_cons (pv 0) pa_nil)) pe_str))))), ?_⟩
  refine q_when (b := is_bool d) (et_B (ev_isi (ev_var rfl) hd (kit_bool d))) (fun hb H1 e1 => ?_) (fun hb H1 e1 => ?_)
  · obtain ⟨b, rfl⟩ : ∃ b, d = .bool b := by
      cases d with
      | bool b => exact ⟨b, rfl⟩
      | _ => exact nomatch hb
    cases hd
    refine s_ret (v := .str (if b then "+" else "-")) (ev_if (b := b) (et_tru (ev_var rfl) fun _ _ => rfl) (fun z => ?_) (fun z => ?_)) fun H2 e2 => k _ rfl H2 (e1.trans e2)
    · subst z
      exact ev_c
    · subst z
      exact ev_c
  have hE : isEmpty d = true → is_str d = true → d = .str "" := fun z1 z2 => by
    obtain ⟨x, rfl⟩ := str_of z2
    exact congrArg PyData.str (of_decide_eq_true z1)
  refine q_when (b := !isWord d && (!isShort d && !(is_str d && isEmpty d))) (et_and (et_not (et_B (ev_call (ea_cons (ev_var rfl) ea_nil) (spD_v (f := fun d => .bl (isWord d)) (dp_mono e1 hd) hS)))) fun _ =>
    et_and (et_not (et_B (ev_call (ea_cons (ev_var rfl) ea_nil) (spD_v (f := fun d => .bl (isShort d)) (dp_mono e1 hd) trivial)))) fun _ => et_not (et_and (et_B (ev_isi (ev_var rfl) (dp_mono e1 hd) (kit_str d))) fun z => ?_)) (fun hb2 H2 e2 => ?_) (fun hb2 H2 e2 => ?_)
  · obtain ⟨x, rfl⟩ := str_of z
    cases hd
    exact et_test (ev_op (ev_var rfl) ev_c (rv_bl (rv_eq rfl) (decide_eq_decide.mpr ⟨fun q => V.str.inj q, fun q => congrArg V.str q⟩)))
  · refine kE ?_ H2 (e1.trans e2)
    rw [Bool.and_eq_true, Bool.and_eq_true] at hb2
    obtain ⟨q1, q2, q3⟩ := hb2
    cases d with
    | bool b => exact nomatch hb
    | str x =>
      have w0 : isWord (.str x) = false := by simpa using q1
      have n0 : ¬ x = "" := fun z => by
        subst z
        exact nomatch q3
      show ((if isWord (.str x) then some x else if x = "" then some "." else none) : Option Str).map V.str = none
      rw [w0, if_neg Bool.false_ne_true, if_neg n0]
      rfl
    | int i =>
      have w0 : isShort (.int i) = false := by simpa using q2
      show ((if isShort (.int i) then some ((toString i : String) : Str) else none) : Option Str).map V.str = none
      rw [w0, if_neg Bool.false_ne_true]
      rfl
    | _ => rfl
  · cases d with
    | bool b => exact nomatch hb
    | str x =>
      cases hd
      by_cases n0 : x = ""
      · subst n0
        refine s_ret (v := .str ".") (ev_if (b := false) (et_test (ev_op (ev_var rfl) ev_c (rv_bl (rv_ne rfl) (by decide +kernel)))) (fun z => nomatch z) (fun _ => ev_c)) fun H3 e3 => k _ ?_ H3 ((e1.trans e2).trans e3)
        decide +kernel
      · have w0 : isWord (.str x) = true := by
          have n1 : isEmpty (.str x) = false := decide_eq_false n0
          have n2 : isShort (.str x) = false := rfl
          rw [n1, n2] at hb2
          simpa using hb2
        refine s_ret (v := .str x) (ev_if (b := true) (et_test (ev_op (ev_var rfl) ev_c (rv_bl (rv_ne rfl) (by rw [decide_eq_false (fun q => n0 (V.str.inj q))]; rfl)))) (fun _ => ev_cb (ea_cons (ev_var rfl) ea_nil) fun H3 e3 Q q => .inr ⟨x, rfl, q H3 (Ex.refl _)⟩) (fun z => nomatch z)) fun H3 e3 => k _ ?_ H3 ((e1.trans e2).trans e3)
        show ((if isWord (.str x) then some x else if x = "" then some "." else none) : Option Str).map V.str = some (.str x)
        rw [w0, if_pos rfl]
        rfl
    | int i =>
      cases hd
      have w0 : isShort (.int i) = true := by
        have z : (!isWord (.int i) && (!isShort (.int i) && !(is_str (.int i) && isEmpty (.int i)))) = !isShort (.int i) := by
          show (true && (!isShort (.int i) && true)) = _
          rw [Bool.true_and, Bool.and_true]
        rw [z] at hb2
        simpa using hb2
      have lim : i.natAbs < 10 ^ 4300 := Nat.lt_trans (of_decide_eq_true w0) (Nat.lt_of_lt_of_le big_top pow13300)
      refine s_ret (v := .str ((toString i : String) : Str)) (ev_if (b := true) (et_test (ev_op (ev_var rfl) ev_c (rv_bl (rv_ne rfl) (by rw [decide_eq_false (fun q => nomatch q)]; rfl)))) (fun _ => ev_cb (ea_cons (ev_var rfl) ea_nil) fun H3 e3 Q q => .inl ⟨i, rfl, lim, q H3 (Ex.refl _)⟩) (fun z => nomatch z)) fun H3 e3 => k _ ?_ H3 ((e1.trans e2).trans e3)
      show ((if isShort (.int i) then some ((toString i : String) : Str) else none) : Option Str).map V.str = some _
      rw [w0, if_pos rfl]
      rfl
    | none => exact nomatch hb2
    | list xs => exact nomatch hb2
    | tuple xs => exact nomatch hb2
    | dict xs => cases hd
end
end K53

set_option Elab.async false
set_option linter.all false
set_option maxRecDepth 100000
set_option maxHeartbeats 4000000
namespace K53
open PySem PySem.Spec PyProof.Rows L2 KX Evl
/-! ### read_whole -/
def bodyL (l : List Nat) : List Nat := if l.take 1 = [45] then l.drop 1 else l
def wholeOk (l : List Nat) : Bool := decide (1 ≤ (bodyL l).length) && decide ((bodyL l).length ≤ 4000) && (bodyL l).all digit && !(decide ((bodyL l).take 1 = [48]) && !decide (l = [48]))
def wholeVal (l : List Nat) : Int := if l.take 1 = [45] then -((NumText.digitsVal (bodyL l) : Nat) : Int) else ((NumText.digitsVal (bodyL l) : Nat) : Int)
def readWhole (l : List Nat) : Option Int := if wholeOk l then some (wholeVal l) else none
section
variable {P : Program} {w : World} {K : PySem.W.Frag} {mg : Str → Option Value} {base : Heap} {A : Ad}
theorem sc_read_whole : FnScope ["text", "body", "sign"] ["text"] (defScope s_read_whole) := ⟨rfl, rfl, rfl, by decide +kernel, rfl, by decide +kernel, by decide +kernel⟩
theorem ok_read_whole (T : Txt w K mg A) : FnOk P w K mg base (L2.CX P w) 1 A.f_read_whole A.d_read_whole ["text"] (spS A.c_Malformed (fun l => l.length ≤ 100000) fun l => (readWhole l).map V.int) := by
  refine T.F_read_whole.okX sc_read_whole (fun vs H Q E h => ?_) (fun cdv Ar outer s H vs Q E hr h => ?_)
  · obtain ⟨l, rfl, _⟩ := h
    rfl
  obtain ⟨l, rfl, hl, k, kE⟩ := h
  have nd := sc_read_whole.nd
  obtain ⟨_, v_DIGITS⟩ := T.v_DIGITS
  obtain ⟨_, v_MOST_DIGITS⟩ := T.v_MOST_DIGITS
  have hz : (S l).length ≤ sizeLine := by rw [S_len]; exact sz_of hl
  refine ⟨_, (pss_cons (ps_set (i := 1) nd rfl (Or.inl rfl) (pe_ifExp (pt_cmpR op_eq (pe_slice sl_str (pv 0) po_none (po_some pe_int)) pe_str (nomark _)) (pe_slice sl_str (pv 0) (po_some pe_int) po_none) (pv 0)))
      (pss_cons (ps_if (PW.pt (pw_or (pt_not (pt_chain op_le op_le pe_int (pe_callB call_len_str (by rfl) T.z_len (by decide +kernel) (pa_cons (pv 1) pa_nil)) (pe_glob (v := .int 4000) (by rfl) v_MOST_DIGITS ⟨_, rfl⟩))) (pw_or1 (pt_not (pt_val (pe_callB (cr_all rfl) (by rfl) T.z_all (by decide +kernel) (pa_cons (pe_lc (own := [("sign", 2)]) (g := (gName 2)) (tt := tYes) (by rfl) nd (pi_str (pv 1)) (blkOk_by (own := [("sign", 2)]) (N := ["text", "body", "sign"]) (sc := defScope s_read_whole) (by decide +kernel)) (fun _ _ _ _ _ => (pg_name (i := 2) nd rfl (Or.inl rfl))) (fun _ _ _ _ _ => pts_nil) (fun _ _ _ _ _ => (pe_cmpR op_in_sign (pv 2) (pe_glob (v := .str "0123456789") (by rfl) v_DIGITS ⟨_, rfl⟩) rfl))) pa_nil))))))) (pss_one (ps_raise rfl (takes_of rfl rfl rfl rfl) (pmk_own PySem.F.excBase_ValueError T.x_Malformed T.g_Malformed T.k_Malformed (raises_own T.b_Malformed T.t_Malformed) (by exact rfl)))) pss_nil)
      (pss_cons (ps_if (PW.pt (pw_and (pt_cmpR op_eq (pe_ix ix_str (pv 1) pe_int (fun _ _ => rfl)) pe_str (nomark _)) (pw_and1 (pt_cmpR op_ne (pv 0) pe_str (nomark _))))) (pss_one (ps_raise rfl (takes_of rfl rfl rfl rfl) (pmk_own PySem.F.excBase_ValueError T.x_Malformed T.g_Malformed T.k_Malformed (raises_own T.b_Malformed T.t_Malformed) (by exact rfl)))) pss_nil)
      (pss_one (ps_ret (pe_callTy (call_int_text T.nd) (by rfl) T.z_int (by decide +kernel) (pa_cons (pv 0) pa_nil))))))), ?_⟩
  have e1 : cutS (S l) none (some 1) = S (l.take 1) := cut_to l 1
  have e2 : cutS (S l) (some 1) none = S (l.drop 1) := cut_from l 1
  have bl : (bodyL l).length ≤ 100000 := by
    unfold bodyL
    split
    · rw [List.length_drop]; omega
    · exact hl
  have bz : (S (bodyL l)).length ≤ sizeLine := by rw [S_len]; exact sz_of bl
  refine q_asg (v := .str (S (bodyL l))) (ev_if (b := decide (l.take 1 = [45])) (et_test (ev_op (ev_is (ev_sl (ev_var rfl) eo_none (eo_some ev_c) hz) (congrArg V.str e1)) ev_c (rv_eqS (b := [45])))) (fun z => ev_is (ev_sl (ev_var rfl) (eo_some ev_c) eo_none hz) ?_) (fun z => ev_is (ev_var rfl) ?_)) fun H1 x1 => ?_
  · rw [e2]
    unfold bodyL
    rw [if_pos (of_decide_eq_true z)]
  · unfold bodyL
    rw [if_neg (of_decide_eq_false z)]
  refine q_when (b := !(decide (1 ≤ (bodyL l).length) && decide ((bodyL l).length ≤ 4000)) || !(bodyL l).all digit) (et_or (et_not (et_test (ev_chain ev_c (ev_lenL (K := K) (ev_var rfl) (sz_of bl)) ev_c (rv_leT (decide_eq_decide.mpr (by omega))) (rv_leT (decide_eq_decide.mpr (by omega)))))) fun hn => et_not (et_B (ev_is (ev_allN (bs := (bodyL l).map digit) ?_) ?_))) (fun hb H2 x2 => ?_) (fun hb H2 x2 => ?_)
  · rw [List.map_map]
    refine el_lcS (z := S (bodyL l)) _ (ev_var rfl) bz (fun _ => rfl) fun c H3 e3 _ => ?_
    exact ev_is (ev_op (ev_var rfl) ev_c rv_inS) (by rw [in_digits]; rfl)
  · rw [List.all_map]
    rfl
  · refine kE ?_ H2 (x1.trans x2)
    have e0 : wholeOk l = false := by
      unfold wholeOk
      revert hb
      generalize (bodyL l).all digit = al
      cases decide (1 ≤ (bodyL l).length) <;> cases decide ((bodyL l).length ≤ 4000) <;> cases al <;> simp
    show (readWhole l).map V.int = none
    unfold readWhole
    rw [e0]
    rfl
  have x12 := x1.trans x2
  obtain ⟨hb1, hb2, hb3⟩ : 1 ≤ (bodyL l).length ∧ (bodyL l).length ≤ 4000 ∧ (bodyL l).all digit = true := by
    revert hb
    generalize (bodyL l).all digit = al
    by_cases q1 : 1 ≤ (bodyL l).length <;> by_cases q2 : (bodyL l).length ≤ 4000 <;> cases al <;> simp [q1, q2]
  obtain ⟨c, r, hcr⟩ : ∃ c r, bodyL l = c :: r := by
    cases q : bodyL l with
    | nil => rw [q] at hb1; simp at hb1
    | cons c r => exact ⟨c, r, rfl⟩
  refine q_when (b := decide ((bodyL l).take 1 = [48]) && !decide (l = [48])) (et_and (et_test (ev_is (ev_op (ev_op (ev_var rfl) ev_c (ixS_nat (i := 0) bz (by rw [S_cps, hcr]; rfl))) ev_c (rv_eqS (a := [c]) (b := [48]))) ?_)) fun hn => et_test (ev_op (ev_var rfl) ev_c (rv_neS (b := [48])))) (fun hb H3 x3 => ?_) (fun hb H3 x3 => ?_)
  · rw [hcr]
    rfl
  · refine kE ?_ H3 (x12.trans x3)
    have e0 : wholeOk l = false := by
      unfold wholeOk
      rw [hb]
      simp
    show (readWhole l).map V.int = none
    unfold readWhole
    rw [e0]
    rfl
  · have e0 : wholeOk l = true := by
      unfold wholeOk
      rw [hb, hb3, decide_eq_true hb1, decide_eq_true hb2]
      rfl
    have ad : NumText.AllDigits (bodyL l) := fun d hd => by
      have q := List.all_eq_true.mp hb3 d hd
      simpa [digit] using q
    have ne : bodyL l ≠ [] := by rw [hcr]; simp
    have it : intText? (S l) = some (wholeVal l) ∧ ∀ d ∈ (S l).cps.toList, d ≠ 0 ∧ d < 128 := by
      unfold wholeVal
      by_cases q : l.take 1 = [45]
      · rw [if_pos q]
        have eb : bodyL l = l.drop 1 := by unfold bodyL; rw [if_pos q]
        have el : l = 45 :: bodyL l := by
          rw [eb]
          have z := List.take_append_drop 1 l
          rw [q] at z
          exact z.symm
        have hlen : (S l).length ≤ 4300 := by
          rw [S_len, el, List.length_cons]
          omega
        refine ⟨intText_neg (x := S l) (cs := bodyL l) el ad ne hlen, fun d hd => ?_⟩
        rw [S_cps, el] at hd
        rcases List.mem_cons.mp hd with z | z
        · omega
        · have := ad d z
          omega
      · rw [if_neg q]
        have eb : bodyL l = l := by unfold bodyL; rw [if_neg q]
        rw [eb] at ad ne hb2 ⊢
        refine ⟨intText_digits (x := S l) ad ne (by rw [S_len]; omega), fun d hd => ?_⟩
        have := ad d hd
        omega
    refine s_ret (v := .int (wholeVal l)) (ev_cb (ea_cons (ev_var rfl) ea_nil) fun H4 e4 Q q => ⟨S l, _, rfl, it.1, hz, it.2, q H4 (Ex.refl _)⟩) fun H4 e4 => k _ ?_ H4 ((x12.trans x3).trans e4)
    show (readWhole l).map V.int = _
    unfold readWhole
    rw [e0]
    rfl
end
end K53

set_option autoImplicit false
set_option Elab.async false
set_option linter.all false
set_option maxRecDepth 100000
set_option maxHeartbeats 4000000
namespace K53
open PySem PySem.Spec PyProof.Rows L2 KX Evl
/-! ### read_atom -/
def signOf (l : List Nat) : Option PyData := if l = [43] then some (.bool true) else if l = [45] then some (.bool false) else if l = [46] then some (.str "") else none
def readAtom (l : List Nat) : Option PyData := match signOf l with
  | some d => some d
  | none => if wordL l then some (.str (S l)) else (readWhole l).map .int
/-- an atom as a value -/
def vOf : PyData → V | .bool b => .bl b | .str x => .str x | .int i => .int i | _ => .non
section
variable {P : Program} {w : World} {K : PySem.W.Frag} {mg : Str → Option Value} {base : Heap} {A : Ad}
theorem in_signs {d : Addr} {n : Nat} {h0 h1 h2 : Int} {t0 t1 t2 u2 : Tok} (D : KDict K w d #[{ hash := h0, key := .str "+" t0, val := .bool true }, { hash := h1, key := .str "-" t1, val := .bool false }, { hash := h2, key := .str "." t2, val := .str "" u2 }] n) (l : List Nat) :
    PySem.W.nsIn K d (S l) = some (if l = [43] then some (.bool true) else if l = [45] then some (.bool false) else if l = [46] then some (.str "" u2) else none) := by
  unfold PySem.W.nsIn
  rw [D.at_]
  have k0 : (Value.str "+" t0).isStr (S l) = decide (l = [43]) := by
    show ((("+" : Str) : Str) == S l) = _
    rw [Bool.eq_iff_iff, beq_iff_eq, decide_eq_true_eq]
    exact ⟨fun q => (S_inj (a := [43]) q).symm, fun q => by rw [q]; rfl⟩
  have k1 : (Value.str "-" t1).isStr (S l) = decide (l = [45]) := by
    show ((("-" : Str) : Str) == S l) = _
    rw [Bool.eq_iff_iff, beq_iff_eq, decide_eq_true_eq]
    exact ⟨fun q => (S_inj (a := [45]) q).symm, fun q => by rw [q]; rfl⟩
  have k2 : (Value.str "." t2).isStr (S l) = decide (l = [46]) := by
    show ((("." : Str) : Str) == S l) = _
    rw [Bool.eq_iff_iff, beq_iff_eq, decide_eq_true_eq]
    exact ⟨fun q => (S_inj (a := [46]) q).symm, fun q => by rw [q]; rfl⟩
  simp only [List.find?_cons, k0, k1, k2]
  by_cases q0 : l = [43]
  · simp [q0]
  · by_cases q1 : l = [45]
    · simp [q1]
    · by_cases q2 : l = [46]
      · simp [q2]
      · simp [q0, q1, q2, DictEntry.refKey]
theorem sc_read_atom : FnScope ["piece"] ["piece"] (defScope s_read_atom) := ⟨rfl, rfl, rfl, by decide +kernel, rfl, by decide +kernel, by decide +kernel⟩
theorem ok_read_atom (T : Txt w K mg A) : FnOk P w K mg base (L2.CX P w) 2 A.f_read_atom A.d_read_atom ["piece"] (spS A.c_Malformed (fun l => l.length ≤ 100000) fun l => (readAtom l).map vOf) := by
  refine T.F_read_atom.okX sc_read_atom (fun vs H Q E h => ?_) (fun cdv Ar outer s H vs Q E hr h => ?_)
  · obtain ⟨l, rfl, _⟩ := h
    rfl
  obtain ⟨l, rfl, hl, k, kE⟩ := h
  have nd := sc_read_atom.nd
  have G_is_word := ok_is_word (P := P) (base := base) T
  have G_read_whole := ok_read_whole (P := P) (base := base) T
  have hr_is_word := hr
  have hr_read_whole := hr
  obtain ⟨_, _, _, _, _, _, _, u2, D_SIGNS⟩ := T.D_SIGNS
  refine ⟨_, (pss_cons (ps_if (pt_cmpR (op_in_kd D_SIGNS) (pv 0) (pe_glob (v := .ref A.a_SIGNS) (by rfl) T.v_SIGNS rfl) rfl) (pss_one (ps_ret (pe_ix ix_kdict (pe_glob (v := .ref A.a_SIGNS) (by rfl) T.v_SIGNS rfl) (pv 0) (fun _ _ => rfl)))) pss_nil)
      (pss_one (ps_ret (pe_ifExp (pt_val (pe_call G_is_word hr_is_word (by rfl) T.m_is_word T.F_is_word.kp T.b_is_word .nil pass0 (pa_cons (pv 0) pa_nil))) (pv 0) (pe_call G_read_whole hr_read_whole (by rfl) T.m_read_whole T.F_read_whole.kp T.b_read_whole .nil (passes_call (takes_of rfl rfl rfl rfl) (fun _ _ _ _ h => h)) (pa_cons (pv 0) pa_nil)))))), ?_⟩
  have look := in_signs D_SIGNS l
  have kd : ∀ {u : Value} {v : V}, (if l = [43] then some (Value.bool true) else if l = [45] then some (Value.bool false) else if l = [46] then some (Value.str "" u2) else none) = some u → RelV v u → KDct K w A.a_SIGNS (S l) v := fun {u v} e r => ⟨_, _, u, D_SIGNS.at_, D_SIGNS.lit, by rw [look, e], r⟩
  refine q_when (b := (signOf l).isSome) (et_test (ev_op (ev_var rfl) ev_c (z := .bl (signOf l).isSome) (fun H1 _ Q q => ⟨S l, _, rfl, rfl, look, ?_⟩))) (fun hb H1 e1 => ?_) (fun hb H1 e1 => ?_)
  · have e0 : (if l = [43] then some (Value.bool true) else if l = [45] then some (Value.bool false) else if l = [46] then some (Value.str "" u2) else none).isSome = (signOf l).isSome := by
      unfold signOf
      by_cases q0 : l = [43]
      · rw [if_pos q0, if_pos q0]; rfl
      · by_cases q1 : l = [45]
        · rw [if_neg q0, if_neg q0, if_pos q1, if_pos q1]; rfl
        · by_cases q2 : l = [46]
          · rw [if_neg q0, if_neg q0, if_neg q1, if_neg q1, if_pos q2, if_pos q2]; rfl
          · rw [if_neg q0, if_neg q0, if_neg q1, if_neg q1, if_neg q2, if_neg q2]; rfl
    rw [e0]
    exact q H1 (Ex.refl _)
  · obtain ⟨d, hd⟩ := Option.isSome_iff_exists.mp hb
    have get : KDct K w A.a_SIGNS (S l) (vOf d) := by
      unfold signOf at hd
      by_cases q0 : l = [43]
      · rw [if_pos q0] at hd
        cases hd
        exact kd (if_pos q0) rfl
      · by_cases q1 : l = [45]
        · rw [if_neg q0, if_pos q1] at hd
          cases hd
          exact kd ((if_neg q0).trans (if_pos q1)) rfl
        · by_cases q2 : l = [46]
          · rw [if_neg q0, if_neg q1, if_pos q2] at hd
            cases hd
            exact kd ((if_neg q0).trans ((if_neg q1).trans (if_pos q2))) ⟨u2, rfl⟩
          · rw [if_neg q0, if_neg q1, if_neg q2] at hd
            cases hd
    refine s_ret (v := vOf d) (ev_op ev_c (ev_var rfl) fun H2 _ Q q => ⟨_, S l, _, rfl, rfl, get, q H2 (Ex.refl _)⟩) fun H2 e2 => k _ ?_ H2 (e1.trans e2)
    show (readAtom l).map vOf = _
    unfold readAtom
    rw [hd]
    rfl
  · have hn : signOf l = none := by
      cases q : signOf l with
      | none => rfl
      | some d => rw [q] at hb; exact nomatch hb
    refine (et_B (ev_call (ea_cons (ev_var rfl) ea_nil) (spD_v (f := fun d => .bl (isWord d)) (.str (S l)) (show (S l).length ≤ 100000 by rw [S_len]; exact hl))) : EvT _ _ H1 (wordL l)) H1 (Ex.refl _) _ fun H2 e2 => ?_
    cases hw : wordL l with
    | true =>
      refine iteT ⟨_, rfl, k _ ?_ H2 (e1.trans e2)⟩
      show (readAtom l).map vOf = _
      unfold readAtom
      rw [hn, hw]
      rfl
    | false =>
      have e0 : (readAtom l).map vOf = (readWhole l).map V.int := by
        unfold readAtom
        rw [hn, hw]
        show ((readWhole l).map PyData.int).map vOf = _
        cases readWhole l <;> rfl
      refine iteF ⟨_, rfl, l, rfl, hl, fun r hr H3 e3 => k r (e0.trans hr) H3 ((e1.trans e2).trans e3), fun hr H3 e3 => kE (e0.trans hr) H3 ((e1.trans e2).trans e3)⟩
end
end K53

set_option autoImplicit false
set_option Elab.async false
set_option linter.all false
set_option maxRecDepth 100000
set_option maxHeartbeats 4000000
namespace K53
open PySem PySem.Spec PyProof.Rows L2 KX Evl
/-! ### pieces_of -/
def sep (c : Nat) : Bool := decide (c = 91) || decide (c = 93) || decide (c = 44)
/-- the pieces so far, the piece that is open -/
def pStep (s : List (List Nat) × List Nat) (c : Nat) : List (List Nat) × List Nat := if sep c then ((if s.2 = [] then s.1 else s.1 ++ [s.2]) ++ [[c]], []) else (s.1, s.2 ++ [c])
def pRun (l : List Nat) : List (List Nat) × List Nat := l.foldl pStep ([], [])
def pieces (l : List Nat) : List (List Nat) := (pRun l).1 ++ (if (pRun l).2 = [] then [] else [(pRun l).2])
theorem in_sep (c : Nat) : decide (c ∈ (Str.ofString "[],").cps.toList) = sep c := by
  have e : (Str.ofString "[],").cps.toList = [91, 93, 44] := by decide +kernel
  rw [e, Bool.eq_iff_iff]
  simp only [sep, decide_eq_true_eq, Bool.or_eq_true, List.mem_cons, List.not_mem_nil, or_false]
  omega
theorem pRun_snoc (l : List Nat) (c : Nat) : pRun (l ++ [c]) = pStep (pRun l) c := by
  unfold pRun
  rw [List.foldl_append]
  rfl
theorem pRun_suffix (l : List Nat) : ∃ a, l = a ++ (pRun l).2 := by
  have : ∀ n, ∀ l : List Nat, l.length = n → ∃ a, l = a ++ (pRun l).2 := by
    intro n
    induction n with
    | zero => intro l h; exact ⟨[], by rw [List.eq_nil_of_length_eq_zero h]; rfl⟩
    | succ n ih =>
      intro l h
      have ne : l ≠ [] := by intro z; rw [z] at h; simp at h
      have e := List.dropLast_concat_getLast ne
      obtain ⟨a, ha⟩ := ih l.dropLast (by rw [List.length_dropLast, h]; rfl)
      rw [← e, pRun_snoc]
      unfold pStep
      by_cases hs : sep (l.getLast ne) = true
      · rw [if_pos hs]
        exact ⟨_, (List.append_nil _).symm⟩
      · rw [if_neg hs]
        refine ⟨a, ?_⟩
        show l.dropLast ++ [l.getLast ne] = a ++ ((pRun l.dropLast).2 ++ [l.getLast ne])
        rw [← List.append_assoc, ← ha]
  exact this _ l rfl
theorem pRun_len (l : List Nat) : (pRun l).2.length ≤ l.length := by
  obtain ⟨a, h⟩ := pRun_suffix l
  have := congrArg List.length h
  rw [List.length_append] at this
  omega
theorem pRun_open (l : List Nat) : l.drop (l.length - (pRun l).2.length) = (pRun l).2 := by
  obtain ⟨a, h⟩ := pRun_suffix l
  have hl := congrArg List.length h
  rw [List.length_append] at hl
  have e : l.length - (pRun l).2.length = a.length := by omega
  rw [e]
  conv => lhs; rw [h]
  exact List.drop_left
theorem pRun_count (l : List Nat) : (pRun l).1.length ≤ 2 * l.length ∧ ((pRun l).2 ≠ [] → (pRun l).1.length + 1 ≤ 2 * l.length) := by
  have : ∀ n, ∀ l : List Nat, l.length = n → (pRun l).1.length + (pRun l).2.length ≤ 2 * n := by
    intro n
    induction n with
    | zero => intro l h; rw [List.eq_nil_of_length_eq_zero h]; exact Nat.le_refl _
    | succ n ih =>
      intro l h
      have ne : l ≠ [] := by intro z; rw [z] at h; simp at h
      have q := ih l.dropLast (by rw [List.length_dropLast, h]; rfl)
      rw [← List.dropLast_concat_getLast ne, pRun_snoc]
      unfold pStep
      by_cases hs : sep (l.getLast ne) = true
      · rw [if_pos hs]
        by_cases h2 : (pRun l.dropLast).2 = []
        · rw [h2, if_pos rfl]
          simp only [List.length_append, List.length_cons, List.length_nil]
          omega
        · rw [if_neg h2]
          have : 0 < (pRun l.dropLast).2.length := List.length_pos_iff.mpr h2
          simp only [List.length_append, List.length_cons, List.length_nil]
          omega
      · rw [if_neg hs]
        simp only [List.length_append, List.length_cons, List.length_nil]
        omega
  have q := this _ l rfl
  refine ⟨by omega, fun h => ?_⟩
  have : 0 < (pRun l).2.length := List.length_pos_iff.mpr h
  omega
def strV (l : List Nat) : V := .str (S l)
def spPieces : Sp := fun vs H Q _ => ∃ l, vs = [.str (S l)] ∧ l.length ≤ 40000 ∧ ∀ p H', H p = none → Ex H H' → H' p = some (.lst ((pieces l).map strV)) → Q (.ref p) H'
section
variable {P : Program} {w : World} {K : PySem.W.Frag} {mg : Str → Option Value} {base : Heap} {A : Ad}
theorem sc_pieces_of : FnScope ["text", "found", "start", "place", "sign"] ["text"] (defScope s_pieces_of) := ⟨rfl, rfl, rfl, by decide +kernel, rfl, by decide +kernel, by decide +kernel⟩
theorem ok_pieces_of (T : Txt w K mg A) : FnOk P w K mg base CX0 1 A.f_pieces_of A.d_pieces_of ["text"] spPieces := by
  refine T.F_pieces_of.ok sc_pieces_of (fun vs H Q E h => ?_) (fun cdv Ar outer s H vs Q E hr h => ?_)
  · obtain ⟨l, rfl, _⟩ := h
    rfl
  obtain ⟨l, rfl, hl, k⟩ := h
  have nd := sc_pieces_of.nd
  have hz : (S l).length ≤ sizeLine := by rw [S_len]; exact sz_of (Nat.le_trans hl (by decide))
  refine ⟨_, (pss_cons (ps_par (i := 1) (j := 2) (by rfl) nd rfl rfl (by decide) rfl rfl (pa_cons (pe_lst pa_nil) (pa_cons pe_int pa_nil)) (by rfl))
      (pss_cons (ps_for PassesOwn.never (by rfl) (pi_enumS (by rfl) T.z_enumerate (pa_cons (pv 0) pa_nil)) (pg_tup (by rfl) (pgs_cons (pg_name (i := 3) nd rfl (Or.inl rfl)) (pgs_cons (pg_name (i := 4) nd rfl (Or.inl rfl)) pgs_nil)))
        (pss_one (ps_if (pt_cmpR op_in_sign (pv 4) pe_str rfl) (pss_cons (ps_if (pt_cmpR op_lt (pv 2) (pv 3) (nomark _)) (pss_one (ps_expr (pe_bm PySem.F.plainAttrs_list PySem.F.slot_list_append PySem.F.type_list_append mt_append (pv 1) (pa_cons (pe_slice sl_str (pv 0) (po_some (pv 2)) (po_some (pv 3))) pa_nil)))) pss_nil)
      (pss_cons (ps_expr (pe_bm PySem.F.plainAttrs_list PySem.F.slot_list_append PySem.F.type_list_append mt_append (pv 1) (pa_cons (pv 4) pa_nil)))
      (pss_one (ps_set (i := 2) nd rfl (Or.inl rfl) (pe_op op_add (pv 3) pe_int))))) pss_nil)))
      (pss_one (ps_ret (pe_op op_cat (pv 1) (pe_ifExp (pt_cmpR op_lt (pv 2) (pe_callB call_len_str (by rfl) T.z_len (by decide +kernel) (pa_cons (pv 0) pa_nil)) (nomark _)) (pe_lst (pa_cons (pe_slice sl_str (pv 0) (po_some (pv 2)) po_none) pa_nil)) (pe_lst pa_nil))))))), ?_⟩
  refine ⟨Nat.zero_le _, fun F hF => ⟨_, _, rfl, ?_⟩⟩
  refine ⟨_, rfl, S l, rfl, for_it walk_enumS (fun i σ H' => Ex H H' ∧ H' F = some (.lst ((pRun (l.take i)).1.map strV)) ∧ ∃ v3 v4, σ = [some (.str (S l)), some (.ref F), some (.int ((i - (pRun (l.take i)).2.length : Nat) : Int)), v3, v4])
    ⟨Ex.new hF, upd_same, none, none, rfl⟩ (fun _ _ _ _ _ => trivial) ?_ ?_⟩
  · rintro i x σ Ha Hb hi ⟨e1, hA, v3, v4, rfl⟩ ⟨T', c, rfl, hT, rfl, hc⟩
    have hc' : l[i]? = some c := by
      have q : (S l).cps[i]? = some c := hc
      rw [← Array.getElem?_toList] at q
      exact q
    have FT : F ≠ T' := fun z => by rw [z] at hA; rw [hT] at hA; cases hA
    refine ⟨T', _, rfl, .inl (.inl upd_same), rfl, _, _, rfl, _, _, rfl, rfl, ?_⟩
    have eC : Ex H (upd Ha T' (.tup [.int (i : Nat), .str ⟨#[c]⟩])) := e1.trans (Ex.new hT)
    have hC : (upd Ha T' (.tup [.int (i : Nat), .str ⟨#[c]⟩])) F = some (.lst ((pRun (l.take i)).1.map strV)) := by rw [upd_ne FT]; exact hA
    generalize upd Ha T' (.tup [.int (i : Nat), .str ⟨#[c]⟩]) = Hc at eC hC
    have hil : i < l.length := hi
    have hti : (l.take i).length = i := by rw [List.length_take]; omega
    have snoc : pRun (l.take (i + 1)) = pStep (pRun (l.take i)) c := by rw [take_snoc hc', pRun_snoc]
    have cle : (pRun (l.take i)).2.length ≤ i := by have := pRun_len (l.take i); omega
    have cut : cutS (S l) (some ((i - (pRun (l.take i)).2.length : Nat) : Int)) (some (i : Int)) = S (pRun (l.take i)).2 := by
      rw [cut_mid l _ i (by omega) (by omega), ← List.drop_take]
      have q := pRun_open (l.take i)
      rw [hti] at q
      rw [q]
    have cnt := pRun_count (l.take i)
    rw [hti] at cnt
    -- behind the pieces, the new end
    have fin : ∀ (fs : List (List Nat)) (H2 : Hp), Ex H H2 → H2 F = some (.lst (fs.map strV)) → fs ++ [[c]] = (pStep (pRun (l.take i)) c).1 → (pStep (pRun (l.take i)) c).2 = [] → fs.length ≤ 2 * i →
        ∀ σ1, σ1 = [some (.str (S l)), some (.ref F), some (.int ((i - (pRun (l.take i)).2.length : Nat) : Int)), some (.int (i : Int)), some (.str ⟨#[c]⟩)] → ∀ D : Ends, (∀ σ' H', (Ex H H' ∧ H' F = some (.lst ((pRun (l.take (i + 1))).1.map strV)) ∧ ∃ v3 v4, σ' = [some (.str (S l)), some (.ref F), some (.int ((i + 1 - (pRun (l.take (i + 1))).2.length : Nat) : Int)), v3, v4]) → D.nx σ' H') →
        tSeq (tDrop (tBM K "list" rAppend (tVar 1) (tCons (tVar 4) tNil))) (tAsg (tOp (rI0 fun i j => .int (i + j)) (tVar 3) (tC (.int 1))) (gName 2)) D σ1 H2 := by
      rintro fs H2 x2 h2 q1 q2 q3 σ1 rfl D kD
      refine q_app h2 (ev_var rfl) (ev_var rfl) (by rw [List.length_map]; omega) fun H3 x3 => ?_
      refine s_asg (ev_is (ev_op (ev_var rfl) ev_c rv_I0) (w := .int ((i + 1 : Nat) : Int)) (congrArg V.int (by omega))) fun H4 x4 => kD _ _ ⟨(Ex.mut (x2.trans x3) hF).trans x4, ex_at x4 ?_, some (.int (i : Int)), some (.str ⟨#[c]⟩), ?_⟩
      · rw [snoc, ← q1, List.map_append]
        exact upd_same
      · rw [snoc, q2]
        rfl
    refine s_when (b := sep c) (et_test (ev_is (ev_op (ev_var rfl) ev_c rv_inS) (by rw [in_sep]))) (fun hb H1 x1 => ?_) (fun hb H1 x1 => ?_)
    · refine q_when (b := decide (0 < (pRun (l.take i)).2.length)) (et_test (ev_op (ev_var rfl) (ev_var rfl) (rv_ltT (decide_eq_decide.mpr (by omega))))) (fun hc H2 x2 => ?_) (fun hc H2 x2 => ?_)
      · have hc0 : 0 < (pRun (l.take i)).2.length := of_decide_eq_true hc
        have ne : (pRun (l.take i)).2 ≠ [] := List.length_pos_iff.mp hc0
        refine s_app (ex_at (x1.trans x2) hC) (ev_var rfl) (ev_is (ev_sl (ev_var rfl) (eo_some (ev_var rfl)) (eo_some (ev_var rfl)) hz) (congrArg V.str cut)) (by rw [List.length_map]; omega) fun H3 x3 => ?_
        refine fin ((pRun (l.take i)).1 ++ [(pRun (l.take i)).2]) _ (Ex.mut (((eC.trans x1).trans x2).trans x3) hF) ?_ ?_ ?_ ?_ _ rfl _ fun σ' H' z => z
        · rw [List.map_append]
          exact upd_same
        · unfold pStep
          rw [if_pos hb, if_neg ne]
        · unfold pStep
          rw [if_pos hb]
        · rw [List.length_append]
          exact cnt.2 ne
      · have hc0 : (pRun (l.take i)).2 = [] := by
          have := of_decide_eq_false hc
          exact List.eq_nil_of_length_eq_zero (by omega)
        refine fin (pRun (l.take i)).1 _ ((eC.trans x1).trans x2) (ex_at (x1.trans x2) hC) ?_ ?_ cnt.1 _ rfl _ fun σ' H' z => z
        · unfold pStep
          rw [if_pos hb, if_pos hc0]
        · unfold pStep
          rw [if_pos hb]
    · have hs : pStep (pRun (l.take i)) c = ((pRun (l.take i)).1, (pRun (l.take i)).2 ++ [c]) := by
        unfold pStep
        rw [hb]
        rfl
      refine ⟨eC.trans x1, ?_, some (.int (i : Int)), some (.str ⟨#[c]⟩), ?_⟩
      · rw [snoc, hs]
        exact ex_at x1 hC
      · rw [snoc, hs, List.length_append]
        have e0 : i + 1 - ((pRun (l.take i)).2.length + [c].length) = i - (pRun (l.take i)).2.length := by
          show i + 1 - ((pRun (l.take i)).2.length + 1) = _
          omega
        rw [e0]
        rfl
  · rintro σ H' ⟨e1, hA, v3, v4, rfl⟩
    have hsz : (S l).cps.size = l.length := List.size_toArray
    rw [hsz, List.take_length] at hA ⊢
    have cle := pRun_len l
    have cut : cutS (S l) (some ((l.length - (pRun l).2.length : Nat) : Int)) none = S (pRun l).2 := by
      rw [cut_from, pRun_open]
    have cnt := pRun_count l
    have FH : ∀ p : Addr, H p = none → H p = none := fun _ z => z
    -- found + (..)
    refine ⟨_, rfl, ?_⟩
    refine (et_test (ev_op (ev_var rfl) (ev_lenL (K := K) (ev_var rfl) (sz_of (Nat.le_trans hl (by decide)))) (rv_ltT (b := decide (0 < (pRun l).2.length)) (decide_eq_decide.mpr (by omega)))) : EvT _ _ H' _) H' (Ex.refl _) _ fun H1 x1 => ?_
    by_cases hc : 0 < (pRun l).2.length
    · rw [decide_eq_true hc]
      have ne : (pRun l).2 ≠ [] := List.length_pos_iff.mp hc
      refine iteT ?_
      refine (el_lst (ea_cons (ev_is (ev_sl (ev_var rfl) (eo_some (ev_var rfl)) eo_none hz) (congrArg V.str cut)) ea_nil) (by show 1 ≤ 100000; decide) : EvL _ _ H1 _) H1 (Ex.refl _) _ fun q H2 hq x2 h2 => ?_
      refine ⟨F, q, _, _, rfl, rfl, ex_at (x1.trans x2) hA, h2, ?_, fun p hp => ?_⟩
      · rw [List.length_map]
        refine sz_of ?_
        have := cnt.2 ne
        show _ + 1 ≤ _
        omega
      · have x12 := (e1.trans x1).trans x2
        refine k p _ (fresh_back x12 hp) (x12.trans (Ex.new hp)) ?_
        unfold pieces
        rw [if_neg ne, List.map_append]
        exact upd_same
    · rw [decide_eq_false hc]
      have e0 : (pRun l).2 = [] := List.eq_nil_of_length_eq_zero (by omega)
      refine iteF ?_
      refine (el_lst ea_nil (by decide) : EvL _ _ H1 _) H1 (Ex.refl _) _ fun q H2 hq x2 h2 => ?_
      refine ⟨F, q, _, _, rfl, rfl, ex_at (x1.trans x2) hA, h2, ?_, fun p hp => ?_⟩
      · rw [List.length_map]
        refine sz_of ?_
        show _ + 0 ≤ _
        omega
      · have x12 := (e1.trans x1).trans x2
        refine k p _ (fresh_back x12 hp) (x12.trans (Ex.new hp)) ?_
        unfold pieces
        rw [if_pos e0, List.append_nil]
        rw [List.append_nil]
        exact upd_same
end
end K53

set_option autoImplicit false
set_option Elab.async false
set_option linter.all false
set_option maxRecDepth 100000
set_option maxHeartbeats 4000000
namespace K53
open PySem PySem.Spec PyProof.Rows L2 KX Evl
/-! ### DataReader: what is tracked -/
structure RS where
  stack : List (List PyData)
  ready : Bool
  told : List PyData
def rItem (s : RS) (d : PyData) : Option RS := if s.ready then (match s.stack with | t :: r => some ⟨(t ++ [d]) :: r, false, s.told⟩ | [] => some ⟨[], false, s.told ++ [d]⟩) else none
def rOpen (s : RS) : Option RS := if s.ready && decide (s.stack.length < 1000) then some ⟨[] :: s.stack, s.ready, s.told⟩ else none
def rClose (s : RS) : Option RS := match s.stack with | [] => none | t :: r => if s.ready && decide (0 < t.length) then none else rItem ⟨r, true, s.told⟩ (.tuple t)
def rComma (s : RS) : Option RS := if s.ready || decide (s.stack.length = 0) then none else some ⟨s.stack, true, s.told⟩
def rTake (s : RS) (l : List Nat) : Option RS := if l = [91] then rOpen s else if l = [93] then rClose s else if l = [44] then rComma s else (readAtom l).bind (rItem s)
section
variable {K : PySem.W.Frag} {A : Ad} {H H' : Hp}
def StkAt (K : PySem.W.Frag) (H : Hp) : List Addr → List (List PyData) → Prop
  | [], [] => True
  | a :: as, t :: ts => (∃ vs, H a = some (.lst vs) ∧ DpAll K H vs t) ∧ StkAt K H as ts
  | _, _ => False
theorem StkAt.mono (k : TupK H H') : ∀ {as : List Addr} {ts : List (List PyData)}, StkAt K H as ts → (∀ a ∈ as, ∀ o, H a = some o → H' a = some o) → (∀ t ∈ ts, noListA t = true) → StkAt K H' as ts
  | [], [], _, _, _ => trivial
  | a :: as, t :: ts, h, ha, hn => ⟨by
      obtain ⟨vs, q1, q2⟩ := h.1
      exact ⟨vs, ha a (List.mem_cons_self ..) _ q1, dpa_tk k q2 (hn t (List.mem_cons_self ..))⟩, StkAt.mono k h.2 (fun b hb => ha b (List.mem_cons_of_mem _ hb)) (fun b hb => hn b (List.mem_cons_of_mem _ hb))⟩
  | [], _ :: _, h, _, _ => h.elim
  | _ :: _, [], h, _, _ => h.elim
theorem StkAt.len : ∀ {as : List Addr} {ts : List (List PyData)}, StkAt K H as ts → as.length = ts.length
  | [], [], _ => rfl
  | a :: as, t :: ts, h => congrArg (· + 1) (StkAt.len h.2)
  | [], _ :: _, h => h.elim
  | _ :: _, [], h => h.elim
theorem StkAt.lst : ∀ {as : List Addr} {ts : List (List PyData)} {a : Addr}, StkAt K H as ts → a ∈ as → ∃ vs, H a = some (.lst vs)
  | a :: as, t :: ts, b, h, m => by
    rcases List.mem_cons.mp m with z | z
    · subst z
      obtain ⟨vs, q, _⟩ := h.1
      exact ⟨vs, q⟩
    · exact StkAt.lst h.2 z
  | [], _ :: _, _, h, _ => h.elim
  | _ :: _, [], _, h, _ => h.elim
  | [], [], _, _, m => by cases m
def rFs (tl td : Addr) (b : Bool) : List (Str × V) := [("tuples", .ref tl), ("ready", .bl b), ("told", .ref td)]
/-- the places of one reader -/
structure RP where
  p : Addr
  dx : Addr
  tl : Addr
  td : Addr
structure RdAt (K : PySem.W.Frag) (A : Ad) (H : Hp) (z : RP) (as : List Addr) (s : RS) (n : Nat) : Prop where
  hp : H z.p = some (.ins A.c_DataReader z.dx (rFs z.tl z.td s.ready))
  ht : H z.tl = some (.lst (as.reverse.map V.ref))
  hd : ∃ vs, H z.td = some (.lst vs) ∧ DpAll K H vs s.told
  st : StkAt K H as s.stack
  nd : (z.tl :: z.td :: as).Nodup
  n1 : ∀ t ∈ s.stack, noListA t = true
  n2 : noListA s.told = true
  b1 : s.stack.length ≤ 1000
  b2 : ∀ t ∈ s.stack, t.length ≤ n
  b3 : s.told.length ≤ n
def RP.own (z : RP) (as : List Addr) (b : Addr) : Prop := b = z.p ∨ b = z.tl ∨ b = z.td ∨ b ∈ as
variable {z : RP} {as : List Addr} {s : RS} {n : Nat}
theorem RdAt.ex (e : Ex H H') (h : RdAt K A H z as s n) : RdAt K A H' z as s n :=
  ⟨e _ _ h.hp, e _ _ h.ht, by obtain ⟨vs, q1, q2⟩ := h.hd; exact ⟨vs, e _ _ q1, dpa_mono e q2⟩, h.st.mono (.of e) (fun a _ o q => e a o q) h.n1, h.nd, h.n1, h.n2, h.b1, h.b2, h.b3⟩
theorem RdAt.wide {m : Nat} (h : RdAt K A H z as s n) (e : n ≤ m) : RdAt K A H z as s m := ⟨h.hp, h.ht, h.hd, h.st, h.nd, h.n1, h.n2, h.b1, fun t q => Nat.le_trans (h.b2 t q) e, Nat.le_trans h.b3 e⟩
theorem RdAt.p_tl (h : RdAt K A H z as s n) : z.tl ≠ z.p := fun e => by have q := h.ht; rw [e, h.hp] at q; cases q
theorem RdAt.p_td (h : RdAt K A H z as s n) : z.td ≠ z.p := fun e => by obtain ⟨vs, q, _⟩ := h.hd; rw [e, h.hp] at q; cases q
theorem RdAt.p_as (h : RdAt K A H z as s n) {a : Addr} (m : a ∈ as) : a ≠ z.p := fun e => by obtain ⟨vs, q⟩ := h.st.lst m; rw [e, h.hp] at q; cases q
theorem RdAt.setReady (h : RdAt K A H z as s n) (b : Bool) : RdAt K A (upd H z.p (.ins A.c_DataReader z.dx (rFs z.tl z.td b))) z as ⟨s.stack, b, s.told⟩ n := by
  have tk : TupK H (upd H z.p (.ins A.c_DataReader z.dx (rFs z.tl z.td b))) := .ins h.hp
  refine ⟨upd_same, by rw [upd_ne h.p_tl]; exact h.ht, ?_, h.st.mono tk (fun a m o q => by rw [upd_ne (h.p_as m)]; exact q) h.n1, h.nd, h.n1, h.n2, h.b1, h.b2, h.b3⟩
  obtain ⟨vs, q1, q2⟩ := h.hd
  exact ⟨vs, by rw [upd_ne h.p_td]; exact q1, dpa_tk tk q2 h.n2⟩
theorem RdAt.pushTold {v : V} {d : PyData} {vs : List V} (h : RdAt K A H z as s n) (hv : H z.td = some (.lst vs)) (hD : DpAll K H vs s.told) (hd : Dp K H v d) (hn : noList d = true) :
    RdAt K A (upd H z.td (.lst (vs ++ [v]))) z as ⟨s.stack, s.ready, s.told ++ [d]⟩ (n + 1) := by
  have tk : TupK H (upd H z.td (.lst (vs ++ [v]))) := .lst hv
  have nd := h.nd
  simp only [List.nodup_cons, List.mem_cons, not_or] at nd
  refine ⟨by rw [upd_ne h.p_td.symm]; exact h.hp, by rw [upd_ne nd.1.1]; exact h.ht, ⟨vs ++ [v], upd_same, dpa_app (dpa_tk tk hD h.n2) (dpa_one (dp_tk tk hd hn))⟩,
    h.st.mono tk (fun a m o q => by rw [upd_ne (fun e => nd.2.1 (by rw [← e]; exact m))]; exact q) h.n1, h.nd, h.n1, ?_, h.b1, fun t q => Nat.le_succ_of_le (h.b2 t q), ?_⟩
  · rw [noListA_app, h.n2]
    simp [noListA, hn]
  · rw [List.length_append]
    exact Nat.succ_le_succ h.b3
theorem RdAt.pushTop {a : Addr} {t : List PyData} {ts : List (List PyData)} {b : Bool} {told : List PyData} {v : V} {d : PyData} {vs : List V} (h : RdAt K A H z (a :: as) ⟨t :: ts, b, told⟩ n) (hv : H a = some (.lst vs)) (hD : DpAll K H vs t) (hd : Dp K H v d) (hn : noList d = true) :
    RdAt K A (upd H a (.lst (vs ++ [v]))) z (a :: as) ⟨(t ++ [d]) :: ts, b, told⟩ (n + 1) := by
  have tk : TupK H (upd H a (.lst (vs ++ [v]))) := .lst hv
  have nd := h.nd
  simp only [List.nodup_cons, List.mem_cons, not_or] at nd
  have n1 : ∀ u ∈ (t ++ [d]) :: ts, noListA u = true := fun u hu => by
    rcases List.mem_cons.mp hu with e | e
    · rw [e, noListA_app, h.n1 t (List.mem_cons_self ..)]
      simp [noListA, hn]
    · exact h.n1 u (List.mem_cons_of_mem _ e)
  refine ⟨by rw [upd_ne (fun e => h.p_as (List.mem_cons_self ..) e.symm)]; exact h.hp, by rw [upd_ne nd.1.2.1]; exact h.ht, ?_,
    ⟨⟨_, upd_same, dpa_app (dpa_tk tk hD (h.n1 t (List.mem_cons_self ..))) (dpa_one (dp_tk tk hd hn))⟩, h.st.2.mono tk (fun c m o q => by rw [upd_ne (fun e => nd.2.2.1 (by rw [← e]; exact m))]; exact q) (fun u hu => h.n1 u (List.mem_cons_of_mem _ hu))⟩, h.nd, n1, h.n2, h.b1, fun u hu => ?_, Nat.le_succ_of_le h.b3⟩
  · obtain ⟨ws, q1, q2⟩ := h.hd
    exact ⟨ws, by rw [upd_ne nd.2.1.1]; exact q1, dpa_tk tk q2 h.n2⟩
  · rcases List.mem_cons.mp hu with e | e
    · rw [e, List.length_append]
      exact Nat.succ_le_succ (h.b2 t (List.mem_cons_self ..))
    · exact Nat.le_succ_of_le (h.b2 u (List.mem_cons_of_mem _ e))
theorem RdAt.open_ {a : Addr} (h : RdAt K A H z as s n) (fa : ∀ b, z.own as b → b ≠ a) (ha : H a = some (.lst [])) (hl : s.stack.length < 1000) :
    RdAt K A (upd H z.tl (.lst (as.reverse.map V.ref ++ [.ref a]))) z (a :: as) ⟨[] :: s.stack, s.ready, s.told⟩ n := by
  have tk : TupK H (upd H z.tl (.lst (as.reverse.map V.ref ++ [.ref a]))) := .lst h.ht
  have nd := h.nd
  simp only [List.nodup_cons, List.mem_cons, not_or] at nd
  have t1 : z.tl ≠ a := fa _ (.inr (.inl rfl))
  have t2 : z.td ≠ a := fa _ (.inr (.inr (.inl rfl)))
  refine ⟨by rw [upd_ne h.p_tl.symm]; exact h.hp, ?_, ?_, ⟨⟨[], by rw [upd_ne t1.symm]; exact ha, .nil⟩, h.st.mono tk (fun c m o q => by rw [upd_ne (fun e => nd.1.2 (by rw [← e]; exact m))]; exact q) h.n1⟩, ?_, fun u hu => ?_, h.n2, hl, fun u hu => ?_, h.b3⟩
  · rw [upd_same, List.reverse_cons, List.map_append]
    rfl
  · obtain ⟨ws, q1, q2⟩ := h.hd
    exact ⟨ws, by rw [upd_ne (fun e => nd.1.1 e.symm)]; exact q1, dpa_tk tk q2 h.n2⟩
  · simp only [List.nodup_cons, List.mem_cons, not_or]
    exact ⟨⟨nd.1.1, t1, nd.1.2⟩, ⟨t2, nd.2.1⟩, fun m => fa a (.inr (.inr (.inr m))) rfl, nd.2.2⟩
  · rcases List.mem_cons.mp hu with e | e
    · rw [e]; rfl
    · exact h.n1 u e
  · rcases List.mem_cons.mp hu with e | e
    · rw [e]; exact Nat.zero_le _
    · exact h.b2 u e
theorem RdAt.pop {a : Addr} {t : List PyData} {ts : List (List PyData)} {b : Bool} {told : List PyData} (h : RdAt K A H z (a :: as) ⟨t :: ts, b, told⟩ n) :
    RdAt K A (upd H z.tl (.lst (as.reverse.map V.ref))) z as ⟨ts, b, told⟩ n := by
  have tk : TupK H (upd H z.tl (.lst (as.reverse.map V.ref))) := .lst h.ht
  have nd := h.nd
  simp only [List.nodup_cons, List.mem_cons, not_or] at nd
  refine ⟨by rw [upd_ne h.p_tl.symm]; exact h.hp, upd_same, ?_, h.st.2.mono tk (fun c m o q => by rw [upd_ne (fun e => nd.1.2.2 (by rw [← e]; exact m))]; exact q) (fun u hu => h.n1 u (List.mem_cons_of_mem _ hu)), ?_, fun u hu => h.n1 u (List.mem_cons_of_mem _ hu), h.n2, Nat.le_of_succ_le h.b1, fun u hu => h.b2 u (List.mem_cons_of_mem _ hu), h.b3⟩
  · obtain ⟨ws, q1, q2⟩ := h.hd
    exact ⟨ws, by rw [upd_ne (fun e => nd.1.1 e.symm)]; exact q1, dpa_tk tk q2 h.n2⟩
  · simp only [List.nodup_cons, List.mem_cons, not_or]
    exact ⟨⟨nd.1.1, nd.1.2.2⟩, nd.2.1.2, nd.2.2.2⟩
/-- a step: what is known of the new state -/
structure Mv (K : PySem.W.Frag) (A : Ad) (z : RP) (as : List Addr) (n : Nat) (H : Hp) (s' : RS) (H' : Hp) : Prop where
  tk : TupK H H'
  oth : Oth (z.own as) H H'
  at_ : ∃ as', RdAt K A H' z as' s' (n + 1) ∧ ∀ b, z.own as' b → z.own as b ∨ H b = none
/-- what a method promises: the next state, or the error of the class at C -/
def spM (K : PySem.W.Frag) (A : Ad) (f : RS → Option RS) : Sp := fun vs H Q E => ∃ z as s n, vs = [.ref z.p] ∧ RdAt K A H z as s n ∧ n < 90000 ∧ (∀ s', f s = some s' → ∀ H', Mv K A z as n H s' H' → Q .non H') ∧ (f s = none → ∀ H', TupK H H' → Oth (z.own as) H H' → E (.ref A.c_Malformed) none H')
/-- of one thing -/
def spM1 (K : PySem.W.Frag) (A : Ad) {α : Type} (R : Hp → V → α → Prop) (f : RS → α → Option RS) : Sp := fun vs H Q E => ∃ z as s n v d, vs = [.ref z.p, v] ∧ R H v d ∧ RdAt K A H z as s n ∧ n < 90000 ∧ (∀ s', f s d = some s' → ∀ H', Mv K A z as n H s' H' → Q .non H') ∧ (f s d = none → ∀ H', TupK H H' → Oth (z.own as) H H' → E (.ref A.c_Malformed) none H')
def DpN (K : PySem.W.Frag) (H : Hp) (v : V) (d : PyData) : Prop := Dp K H v d ∧ noList d = true
def PieceV (H : Hp) (v : V) (l : List Nat) : Prop := v = .str (S l) ∧ l.length ≤ 100000
end
end K53

set_option autoImplicit false
set_option Elab.async false
set_option linter.all false
set_option maxRecDepth 100000
set_option maxHeartbeats 4000000
namespace K53
open PySem PySem.Spec PyProof.Rows L2 KX Evl
theorem rv_gtT {i j : Int} {H : Hp} {b : Bool} (e : decide (i > j) = b) : RV (rI0 fun i j => .bl (decide (i > j))) (.int i) (.int j) H (.bl b) := rv_bl rv_I0 e
theorem rv_geT {i j : Int} {H : Hp} {b : Bool} (e : decide (i ≥ j) = b) : RV (rI0 fun i j => .bl (decide (i ≥ j))) (.int i) (.int j) H (.bl b) := rv_bl rv_I0 e
theorem rv_eqI {i j : Int} {H : Hp} {b : Bool} (e : decide (i = j) = b) : RV rEq (.int i) (.int j) H (.bl b) := rv_bl (rv_eq rfl) ((decide_eq_decide.mpr ⟨fun q => V.int.inj q, fun q => by rw [q]⟩).trans e)
theorem rv_neI {i j : Int} {H : Hp} {b : Bool} (e : (!decide (i = j)) = b) : RV rNe (.int i) (.int j) H (.bl b) := rv_bl (rv_ne rfl) ((congrArg not (decide_eq_decide.mpr ⟨fun q => V.int.inj q, fun q => by rw [q]⟩)).trans e)
theorem rFs_len {a b : Addr} {c : Bool} : (rFs a b c).length < 1000 := by show 3 < 1000; decide
section
variable {P : Program} {w : World} {K : PySem.W.Frag} {mg : Str → Option Value} {base : Heap} {A : Ad}
theorem Oth.t {own : Addr → Prop} {H H1 H' : Hp} (p : Oth own H H1) (q : Oth own H1 H') : Oth own H H' := KX.Oth.trans p q fun _ _ _ z => z
/-- from a heap that knows more -/
theorem Mv.from {z : RP} {as : List Addr} {n : Nat} {H H1 H' : Hp} {s : RS} (e : Ex H H1) (m : Mv K A z as n H1 s H') : Mv K A z as n H s H' :=
  ⟨(TupK.of e).trans m.tk, Oth.t (Oth.of e) m.oth, by obtain ⟨as', q1, q2⟩ := m.at_; exact ⟨as', q1, fun b hb => (q2 b hb).imp id (fresh_back e)⟩⟩
theorem Mv.comp {z : RP} {as ar : List Addr} {n : Nat} {H H5 H' : Hp} {s : RS} (m : Mv K A z ar n H5 s H') (tk : TupK H H5) (ot : Oth (z.own as) H H5) (sub : ∀ b, z.own ar b → z.own as b) : Mv K A z as n H s H' :=
  ⟨tk.trans m.tk, fun b o q nb => m.oth b o (ot b o q nb) fun h => nb (sub b h), by
    obtain ⟨as', q1, q2⟩ := m.at_
    refine ⟨as', q1, fun b hb => ?_⟩
    rcases q2 b hb with h | h
    · exact .inl (sub b h)
    · by_cases ob : z.own as b
      · exact .inl ob
      · refine .inr ?_
        cases q : H b with
        | none => rfl
        | some o => rw [ot b o q ob] at h; cases h⟩
theorem readAtom_v {l : List Nat} {d : PyData} {H : Hp} (h : readAtom l = some d) : DpN K H (vOf d) d := by
  unfold readAtom signOf at h
  by_cases q0 : l = [43]
  · rw [if_pos q0] at h
    cases h
    exact ⟨.bl _, rfl⟩
  by_cases q1 : l = [45]
  · rw [if_neg q0, if_pos q1] at h
    cases h
    exact ⟨.bl _, rfl⟩
  by_cases q2 : l = [46]
  · rw [if_neg q0, if_neg q1, if_pos q2] at h
    cases h
    exact ⟨.str _, rfl⟩
  rw [if_neg q0, if_neg q1, if_neg q2] at h
  by_cases q3 : wordL l = true
  · have h' : some (PyData.str (S l)) = some d := by simpa [q3] using h
    cases h'
    exact ⟨.str _, rfl⟩
  · have h' : (readWhole l).map PyData.int = some d := by simpa [q3] using h
    obtain ⟨i, _, rfl⟩ := Option.map_eq_some_iff.mp h'
    exact ⟨.int _, rfl⟩
theorem sc_DataReader_item : FnScope ["self", "value"] ["self", "value"] (defScope s_DataReader_item) := ⟨rfl, rfl, rfl, by decide +kernel, rfl, by decide +kernel, by decide +kernel⟩
theorem ok_item (T : Txt w K mg A) : FnOk P w K mg base (L2.CX P w) 1 A.f_DataReader_item A.d_DataReader_item ["self", "value"] (spM1 K A (DpN K) rItem) := by
  refine T.F_DataReader_item.okX sc_DataReader_item (fun vs H Q E h => ?_) (fun cdv Ar outer s H vs Q E hr h => ?_)
  · obtain ⟨z, as, s, n, v, d, rfl, _⟩ := h
    rfl
  obtain ⟨z, as, rs, n, v, d, rfl, ⟨hd, nl⟩, h, hn, k, kE⟩ := h
  have nd := sc_DataReader_item.nd
  refine ⟨_, (pss_cons (ps_if (pt_not (pt_val (pe_fld (pv 0) rfl))) (pss_one (ps_raise rfl (takes_of rfl rfl rfl rfl) (pmk_own PySem.F.excBase_ValueError T.x_Malformed T.g_Malformed T.k_Malformed (raises_own T.b_Malformed T.t_Malformed) (by exact rfl)))) pss_nil)
      (pss_cons (ps_if (pt_cmpR op_gt (pe_callB call_len_seq (by rfl) T.z_len (by decide +kernel) (pa_cons (pe_fld (pv 0) rfl) pa_nil)) pe_int (nomark _)) (pss_one (ps_expr (pe_bm PySem.F.plainAttrs_list PySem.F.slot_list_append PySem.F.type_list_append mt_append (pe_ix ix_list (pe_fld (pv 0) rfl) (pe_un un_neg pe_int) (fun _ _ => rfl)) (pa_cons (pv 1) pa_nil)))) (pss_one (ps_expr (pe_bm PySem.F.plainAttrs_list PySem.F.slot_list_append PySem.F.type_list_append mt_append (pe_fld (pv 0) rfl) (pa_cons (pv 1) pa_nil)))))
      (pss_one (ps_fld (pv 0) pe_bl rfl)))), ?_⟩
  refine q_when (b := !rs.ready) (et_not (et_test (ev_fld (ev_var rfl) h.hp T.cl_DataReader T.n_DataReader_ready rfl))) (fun hb H1 e1 => ?_) (fun hb H1 e1 => ?_)
  · refine kE ?_ H1 (TupK.of e1) (Oth.of e1)
    unfold rItem
    rw [if_neg (by intro q; rw [q] at hb; cases hb)]
  have rdy : rs.ready = true := by revert hb; cases rs.ready <;> simp
  have h1 := h.ex e1
  have hlen := h.st.len
  refine q_if (b := decide (0 < rs.stack.length)) (et_test (ev_op (ev_lenQ (ev_fld (ev_var rfl) h1.hp T.cl_DataReader T.n_DataReader_tuples rfl) (sq_of h1.ht)) ev_c (rv_gtT (by rw [List.length_map, List.length_reverse, hlen]; exact decide_eq_decide.mpr (by omega))))) (fun hb H2 e2 => ?_) (fun hb H2 e2 => ?_)
  · obtain ⟨stk, rd, told⟩ := rs
    cases stk with
    | nil => simp at hb
    | cons t ts =>
    cases as with
    | nil => exact h.st.elim
    | cons a ar =>
    have h2 := h1.ex e2
    obtain ⟨vs, hv, hD⟩ := h2.st.1
    refine s_app (v := v) hv (ev_op (ev_fld (ev_var rfl) h2.hp T.cl_DataReader T.n_DataReader_tuples rfl) (ev_un ev_c ru_neg) (rv_ixL (sq_of h2.ht) (by rw [List.reverse_cons, List.map_append]; exact atI_last _ _))) (ev_var rfl) ?_ fun H3 e3 => ?_
    · have q := h2.b2 t (List.mem_cons_self ..)
      rw [← dpa_len hD] at q
      omega
    have h3 := (h2.ex e3).pushTop (e3 _ _ hv) (dpa_mono e3 hD) (dp_mono ((e1.trans e2).trans e3) hd) nl
    refine s_fld (v := .bl false) ev_c (ev_var rfl) h3.hp T.cl_DataReader T.n_DataReader_ready rFs_len fun H4 e4 => ?_
    have h4 := (h3.ex e4).setReady false
    have e13 := (e1.trans e2).trans e3
    refine k _ ?_ _ ⟨?_, ?_, a :: ar, h4, fun b hb => .inl hb⟩
    · unfold rItem
      rw [if_pos rdy]
    · exact ((TupK.of e13).trans (TupK.lst (e3 _ _ hv))).trans ((TupK.of e4).trans (TupK.ins (h3.ex e4).hp))
    · exact Oth.t (Oth.t (Oth.of e13) (Oth.upd (.inr (.inr (.inr (List.mem_cons_self ..)))))) (Oth.t (Oth.of e4) (Oth.upd (.inl rfl)))
  · obtain ⟨stk, rd, told⟩ := rs
    cases stk with
    | cons t ts => simp at hb
    | nil =>
    have h2 := h1.ex e2
    obtain ⟨vs, hv, hD⟩ := h2.hd
    refine s_app (v := v) hv (ev_fld (ev_var rfl) h2.hp T.cl_DataReader T.n_DataReader_told rfl) (ev_var rfl) ?_ fun H3 e3 => ?_
    · have q := h2.b3
      rw [← dpa_len hD] at q
      omega
    have h3 := (h2.ex e3).pushTold (e3 _ _ hv) (dpa_mono e3 hD) (dp_mono ((e1.trans e2).trans e3) hd) nl
    refine s_fld (v := .bl false) ev_c (ev_var rfl) h3.hp T.cl_DataReader T.n_DataReader_ready rFs_len fun H4 e4 => ?_
    have h4 := (h3.ex e4).setReady false
    have e13 := (e1.trans e2).trans e3
    refine k _ ?_ _ ⟨?_, ?_, as, h4, fun b hb => .inl hb⟩
    · unfold rItem
      rw [if_pos rdy]
    · exact ((TupK.of e13).trans (TupK.lst (e3 _ _ hv))).trans ((TupK.of e4).trans (TupK.ins (h3.ex e4).hp))
    · exact Oth.t (Oth.t (Oth.of e13) (Oth.upd (.inr (.inr (.inl rfl))))) (Oth.t (Oth.of e4) (Oth.upd (.inl rfl)))
theorem sc_DataReader_open_one : FnScope ["self"] ["self"] (defScope s_DataReader_open_one) := ⟨rfl, rfl, rfl, by decide +kernel, rfl, by decide +kernel, by decide +kernel⟩
theorem ok_open (T : Txt w K mg A) : FnOk P w K mg base (L2.CX P w) 1 A.f_DataReader_open_one A.d_DataReader_open_one ["self"] (spM K A rOpen) := by
  refine T.F_DataReader_open_one.okX sc_DataReader_open_one (fun vs H Q E h => ?_) (fun cdv Ar outer s H vs Q E hr h => ?_)
  · obtain ⟨z, as, s, n, rfl, _⟩ := h
    rfl
  obtain ⟨z, as, rs, n, rfl, h, hn, k, kE⟩ := h
  have nd := sc_DataReader_open_one.nd
  obtain ⟨_, v_MOST_DEPTH⟩ := T.v_MOST_DEPTH
  have hlen := h.st.len
  refine ⟨_, (pss_cons (ps_if (PW.pt (pw_or (pt_not (pt_val (pe_fld (pv 0) rfl))) (pw_or1 (pt_cmpR op_ge (pe_callB call_len_seq (by rfl) T.z_len (by decide +kernel) (pa_cons (pe_fld (pv 0) rfl) pa_nil)) (pe_glob (v := .int 1000) (by rfl) v_MOST_DEPTH ⟨_, rfl⟩) (nomark _))))) (pss_one (ps_raise rfl (takes_of rfl rfl rfl rfl) (pmk_own PySem.F.excBase_ValueError T.x_Malformed T.g_Malformed T.k_Malformed (raises_own T.b_Malformed T.t_Malformed) (by exact rfl)))) pss_nil)
      (pss_one (ps_expr (pe_bm PySem.F.plainAttrs_list PySem.F.slot_list_append PySem.F.type_list_append mt_append (pe_fld (pv 0) rfl) (pa_cons (pe_lst pa_nil) pa_nil))))), ?_⟩
  refine q_when (b := !rs.ready || decide (1000 ≤ rs.stack.length)) (et_or (et_not (et_test (ev_fld (ev_var rfl) h.hp T.cl_DataReader T.n_DataReader_ready rfl))) fun _ => et_test (ev_op (ev_lenQ (ev_fld (ev_var rfl) h.hp T.cl_DataReader T.n_DataReader_tuples rfl) (sq_of h.ht)) ev_c (rv_geT (by rw [List.length_map, List.length_reverse, hlen]; exact decide_eq_decide.mpr (by omega))))) (fun hb H1 e1 => ?_) (fun hb H1 e1 => ?_)
  · refine kE ?_ H1 (TupK.of e1) (Oth.of e1)
    unfold rOpen
    refine if_neg fun q => ?_
    simp only [Bool.and_eq_true, decide_eq_true_eq] at q
    rw [q.1] at hb
    simp only [Bool.not_true, Bool.false_or, decide_eq_true_eq] at hb
    omega
  have rdy : rs.ready = true ∧ rs.stack.length < 1000 := by
    simp only [Bool.or_eq_false_iff, Bool.not_eq_false', decide_eq_false_iff_not] at hb
    exact ⟨hb.1, by omega⟩
  have h1 := h.ex e1
  refine s_appL (ys := []) h1.ht (ev_fld (ev_var rfl) h1.hp T.cl_DataReader T.n_DataReader_tuples rfl) (el_lst ea_nil (by decide)) (by rw [List.length_map, List.length_reverse, hlen]; omega) fun a H2 ha e2 h2 => ?_
  have hh := h1.ex e2
  have own_some : ∀ b, z.own as b → ∃ o, H1 b = some o := fun b hb => by
    rcases hb with e | e | e | e
    · exact ⟨_, e ▸ h1.hp⟩
    · exact ⟨_, e ▸ h1.ht⟩
    · obtain ⟨vs, q, _⟩ := h1.hd
      exact ⟨_, e ▸ q⟩
    · obtain ⟨vs, q⟩ := h1.st.lst e
      exact ⟨_, q⟩
  have h3 := hh.open_ (a := a) (fun b hb e => by obtain ⟨o, q⟩ := own_some b hb; rw [e, ha] at q; cases q) h2 rdy.2
  have ha' : H a = none := fresh_back e1 ha
  refine k _ ?_ _ ⟨?_, ?_, a :: as, h3.wide (Nat.le_succ _), fun b hb => ?_⟩
  · unfold rOpen
    rw [rdy.1, decide_eq_true rdy.2]
    rfl
  · exact (TupK.of (e1.trans e2)).trans (TupK.lst hh.ht)
  · exact Oth.t (Oth.of (e1.trans e2)) (Oth.upd (.inr (.inl rfl)))
  · rcases hb with e | e | e | e
    · exact .inl (.inl e)
    · exact .inl (.inr (.inl e))
    · exact .inl (.inr (.inr (.inl e)))
    · rcases List.mem_cons.mp e with e | e
      · exact .inr (by rw [e]; exact ha')
      · exact .inl (.inr (.inr (.inr e)))
theorem sc_DataReader_comma : FnScope ["self"] ["self"] (defScope s_DataReader_comma) := ⟨rfl, rfl, rfl, by decide +kernel, rfl, by decide +kernel, by decide +kernel⟩
theorem ok_comma (T : Txt w K mg A) : FnOk P w K mg base (L2.CX P w) 1 A.f_DataReader_comma A.d_DataReader_comma ["self"] (spM K A rComma) := by
  refine T.F_DataReader_comma.okX sc_DataReader_comma (fun vs H Q E h => ?_) (fun cdv Ar outer s H vs Q E hr h => ?_)
  · obtain ⟨z, as, s, n, rfl, _⟩ := h
    rfl
  obtain ⟨z, as, rs, n, rfl, h, hn, k, kE⟩ := h
  have nd := sc_DataReader_comma.nd
  have hlen := h.st.len
  refine ⟨_, (pss_cons (ps_if (PW.pt (pw_or (pt_val (pe_fld (pv 0) rfl)) (pw_or1 (pt_cmpR op_eq (pe_callB call_len_seq (by rfl) T.z_len (by decide +kernel) (pa_cons (pe_fld (pv 0) rfl) pa_nil)) pe_int (nomark _))))) (pss_one (ps_raise rfl (takes_of rfl rfl rfl rfl) (pmk_own PySem.F.excBase_ValueError T.x_Malformed T.g_Malformed T.k_Malformed (raises_own T.b_Malformed T.t_Malformed) (by exact rfl)))) pss_nil)
      (pss_one (ps_fld (pv 0) pe_bl rfl))), ?_⟩
  refine q_when (b := rs.ready || decide (rs.stack.length = 0)) (et_or (et_test (ev_fld (ev_var rfl) h.hp T.cl_DataReader T.n_DataReader_ready rfl)) fun _ => et_test (ev_op (ev_lenQ (ev_fld (ev_var rfl) h.hp T.cl_DataReader T.n_DataReader_tuples rfl) (sq_of h.ht)) ev_c (rv_eqI (by rw [List.length_map, List.length_reverse, hlen]; exact decide_eq_decide.mpr (by omega))))) (fun hb H1 e1 => ?_) (fun hb H1 e1 => ?_)
  · refine kE ?_ H1 (TupK.of e1) (Oth.of e1)
    unfold rComma
    rw [if_pos hb]
  have h1 := h.ex e1
  refine s_fld (v := .bl true) ev_c (ev_var rfl) h1.hp T.cl_DataReader T.n_DataReader_ready rFs_len fun H4 e4 => ?_
  have h4 := (h1.ex e4).setReady true
  refine k _ ?_ _ ⟨?_, ?_, as, h4.wide (Nat.le_succ _), fun b hb => .inl hb⟩
  · unfold rComma
    rw [if_neg (by rw [hb]; decide)]
  · exact (TupK.of (e1.trans e4)).trans (TupK.ins (h1.ex e4).hp)
  · exact Oth.t (Oth.of (e1.trans e4)) (Oth.upd (.inl rfl))
theorem sc_DataReader_close_one : FnScope ["self", "found"] ["self"] (defScope s_DataReader_close_one) := ⟨rfl, rfl, rfl, by decide +kernel, rfl, by decide +kernel, by decide +kernel⟩
theorem ok_close (T : Txt w K mg A) : FnOk P w K mg base (L2.CX P w) 2 A.f_DataReader_close_one A.d_DataReader_close_one ["self"] (spM K A rClose) := by
  refine T.F_DataReader_close_one.okX sc_DataReader_close_one (fun vs H Q E h => ?_) (fun cdv Ar outer s H vs Q E hr h => ?_)
  · obtain ⟨z, as, s, n, rfl, _⟩ := h
    rfl
  obtain ⟨z, as, rs, n, rfl, h, hn, k, kE⟩ := h
  have nd := sc_DataReader_close_one.nd
  have G_DataReader_item := ok_item (P := P) (base := base) T
  have hr_DataReader_item := hr
  refine ⟨_, (pss_cons (ps_if (PW.pt (pw_or (pt_cmpR op_eq (pe_callB call_len_seq (by rfl) T.z_len (by decide +kernel) (pa_cons (pe_fld (pv 0) rfl) pa_nil)) pe_int (nomark _)) (pw_or1 (PW.pt (pw_and (pt_val (pe_fld (pv 0) rfl)) (pw_and1 (pt_cmpR op_gt (pe_callB call_len_seq (by rfl) T.z_len (by decide +kernel) (pa_cons (pe_ix ix_list (pe_fld (pv 0) rfl) (pe_un un_neg pe_int) (fun _ _ => rfl)) pa_nil)) pe_int (nomark _)))))))) (pss_one (ps_raise rfl (takes_of rfl rfl rfl rfl) (pmk_own PySem.F.excBase_ValueError T.x_Malformed T.g_Malformed T.k_Malformed (raises_own T.b_Malformed T.t_Malformed) (by exact rfl)))) pss_nil)
      (pss_cons (ps_set (i := 1) nd rfl (Or.inl rfl) (pe_callTy call_tuple_of (by rfl) T.z_tuple (by decide +kernel) (pa_cons (pe_bm0 PySem.F.plainAttrs_list PySem.F.slot_list_pop PySem.F.type_list_pop mt_pop (pe_fld (pv 0) rfl)) pa_nil)))
      (pss_cons (ps_fld (pv 0) pe_bl rfl)
      (pss_one (ps_expr (pe_meth (pv 0) T.cl_DataReader T.M_DataReader_item G_DataReader_item hr_DataReader_item T.b_DataReader_item .nil (passes_call (takes_of rfl rfl rfl rfl) (fun _ _ _ _ h => h)) (pa_cons (pv 1) pa_nil))))))), ?_⟩
  obtain ⟨stk, rd, told⟩ := rs
  have hlen : as.length = stk.length := h.st.len
  refine q_when (b := decide (stk.length = 0) || (rd && decide (0 < (stk.headD []).length))) (et_or (et_test (ev_op (ev_lenQ (ev_fld (ev_var rfl) h.hp T.cl_DataReader T.n_DataReader_tuples rfl) (sq_of h.ht)) ev_c (rv_eqI (by rw [List.length_map, List.length_reverse, hlen]; exact decide_eq_decide.mpr (by omega))))) fun hn0 => et_and (et_test (ev_fld (ev_var rfl) h.hp T.cl_DataReader T.n_DataReader_ready rfl)) fun _ => ?_) (fun hb H1 e1 => ?_) (fun hb H1 e1 => ?_)
  · cases stk with
    | nil => simp at hn0
    | cons t ts =>
    cases as with
    | nil => exact h.st.elim
    | cons a ar =>
    obtain ⟨vs, hv, hD⟩ := h.st.1
    exact et_test (ev_op (ev_lenQ (ev_op (ev_fld (ev_var rfl) h.hp T.cl_DataReader T.n_DataReader_tuples rfl) (ev_un ev_c ru_neg) (rv_ixL (sq_of h.ht) (by rw [List.reverse_cons, List.map_append]; exact atI_last _ _))) (sq_of hv)) ev_c (rv_gtT (by rw [dpa_len hD]; exact decide_eq_decide.mpr (by show (t.length : Int) > 0 ↔ 0 < t.length; omega))))
  · refine kE ?_ H1 (TupK.of e1) (Oth.of e1)
    unfold rClose
    cases stk with
    | nil => rfl
    | cons t ts =>
      have q : (rd && decide (0 < t.length)) = true := by simpa using hb
      show (if (rd && decide (0 < t.length)) = true then none else _) = none
      rw [if_pos q]
  cases stk with
  | nil => simp at hb
  | cons t ts =>
  cases as with
  | nil => exact h.st.elim
  | cons a ar =>
  have h1 := h.ex e1
  obtain ⟨vs, hv, hD⟩ := h1.st.1
  have q0 : (rd && decide (0 < t.length)) = false := by simpa using hb
  have rc : rClose ⟨t :: ts, rd, told⟩ = rItem ⟨ts, true, told⟩ (.tuple t) := by
    show (if (rd && decide (0 < t.length)) = true then none else _) = _
    rw [if_neg (by rw [q0]; decide)]
  rw [rc] at k kE
  have n1 := h1.n1 t (List.mem_cons_self ..)
  -- found = tuple(self.tuples.pop())
  have at_ : H1 z.tl = some (.lst (ar.reverse.map V.ref ++ [V.ref a])) := by
    have q := h1.ht
    rw [List.reverse_cons, List.map_append] at q
    exact q
  refine ⟨.ref z.p, rfl, z.p, A.c_DataReader, z.dx, _, .ref z.tl, rfl, h1.hp, T.cl_DataReader, T.n_DataReader_tuples, rfl, .inl ⟨rfl, _, sq_of at_⟩, z.tl, _, .ref a, rfl, rfl, at_, by simp, ?_⟩
  rw [List.dropLast_concat]
  have hp2 := h1.pop
  have nda : a ≠ z.tl := fun e => by
    have q := h.nd
    rw [e] at q
    simp at q
  refine ⟨a, vs, rfl, .inl ⟨sq_of (by rw [upd_ne nda]; exact hv), fun l hl => ?_⟩⟩
  have dl : Dp K (upd (upd H1 z.tl (.lst (ar.reverse.map V.ref))) l (.tup vs)) (.ref l) (.tuple t) := .tup (st_of upd_same) (dpa_tk ((TupK.lst h1.ht).trans (TupK.new hl)) hD n1)
  have hp3 := hp2.ex (Ex.new (o := .tup vs) hl)
  have tk3 : TupK H (upd (upd H1 z.tl (.lst (ar.reverse.map V.ref))) l (.tup vs)) := (TupK.of (e1)).trans ((TupK.lst h1.ht).trans (TupK.new hl))
  have ot3 : Oth (z.own (a :: ar)) H (upd (upd H1 z.tl (.lst (ar.reverse.map V.ref))) l (.tup vs)) := Oth.t (Oth.of (e1)) (Oth.t (Oth.upd (.inr (.inl rfl))) (Oth.of (Ex.new hl)))
  generalize upd (upd H1 z.tl (.lst (ar.reverse.map V.ref))) l (.tup vs) = H3 at dl hp3 tk3 ot3
  refine q_fld (v := .bl true) ev_c (ev_var rfl) hp3.hp T.cl_DataReader T.n_DataReader_ready rFs_len fun H4 e4 => ?_
  have h5 := (hp3.ex e4).setReady true
  have tk5 := tk3.trans ((TupK.of e4).trans (TupK.ins (o := .ins A.c_DataReader z.dx (rFs z.tl z.td true)) (hp3.ex e4).hp))
  have ot5 := Oth.t ot3 (Oth.t (Oth.of e4) (Oth.upd (o := .ins A.c_DataReader z.dx (rFs z.tl z.td true)) (.inl rfl)))
  have sub : ∀ b, z.own ar b → z.own (a :: ar) b := fun b hb => by
    rcases hb with e | e | e | e
    · exact .inl e
    · exact .inr (.inl e)
    · exact .inr (.inr (.inl e))
    · exact .inr (.inr (.inr (List.mem_cons_of_mem _ e)))
  refine ⟨_, rfl, z.p, z.dx, _, rfl, h5.hp, rfl, _, rfl, z, ar, _, n, _, .tuple t, rfl, ⟨dp_tk ((TupK.of e4).trans (TupK.ins (hp3.ex e4).hp)) dl n1, n1⟩, h5, hn, fun s' hs' H' m => k s' hs' H' (m.comp tk5 ot5 sub), fun hs' H' tk ot => kE hs' H' (tk5.trans tk) (KX.Oth.trans ot5 ot fun b _ _ => sub b)⟩
theorem sc_DataReader_take : FnScope ["self", "piece"] ["self", "piece"] (defScope s_DataReader_take) := ⟨rfl, rfl, rfl, by decide +kernel, rfl, by decide +kernel, by decide +kernel⟩
theorem ok_take (T : Txt w K mg A) : FnOk P w K mg base (L2.CX P w) 3 A.f_DataReader_take A.d_DataReader_take ["self", "piece"] (spM1 K A PieceV rTake) := by
  refine T.F_DataReader_take.okX sc_DataReader_take (fun vs H Q E h => ?_) (fun cdv Ar outer s H vs Q E hr h => ?_)
  · obtain ⟨z, as, s, n, v, d, rfl, _⟩ := h
    rfl
  obtain ⟨z, as, rs, n, v, l, rfl, ⟨rfl, hl⟩, h, hn, k, kE⟩ := h
  have nd := sc_DataReader_take.nd
  have G_DataReader_item := (ok_item (P := P) (base := base) T).mono (show 1 ≤ 2 by decide)
  have hr_DataReader_item := hr
  have G_DataReader_open_one := (ok_open (P := P) (base := base) T).mono (show 1 ≤ 2 by decide)
  have hr_DataReader_open_one := hr
  have G_DataReader_close_one := ok_close (P := P) (base := base) T
  have hr_DataReader_close_one := hr
  have G_DataReader_comma := (ok_comma (P := P) (base := base) T).mono (show 1 ≤ 2 by decide)
  have hr_DataReader_comma := hr
  have G_read_atom := ok_read_atom (P := P) (base := base) T
  have hr_read_atom := hr
  refine ⟨_, (pss_one (ps_if (pt_cmpR op_eq (pv 1) pe_str (nomark _)) (pss_one (ps_expr (pe_meth0 (pv 0) T.cl_DataReader T.M_DataReader_open_one G_DataReader_open_one hr_DataReader_open_one T.b_DataReader_open_one .nil (passes_call (takes_of rfl rfl rfl rfl) (fun _ _ _ _ h => h))))) (pss_one (ps_if (pt_cmpR op_eq (pv 1) pe_str (nomark _)) (pss_one (ps_expr (pe_meth0 (pv 0) T.cl_DataReader T.M_DataReader_close_one G_DataReader_close_one hr_DataReader_close_one T.b_DataReader_close_one .nil (passes_call (takes_of rfl rfl rfl rfl) (fun _ _ _ _ h => h))))) (pss_one (ps_if (pt_cmpR op_eq (pv 1) pe_str (nomark _)) (pss_one (ps_expr (pe_meth0 (pv 0) T.cl_DataReader T.M_DataReader_comma G_DataReader_comma hr_DataReader_comma T.b_DataReader_comma .nil (passes_call (takes_of rfl rfl rfl rfl) (fun _ _ _ _ h => h))))) (pss_one (ps_expr (pe_meth (pv 0) T.cl_DataReader T.M_DataReader_item G_DataReader_item hr_DataReader_item T.b_DataReader_item .nil (passes_call (takes_of rfl rfl rfl rfl) (fun _ _ _ _ h => h)) (pa_cons (pe_call G_read_atom hr_read_atom (by rfl) T.m_read_atom T.F_read_atom.kp T.b_read_atom .nil (passes_call (takes_of rfl rfl rfl rfl) (fun _ _ _ _ h => h)) (pa_cons (pv 1) pa_nil)) pa_nil)))))))))), ?_⟩
  refine s_if (b := decide (l = [91])) (et_test (ev_op (ev_var rfl) ev_c (rv_eqS (b := [91])))) (fun hb H1 e1 => ?_) (fun hb H1 e1 => ?_)
  · have h1 := h.ex e1
    have rt : rTake rs l = rOpen rs := if_pos (of_decide_eq_true hb)
    rw [rt] at k kE
    exact ⟨_, rfl, z.p, z.dx, _, rfl, h1.hp, rfl, z, as, rs, n, rfl, h1, hn, fun s' hs' H' m => k s' hs' H' (m.from e1), fun hs' H' tk ot => kE hs' H' ((TupK.of e1).trans tk) (Oth.t (Oth.of e1) ot)⟩
  have ne1 := of_decide_eq_false hb
  refine s_if (b := decide (l = [93])) (et_test (ev_op (ev_var rfl) ev_c (rv_eqS (b := [93])))) (fun hb H2 e2 => ?_) (fun hb H2 e2 => ?_)
  · have e12 := e1.trans e2
    have h1 := h.ex e12
    have rt : rTake rs l = rClose rs := (if_neg ne1).trans (if_pos (of_decide_eq_true hb))
    rw [rt] at k kE
    exact ⟨_, rfl, z.p, z.dx, _, rfl, h1.hp, rfl, z, as, rs, n, rfl, h1, hn, fun s' hs' H' m => k s' hs' H' (m.from e12), fun hs' H' tk ot => kE hs' H' ((TupK.of e12).trans tk) (Oth.t (Oth.of e12) ot)⟩
  have ne2 := of_decide_eq_false hb
  refine s_if (b := decide (l = [44])) (et_test (ev_op (ev_var rfl) ev_c (rv_eqS (b := [44])))) (fun hb H3 e3 => ?_) (fun hb H3 e3 => ?_)
  · have e13 := (e1.trans e2).trans e3
    have h1 := h.ex e13
    have rt : rTake rs l = rComma rs := ((if_neg ne1).trans (if_neg ne2)).trans (if_pos (of_decide_eq_true hb))
    rw [rt] at k kE
    exact ⟨_, rfl, z.p, z.dx, _, rfl, h1.hp, rfl, z, as, rs, n, rfl, h1, hn, fun s' hs' H' m => k s' hs' H' (m.from e13), fun hs' H' tk ot => kE hs' H' ((TupK.of e13).trans tk) (Oth.t (Oth.of e13) ot)⟩
  have ne3 := of_decide_eq_false hb
  have e13 := (e1.trans e2).trans e3
  have rt : rTake rs l = (readAtom l).bind (rItem rs) := ((if_neg ne1).trans (if_neg ne2)).trans (if_neg ne3)
  rw [rt] at k kE
  refine ⟨_, rfl, z.p, z.dx, _, rfl, (h.ex e13).hp, rfl, _, rfl, l, rfl, hl, fun r hr' H4 e4 => ?_, fun hr' H4 e4 => ?_⟩
  · obtain ⟨d, hd, rfl⟩ := Option.map_eq_some_iff.mp hr'
    rw [hd] at k kE
    have e14 := e13.trans e4
    exact ⟨z, as, rs, n, vOf d, d, rfl, readAtom_v hd, h.ex e14, hn, fun s' hs' H' m => k s' hs' H' (m.from e14), fun hs' H' tk ot => kE hs' H' ((TupK.of e14).trans tk) (Oth.t (Oth.of e14) ot)⟩
  · have e14 := e13.trans e4
    refine kE ?_ H4 (TupK.of e14) (Oth.of e14)
    rw [Option.map_eq_none_iff.mp hr']
    rfl
end
end K53

set_option autoImplicit false
set_option Elab.async false
set_option linter.all false
set_option maxRecDepth 100000
set_option maxHeartbeats 4000000
namespace K53
open PySem PySem.Spec PyProof.Rows L2 KX Evl
/-! ### read_data -/
theorem pRun_parts (l : List Nat) : ∀ q ∈ (pRun l).1, q.length ≤ l.length + 1 := by
  have : ∀ n, ∀ l : List Nat, l.length = n → ∀ q ∈ (pRun l).1, q.length ≤ n + 1 := by
    intro n
    induction n with
    | zero => intro l h; rw [List.eq_nil_of_length_eq_zero h]; intro q hq; cases hq
    | succ n ih =>
      intro l h
      have ne : l ≠ [] := by intro z; rw [z] at h; simp at h
      have hl : l.dropLast.length = n := by rw [List.length_dropLast, h]; rfl
      have i := ih l.dropLast hl
      have b := pRun_len l.dropLast
      rw [← List.dropLast_concat_getLast ne, pRun_snoc]
      unfold pStep
      by_cases hs : sep (l.getLast ne) = true
      · rw [if_pos hs]
        intro q hq
        rcases List.mem_append.mp hq with hq | hq
        · by_cases h2 : (pRun l.dropLast).2 = []
          · rw [if_pos h2] at hq
            exact Nat.le_succ_of_le (i q hq)
          · rw [if_neg h2] at hq
            rcases List.mem_append.mp hq with hq | hq
            · exact Nat.le_succ_of_le (i q hq)
            · rw [List.mem_singleton.mp hq]
              omega
        · rw [List.mem_singleton.mp hq]
          show 1 ≤ _
          omega
      · rw [if_neg hs]
        exact fun q hq => Nat.le_succ_of_le (i q hq)
  exact this _ l rfl
theorem pieces_part (l : List Nat) : ∀ q ∈ pieces l, q.length ≤ l.length + 1 := by
  intro q hq
  unfold pieces at hq
  rcases List.mem_append.mp hq with hq | hq
  · exact pRun_parts l q hq
  · by_cases h2 : (pRun l).2 = []
    · rw [if_pos h2] at hq; cases hq
    · rw [if_neg h2] at hq
      rw [List.mem_singleton.mp hq]
      exact Nat.le_succ_of_le (pRun_len l)
theorem pieces_count (l : List Nat) : (pieces l).length ≤ 2 * l.length := by
  unfold pieces
  have c := pRun_count l
  rw [List.length_append]
  by_cases h2 : (pRun l).2 = []
  · rw [if_pos h2]; exact c.1
  · rw [if_neg h2]; exact c.2 h2
def rRun (s : RS) : List (List Nat) → Option RS
  | [] => some s
  | l :: r => (rTake s l).bind fun s' => rRun s' r
theorem rRun_snoc : ∀ (s : RS) (r : List (List Nat)) (l : List Nat), rRun s (r ++ [l]) = (rRun s r).bind fun s' => rTake s' l
  | s, [], l => by
    show (rTake s l).bind (fun s' => some s') = rTake s l
    cases rTake s l <;> rfl
  | s, a :: r, l => by
    show (rTake s a).bind _ = ((rTake s a).bind _).bind _
    cases rTake s a with
    | none => rfl
    | some s' => exact rRun_snoc s' r l
theorem rRun_none : ∀ (s : RS) (r q : List (List Nat)), rRun s r = none → rRun s (r ++ q) = none
  | s, [], q, h => by cases h
  | s, a :: r, q, h => by
    show (rTake s a).bind _ = none
    have h' : ((rTake s a).bind fun s' => rRun s' r) = none := h
    cases e : rTake s a with
    | none => rfl
    | some s' =>
      rw [e] at h'
      exact rRun_none s' r q h'
def rEnd (s : RS) : Option PyData := match s.stack, s.told with | [], [d] => some d | _, _ => none
def readText (l : List Nat) : Option PyData := (rRun ⟨[], true, []⟩ (pieces l)).bind rEnd
def readData : PyData → Option PyData
  | .str x => readText x.cps.toList
  | _ => none
def spInit (K : PySem.W.Frag) (A : Ad) : Sp := fun vs H Q _ => ∃ p dx, vs = [.ref p] ∧ H p = some (.ins A.c_DataReader dx []) ∧ ∀ z : RP, z.p = p → H z.tl = none → H z.td = none → ∀ H', RdAt K A H' z [] ⟨[], true, []⟩ 0 → Oth (fun b => b = p) H H' → Q .non H'
def ReadPre : PyData → Prop
  | .str x => x.length ≤ 40000
  | _ => True
/-- of one datum, a datum -/
def spRD (K : PySem.W.Frag) (A : Ad) (Pre : PyData → Prop) (f : PyData → Option PyData) : Sp := fun vs H Q E => ∃ v d, vs = [v] ∧ Dp K H v d ∧ Pre d ∧ (∀ r, f d = some r → ∀ u H', Ex H H' → DpN K H' u r → Q u H') ∧ (f d = none → ∀ H', Ex H H' → E (.ref A.c_Malformed) none H')
section
variable {P : Program} {w : World} {K : PySem.W.Frag} {mg : Str → Option Value} {base : Heap} {A : Ad}
theorem sc_DataReader_init__ : FnScope ["self"] ["self"] (defScope s_DataReader_init__) := ⟨rfl, rfl, rfl, by decide +kernel, rfl, by decide +kernel, by decide +kernel⟩
theorem ok_init (T : Txt w K mg A) : FnOk P w K mg base CX0 1 A.f_DataReader_init__ A.d_DataReader_init__ ["self"] (spInit K A) := by
  refine T.F_DataReader_init__.ok sc_DataReader_init__ (fun vs H Q E h => ?_) (fun cdv Ar outer s H vs Q E hr h => ?_)
  · obtain ⟨p, dx, rfl, _⟩ := h
    rfl
  obtain ⟨p, dx, rfl, hp, k⟩ := h
  have nd := sc_DataReader_init__.nd
  refine ⟨_, (pss_cons (ps_fld (pv 0) (pe_lst pa_nil) rfl)
      (pss_cons (ps_fld (pv 0) pe_bl rfl)
      (pss_one (ps_fld (pv 0) (pe_lst pa_nil) rfl)))), ?_⟩
  refine q_fldL (xs := []) (el_lst ea_nil (by decide)) (ev_var rfl) hp T.cl_DataReader T.n_DataReader_tuples (by decide) fun tl H1 htl e1 h1 => ?_
  have p1 := e1 _ _ hp
  refine q_fld (v := .bl true) ev_c (ev_var rfl) upd_same T.cl_DataReader T.n_DataReader_ready (by show 1 < 1000; decide) fun H2 e2 => ?_
  refine s_fldL (xs := []) (el_lst ea_nil (by decide)) (ev_var rfl) upd_same T.cl_DataReader T.n_DataReader_told (by show 2 < 1000; decide) fun td H3 htd e3 h3 => ?_
  have ntl : tl ≠ p := fun e => by rw [e, hp] at htl; cases htl
  have htl1 : ∀ o, (upd H1 p o) tl = some (.lst []) := fun o => by rw [upd_ne ntl]; exact h1
  have htl2 := e2 _ _ (htl1 _)
  have ntd : td ≠ p := fun e => by rw [e, upd_same] at htd; cases htd
  have ntt : tl ≠ td := fun e => by rw [← e, upd_ne ntl, htl2] at htd; cases htd
  have htl3 : H3 tl = some (.lst []) := e3 _ _ (by rw [upd_ne ntl]; exact htl2)
  have htdH : H td = none := by
    cases q : H td with
    | none => rfl
    | some o =>
      have q1 := e1 _ _ q
      have q2 := e2 td o (by rw [upd_ne ntd]; exact q1)
      rw [upd_ne ntd, q2] at htd
      cases htd
  refine k ⟨p, dx, tl, td⟩ rfl htl htdH _ ⟨?_, ?_, ⟨[], ?_, .nil⟩, trivial, ?_, (fun t h => by cases h), rfl, Nat.zero_le _, (fun t h => by cases h), Nat.le_refl _⟩ ?_
  · exact upd_same
  · show (upd H3 p _) tl = _
    rw [upd_ne ntl]
    exact htl3
  · show (upd H3 p _) td = _
    rw [upd_ne ntd]
    exact h3
  · show [tl, td].Nodup
    simp [ntt]
  · intro b o hb nb
    rw [upd_ne nb]
    refine e3 b o ?_
    rw [upd_ne nb]
    refine e2 b o ?_
    rw [upd_ne nb]
    exact e1 b o hb
theorem sc_read_data : FnScope ["text", "reader", "piece"] ["text"] (defScope s_read_data) := ⟨rfl, rfl, rfl, by decide +kernel, rfl, by decide +kernel, by decide +kernel⟩
theorem ok_read_data (T : Txt w K mg A) : FnOk P w K mg base (L2.CX P w) 4 A.f_read_data A.d_read_data ["text"] (spRD K A ReadPre readData) := by
  refine T.F_read_data.okX sc_read_data (fun vs H Q E h => ?_) (fun cdv Ar outer s H vs Q E hr h => ?_)
  · obtain ⟨v, d, rfl, _⟩ := h
    rfl
  obtain ⟨v, d, rfl, hd, pre, k, kE⟩ := h
  have nd := sc_read_data.nd
  have G_DataReader := (ok_init (P := P) (base := base) T).mono (show 1 ≤ 2 by decide)
  have hr_DataReader := hr
  have G_pieces_of := (ok_pieces_of (P := P) (base := base) T).mono (show 1 ≤ 3 by decide)
  have hr_pieces_of := hr
  have G_DataReader_take := ok_take (P := P) (base := base) T
  have hr_DataReader_take := hr
  refine ⟨_, (pss_cons (ps_if (pt_not (pt_val (pe_callB call_isi (by rfl) T.z_isinstance (by decide +kernel) (pa_cons (pv 0) (pa_cons (pe_bltn (v := .ty "str") (by rfl) T.z_str (by decide +kernel) rfl) pa_nil))))) (pss_one (ps_raise rfl (takes_of rfl rfl rfl rfl) (pmk_own PySem.F.excBase_ValueError T.x_Malformed T.g_Malformed T.k_Malformed (raises_own T.b_Malformed T.t_Malformed) (by exact rfl)))) pss_nil)
      (pss_cons (ps_set (i := 1) nd rfl (Or.inl rfl) (pe_make0 T.mk_DataReader G_DataReader hr_DataReader (by rfl) T.g_DataReader T.b_DataReader_init__ .nil pass0))
      (pss_cons (ps_for (passes_of rfl) (by rfl) (pi_list (pe_call G_pieces_of hr_pieces_of (by rfl) T.m_pieces_of T.F_pieces_of.kp T.b_pieces_of .nil pass0 (pa_cons (pv 0) pa_nil))) (pg_name (i := 2) nd rfl (Or.inl rfl))
        (pss_one (ps_expr (pe_meth (pv 1) T.cl_DataReader T.M_DataReader_take G_DataReader_take hr_DataReader_take T.b_DataReader_take .nil (passes_call (takes_of rfl rfl rfl rfl) (fun _ _ _ _ h => h)) (pa_cons (pv 2) pa_nil)))))
      (pss_cons (ps_if (PW.pt (pw_or (pt_cmpR op_gt (pe_callB call_len_seq (by rfl) T.z_len (by decide +kernel) (pa_cons (pe_fld (pv 1) rfl) pa_nil)) pe_int (nomark _)) (pw_or1 (pt_cmpR op_ne (pe_callB call_len_seq (by rfl) T.z_len (by decide +kernel) (pa_cons (pe_fld (pv 1) rfl) pa_nil)) pe_int (nomark _))))) (pss_one (ps_raise rfl (takes_of rfl rfl rfl rfl) (pmk_own PySem.F.excBase_ValueError T.x_Malformed T.g_Malformed T.k_Malformed (raises_own T.b_Malformed T.t_Malformed) (by exact rfl)))) pss_nil)
      (pss_one (ps_ret (pe_ix ix_list (pe_fld (pv 1) rfl) pe_int (fun _ _ => rfl)))))))), ?_⟩
  refine q_when (b := !is_str d) (et_not (et_test (ev_isi (ev_var rfl) hd (kit_str d)))) (fun hb H1 e1 => ?_) (fun hb H1 e1 => ?_)
  · refine kE ?_ H1 e1
    cases d <;> first | rfl | (simp [is_str] at hb)
  obtain ⟨x, rfl⟩ : ∃ x, d = .str x := str_of (by revert hb; cases is_str d <;> simp)
  cases hd
  obtain ⟨l, rfl⟩ : ∃ l, x = S l := ⟨_, (S_of x).symm⟩
  have hl : l.length ≤ 40000 := by
    have q : (S l).length ≤ 40000 := pre
    rw [S_len] at q
    exact q
  have hrd : readData (.str (S l)) = readText l := rfl
  rw [hrd] at k kE
  have cnt := pieces_count l
  have run_end : ∀ {i : Nat}, rRun ⟨[], true, []⟩ ((pieces l).take i) = none → readText l = none := fun {i} q => by
    unfold readText
    rw [← List.take_append_drop i (pieces l), rRun_none _ _ _ q]
    rfl
  -- reader = DataReader()
  refine fun p dx hp hdx ne => ⟨p, dx, rfl, upd_same, fun z zp ftl ftd H2 rd ot => ⟨rfl, ?_⟩⟩
  have e12 : Ex H1 H2 := fun b o hb => ot b o (by
    rw [upd_ne (fun e => by rw [e, hp] at hb; cases hb), upd_ne (fun e => by rw [e, hdx] at hb; cases hb)]
    exact hb) fun e => by rw [e, hp] at hb; cases hb
  subst zp
  have fr : ∀ b, z.own [] b → H1 b = none := fun b hb => by
    have g : ∀ b, (upd (upd H1 dx (.own z.p)) z.p (.ins A.c_DataReader dx [])) b = none → H1 b = none := fun b hb => by
      cases q : H1 b with
      | none => rfl
      | some o =>
        rw [upd_ne (fun e => by rw [e, hp] at q; cases q), upd_ne (fun e => by rw [e, hdx] at q; cases q), q] at hb
        cases hb
    rcases hb with e | e | e | e
    · rw [e]; exact hp
    · rw [e]; exact g _ ftl
    · rw [e]; exact g _ ftd
    · cases e
  refine q_forNL (xs := (pieces l).map strV) (el_call (ea_cons (ev_var rfl) ea_nil) (fun H1 e1 Q q E => ⟨l, rfl, hl, fun p H' hp e h => q p H' hp e h⟩))
    (fun f i σ' H' => ∃ as s, H' f = some (.lst ((pieces l).map strV)) ∧ ¬ z.own as f ∧ Ex H1 H' ∧ (∀ b, z.own as b → H1 b = none) ∧ RdAt K A H' z as s i ∧ rRun ⟨[], true, []⟩ ((pieces l).take i) = some s ∧ ∃ v2, σ' = [some (.str (S l)), some (.ref z.p), v2])
    (fun f H3 hf e3 h3 => ⟨[], _, h3, fun hb => ?_, e12.trans e3, fr, rd.ex e3, rfl, none, rfl⟩) (fun f i σ' H' hi h => ?_) (fun f i x σ' H' hx h => ?_) (fun f σ' H' h => ?_)
  · have q : ∀ b, z.own [] b → ∃ o, H2 b = some o := fun b hb => by
      rcases hb with e | e | e | e
      · exact ⟨_, e ▸ rd.hp⟩
      · exact ⟨_, e ▸ rd.ht⟩
      · obtain ⟨vs, q, _⟩ := rd.hd
        exact ⟨_, e ▸ q⟩
      · cases e
    obtain ⟨o, q⟩ := q f hb
    rw [hf] at q
    cases q
  · obtain ⟨as, s, h1, _⟩ := h
    exact sq_of h1
  · obtain ⟨as, s, hf, nf, ex, fr, ra, rn, v2, rfl⟩ := h
    obtain ⟨q, hq, rfl⟩ : ∃ q, (pieces l)[i]? = some q ∧ strV q = x := by
      rw [List.getElem?_map, Option.map_eq_some_iff] at hx
      exact hx
    have hi : i < (pieces l).length := (List.getElem?_eq_some_iff.mp hq).1
    have ql := pieces_part l q (List.mem_of_getElem? hq)
    have sn : rRun ⟨[], true, []⟩ ((pieces l).take (i + 1)) = rTake s q := by
      rw [take_snoc hq, rRun_snoc, rn]
      rfl
    refine ⟨_, rfl, z.p, z.dx, _, rfl, ra.hp, rfl, _, rfl, z, as, s, i, _, q, rfl, ⟨rfl, by omega⟩, ra, by omega, fun s' hs' H'' m => ?_, fun hs' H'' tk ot => ?_⟩
    · obtain ⟨as', q1, q2⟩ := m.at_
      refine ⟨as', s', m.oth f _ hf nf, fun hb => ?_, m.oth.ex ex fr, fun b hb => ?_, q1, sn.trans hs', some (strV q), rfl⟩
      · rcases q2 f hb with e | e
        · exact nf e
        · rw [hf] at e; cases e
      · rcases q2 b hb with e | e
        · exact fr b e
        · exact fresh_back ex e
    · exact kE (run_end (sn.trans hs')) H'' (e1.trans (ot.ex ex fr))
  · obtain ⟨as, s, hf, nf, ex, fr, ra, rn, v2, rfl⟩ := h
    rw [List.length_map, List.take_length] at rn
    have rt : readText l = rEnd s := by
      unfold readText
      rw [rn]
      rfl
    rw [rt] at k kE
    have hlen := ra.st.len
    obtain ⟨vs, hv, hD⟩ := ra.hd
    have hdl := dpa_len hD
    refine q_when (b := decide (0 < s.stack.length) || !decide (s.told.length = 1)) (et_or (et_test (ev_op (ev_lenQ (ev_fld (ev_var rfl) ra.hp T.cl_DataReader T.n_DataReader_tuples rfl) (sq_of ra.ht)) ev_c (rv_gtT (by rw [List.length_map, List.length_reverse, hlen]; exact decide_eq_decide.mpr (by omega))))) fun _ => et_test (ev_op (ev_lenQ (ev_fld (ev_var rfl) ra.hp T.cl_DataReader T.n_DataReader_told rfl) (sq_of hv)) ev_c (rv_neI (by rw [hdl]; exact congrArg not (decide_eq_decide.mpr (by omega)))))) (fun hb H4 e4 => ?_) (fun hb H4 e4 => ?_)
    · refine kE ?_ H4 ((e1.trans ex).trans e4)
      unfold rEnd
      obtain ⟨stk, rd, told⟩ := s
      cases stk with
      | cons a b => rfl
      | nil =>
        cases told with
        | nil => rfl
        | cons a b =>
          cases b with
          | cons c d => rfl
          | nil => simp at hb
    · obtain ⟨stk, rd, told⟩ := s
      cases stk with
      | cons a b => simp at hb
      | nil =>
        cases told with
        | nil => simp at hb
        | cons a b =>
          cases b with
          | cons c d => simp at hb
          | nil =>
            cases hD with
            | cons dv dn =>
              cases dn
              have r4 := ra.ex e4
              have nl : noList a = true := by simpa [noListA] using ra.n2
              refine s_ret (ev_op (ev_fld (ev_var rfl) r4.hp T.cl_DataReader T.n_DataReader_told rfl) ev_c (rv_ixL (i := ((0 : Nat) : Int)) (sq_of (e4 _ _ hv)) (atI_nat (j := 0) rfl))) fun H5 e5 => ?_
              exact k a rfl _ H5 (((e1.trans ex).trans e4).trans e5) ⟨dp_mono (e4.trans e5) dv, nl⟩
end
end K53

set_option autoImplicit false
set_option Elab.async false
set_option linter.all false
set_option maxRecDepth 100000
set_option maxHeartbeats 4000000
namespace K53
open PySem PySem.Spec PyProof.Rows L2 KX Evl
theorem s_forR3 {ta : TA} {tb : TS} {D : Ends} {σ : L2.St} {H : Hp} {j n : Nat} {lo hi c : Int} (h : EvA ta σ H [.int lo, .int hi, .int c]) (rg : RgC lo hi c n) (Pv : Nat → L2.St → Hp → Prop) (h0 : ∀ H1, Ex H H1 → Pv 0 σ H1)
    (hs : ∀ i σ' H', i < n → Pv i σ' H' → tb { D with nx := Pv (i + 1), ct := Pv (i + 1), bk := D.nx } (σ'.set j (some (.int (lo + (i : Nat) * c)))) H') (hd : ∀ σ' H', Pv n σ' H' → D.nx σ' H') : tFor (iRng3 ta) (gName j) tb D σ H :=
  h H (Ex.refl H) _ fun H1 e => ⟨lo, hi, c, n, rfl, rg, for_it walk_rangeC Pv (h0 H1 e) (fun _ _ _ _ _ => trivial) (fun i x σ' Ha Hb hi p y => by
    obtain ⟨rfl, rfl⟩ := y
    exact hs i σ' _ hi p) hd⟩
/-! ### write_data -/
theorem joinS_S : ∀ fs : List (List Nat), Str.join (S []) (fs.map S) = S fs.flatten
  | [] => rfl
  | [l] => by
    show S l = S [l].flatten
    simp
  | l :: k :: r => by
    show S l ++ S [] ++ Str.join (S []) ((k :: r).map S) = _
    rw [joinS_S (k :: r), S_app, S_app, List.append_nil]
    rfl
theorem join_S (fs : List (List Nat)) : Txt.join (S []) (fs.map S) = S fs.flatten := (TL.join_eq _ _).trans (joinS_S fs)
mutual
/-- what is written of a datum that stands so deep -/
def wText (j : Nat) : PyData → Option (List Nat)
  | .tuple xs => if j ≤ 1000 then (wSep true (j + 1) xs).map fun r => 91 :: (r ++ [93]) else none
  | .none => none
  | .bool b => (atomText (.bool b)).map fun z => z.cps.toList
  | .int i => (atomText (.int i)).map fun z => z.cps.toList
  | .str x => (atomText (.str x)).map fun z => z.cps.toList
  | .list _ => none
  | .dict _ => none
def wSep (f : Bool) (j : Nat) : List PyData → Option (List Nat)
  | [] => some []
  | x :: r => (wText j x).bind fun a => (wSep false j r).map fun b => (if f then [] else [44]) ++ (a ++ b)
end
mutual
def wsize : PyData → Nat
  | .tuple xs => 2 + wsizeA xs
  | _ => 1
def wsizeA : List PyData → Nat
  | [] => 0
  | x :: r => wsize x + 1 + wsizeA r
end
mutual
def shortAll : PyData → Prop
  | .tuple xs => shortAllA xs
  | .str x => x.length ≤ 100000
  | _ => True
def shortAllA : List PyData → Prop
  | [] => True
  | x :: r => shortAll x ∧ shortAllA r
end
theorem shortAllA_of : ∀ {xs : List PyData} {d : PyData}, shortAllA xs → d ∈ xs → shortAll d
  | x :: r, d, h, m => by
    rcases List.mem_cons.mp m with e | e
    · rw [e]; exact h.1
    · exact shortAllA_of h.2 e
theorem shortAll_s : ∀ {d : PyData}, shortAll d → ShortS d
  | .str _, h => h
  | .none, _ => trivial
  | .bool _, _ => trivial
  | .int _, _ => trivial
  | .list _, _ => trivial
  | .tuple _, _ => trivial
  | .dict _, _ => trivial
theorem wsize_pos : ∀ d : PyData, 1 ≤ wsize d
  | .tuple xs => by simp only [wsize]; omega
  | .none => Nat.le_refl _
  | .bool _ => Nat.le_refl _
  | .int _ => Nat.le_refl _
  | .str _ => Nat.le_refl _
  | .list _ => Nat.le_refl _
  | .dict _ => Nat.le_refl _
/-- what waits: a sign, a datum that stands so deep -/
inductive WI where
  | txt (l : List Nat)
  | dat (d : PyData) (j : Nat)
def WI.size : WI → Nat | .txt _ => 1 | .dat d _ => wsize d
def wiSum : List WI → Nat | [] => 0 | a :: r => a.size + wiSum r
theorem wiSum_app : ∀ (a b : List WI), wiSum (a ++ b) = wiSum a + wiSum b
  | [], b => (Nat.zero_add _).symm
  | a :: r, b => by
    show a.size + wiSum (r ++ b) = a.size + wiSum r + wiSum b
    rw [wiSum_app r b, Nat.add_assoc]
theorem wiSum_len : ∀ (a : List WI), a.length ≤ wiSum a
  | [] => Nat.le_refl _
  | a :: r => by
    have q := wiSum_len r
    have p : 1 ≤ a.size := by cases a with
      | txt l => exact Nat.le_refl _
      | dat d j => exact wsize_pos d
    show r.length + 1 ≤ a.size + wiSum r
    omega
def outW : List WI → Option (List Nat)
  | [] => some []
  | .txt l :: r => (outW r).map (l ++ ·)
  | .dat d j :: r => (wText j d).bind fun a => (outW r).map (a ++ ·)
def wItems (f : Bool) (j : Nat) : List PyData → List WI
  | [] => []
  | x :: r => (if f then [] else [.txt [44]]) ++ .dat x j :: wItems false j r
theorem wiSum_items : ∀ (f : Bool) (j : Nat) (xs : List PyData), wiSum (wItems f j xs) ≤ wsizeA xs
  | f, j, [] => Nat.le_refl _
  | f, j, x :: r => by
    have q := wiSum_items false j r
    unfold wItems
    rw [wiSum_app]
    simp only [wsizeA, wiSum, WI.size]
    cases f with
    | true => simp only [if_true, wiSum]; omega
    | false => simp only [Bool.false_eq_true, if_false, wiSum, WI.size]; omega
theorem wSep_cons (f : Bool) (j : Nat) (x : PyData) (r : List PyData) : wSep f j (x :: r) = (wText j x).bind fun a => (wSep false j r).map fun b => (if f then [] else [44]) ++ (a ++ b) := by rw [wSep]
theorem wText_tup (j : Nat) (xs : List PyData) : wText j (.tuple xs) = if j ≤ 1000 then (wSep true (j + 1) xs).map fun r => 91 :: (r ++ [93]) else none := by rw [wText]
theorem outW_items : ∀ (xs : List PyData) (f : Bool) (j : Nat) (rest : List WI), outW (wItems f j xs ++ rest) = (wSep f j xs).bind fun a => (outW rest).map (a ++ ·)
  | [], f, j, rest => by
    rw [wSep]
    show outW rest = (outW rest).map (fun b => [] ++ b)
    cases outW rest <;> rfl
  | x :: r, f, j, rest => by
    have ih := outW_items r false j rest
    have e : outW (wItems false j (x :: r) ++ rest) = (outW (wItems true j (x :: r) ++ rest)).map ([44] ++ ·) := rfl
    have t : outW (wItems true j (x :: r) ++ rest) = (wText j x).bind fun a => (outW (wItems false j r ++ rest)).map (a ++ ·) := rfl
    rw [wSep_cons]
    cases f with
    | true =>
      rw [t, ih]
      cases wText j x with
      | none => rfl
      | some a =>
        cases wSep false j r with
        | none => rfl
        | some b =>
          cases outW rest with
          | none => rfl
          | some c => simp
    | false =>
      rw [e, t, ih]
      cases wText j x with
      | none => rfl
      | some a =>
        cases wSep false j r with
        | none => rfl
        | some b =>
          cases outW rest with
          | none => rfl
          | some c => simp
theorem outW_tuple (xs : List PyData) (j : Nat) (h : j ≤ 1000) (rest : List WI) : outW (.dat (.tuple xs) j :: rest) = (outW (wItems true (j + 1) xs ++ .txt [93] :: rest)).map ([91] ++ ·) := by
  rw [outW_items]
  show (wText j (.tuple xs)).bind _ = _
  rw [wText_tup, if_pos h]
  have e : outW (.txt [93] :: rest) = (outW rest).map ([93] ++ ·) := rfl
  rw [e]
  cases wSep true (j + 1) xs with
  | none => rfl
  | some a =>
    cases outW rest with
    | none => rfl
    | some c => simp
theorem wText_atom (d : PyData) (j : Nat) (h : (is_tuple d && decide (j ≤ 1000)) = false) : wText j d = (atomText d).map fun z => z.cps.toList := by
  cases d with
  | tuple xs =>
    have q : ¬ j ≤ 1000 := by simpa [is_tuple] using h
    unfold wText
    rw [if_neg q]
    rfl
  | _ => unfold wText; rfl
theorem wsizeA_drop : ∀ (xs : List PyData) (n : Nat), wsizeA (xs.drop n) ≤ wsizeA xs
  | [], n => by rw [List.drop_nil]; exact Nat.le_refl _
  | x :: r, 0 => Nat.le_refl _
  | x :: r, n + 1 => by
    have q := wsizeA_drop r n
    show wsizeA (r.drop n) ≤ wsizeA (x :: r)
    simp only [wsizeA]
    omega
theorem wsizeA_len : ∀ (xs : List PyData), xs.length ≤ wsizeA xs
  | [] => Nat.le_refl _
  | x :: r => by
    have q := wsizeA_len r
    simp only [wsizeA, List.length_cons]
    omega
theorem strV_map (fs : List (List Nat)) : fs.map strV = (fs.map S).map V.str := by rw [List.map_map]; rfl
def writeData (d : PyData) : Option (List Nat) := wText 1 d
def WPre (d : PyData) : Prop := wsize d ≤ 20000 ∧ shortAll d ∧ ∀ r, writeData d = some r → r.length ≤ 1000000
section
variable {P : Program} {w : World} {K : PySem.W.Frag} {mg : Str → Option Value} {base : Heap} {A : Ad}
/-- a waiting pair -/
def WkRel (K : PySem.W.Frag) (H : Hp) (v : V) (k : Int) : WI → Prop
  | .txt l => v = .str (S l) ∧ k = 0
  | .dat d j => Dp K H v d ∧ k = (j : Int) ∧ 1 ≤ j ∧ shortAll d
def WkAt (K : PySem.W.Frag) (H H' : Hp) : List Addr → List WI → Prop
  | [], [] => True
  | t :: r, x :: xs => (∃ v k, H' t = some (.tup [v, .int k]) ∧ WkRel K H v k x) ∧ WkAt K H H' r xs
  | _, _ => False
theorem WkAt.len {H H' : Hp} : ∀ {ts : List Addr} {xs : List WI}, WkAt K H H' ts xs → ts.length = xs.length
  | [], [], _ => rfl
  | a :: as, t :: ts, h => congrArg (· + 1) (WkAt.len h.2)
  | [], _ :: _, h => h.elim
  | _ :: _, [], h => h.elim
theorem WkAt.tk {H H1 H2 : Hp} (k : TupK H1 H2) : ∀ {ts : List Addr} {xs : List WI}, WkAt K H H1 ts xs → WkAt K H H2 ts xs
  | [], [], _ => trivial
  | a :: as, t :: ts, h => ⟨by
      obtain ⟨v, j, q1, q2⟩ := h.1
      exact ⟨v, j, k.tup _ _ q1, q2⟩, WkAt.tk k h.2⟩
  | [], _ :: _, h => h.elim
  | _ :: _, [], h => h.elim
theorem sc_write_data : FnScope ["data", "waiting", "found", "one", "depth", "k"] ["data"] (defScope s_write_data) := ⟨rfl, rfl, rfl, by decide +kernel, rfl, by decide +kernel, by decide +kernel⟩
theorem ok_write_data (T : Txt w K mg A) : FnOk P w K mg base (L2.CX P w) 4 A.f_write_data A.d_write_data ["data"] (spR K A.c_Malformed WPre fun d => (writeData d).map strV) := by
  refine T.F_write_data.okX sc_write_data (fun vs H Q E h => ?_) (fun cdv Ar outer s H vs Q E hr h => ?_)
  · obtain ⟨v, d, rfl, _⟩ := h
    rfl
  obtain ⟨v, d, rfl, hd, ⟨sz, sa, tl⟩, k, kE⟩ := h
  have nd := sc_write_data.nd
  obtain ⟨_, v_MOST_DEPTH⟩ := T.v_MOST_DEPTH
  have G_atom_text := ok_atom_text (P := P) (base := base) T
  have hr_atom_text := hr
  refine ⟨_, (pss_cons (ps_par (i := 1) (j := 2) (by rfl) nd rfl rfl (by decide) rfl rfl (pa_cons (pe_lst (pa_cons (pe_tup (pa_cons (pv 0) (pa_cons pe_int pa_nil))) pa_nil)) (pa_cons (pe_lst pa_nil) pa_nil)) (by rfl))
      (pss_cons (ps_while (passes_of rfl) (pt_cmpR op_gt (pe_callB call_len_seq (by rfl) T.z_len (by decide +kernel) (pa_cons (pv 1) pa_nil)) pe_int (nomark _))
        (pss_cons (ps_asg (pe_bm0 PySem.F.plainAttrs_list PySem.F.slot_list_pop PySem.F.type_list_pop mt_pop (pv 1)) (pg_tup (by rfl) (pgs_cons (pg_name (i := 3) nd rfl (Or.inl rfl)) (pgs_cons (pg_name (i := 4) nd rfl (Or.inl rfl)) pgs_nil))))
      (pss_one (ps_if (pt_cmpR op_eq (pv 4) pe_int (nomark _)) (pss_one (ps_expr (pe_bm PySem.F.plainAttrs_list PySem.F.slot_list_append PySem.F.type_list_append mt_append (pv 2) (pa_cons (pv 3) pa_nil)))) (pss_one (ps_if (PW.pt (pw_and (pt_val (pe_callB call_isi (by rfl) T.z_isinstance (by decide +kernel) (pa_cons (pv 3) (pa_cons (pe_bltn (v := .ty "tuple") (by rfl) T.z_tuple (by decide +kernel) rfl) pa_nil)))) (pw_and1 (pt_cmpR op_le (pv 4) (pe_glob (v := .int 1000) (by rfl) v_MOST_DEPTH ⟨_, rfl⟩) (nomark _))))) (pss_cons (ps_expr (pe_bm PySem.F.plainAttrs_list PySem.F.slot_list_append PySem.F.type_list_append mt_append (pv 2) (pa_cons pe_str pa_nil)))
      (pss_cons (ps_expr (pe_bm PySem.F.plainAttrs_list PySem.F.slot_list_append PySem.F.type_list_append mt_append (pv 1) (pa_cons (pe_tup (pa_cons pe_str (pa_cons pe_int pa_nil))) pa_nil)))
      (pss_one (ps_for (passes_of rfl) (by rfl) (pi_range3 (by rfl) T.z_range (pa_cons (pe_op op_sub (pe_callB call_len_seq (by rfl) T.z_len (by decide +kernel) (pa_cons (pv 3) pa_nil)) pe_int) (pa_cons (pe_un un_neg pe_int) (pa_cons (pe_un un_neg pe_int) pa_nil)))) (pg_name (i := 5) nd rfl (Or.inl rfl))
        (pss_cons (ps_expr (pe_bm PySem.F.plainAttrs_list PySem.F.slot_list_append PySem.F.type_list_append mt_append (pv 1) (pa_cons (pe_tup (pa_cons (pe_ix ix_tup (pv 3) (pv 5) (fun _ _ => rfl)) (pa_cons (pe_op op_add (pv 4) pe_int) pa_nil))) pa_nil)))
      (pss_one (ps_if (pt_cmpR op_gt (pv 5) pe_int (nomark _)) (pss_one (ps_expr (pe_bm PySem.F.plainAttrs_list PySem.F.slot_list_append PySem.F.type_list_append mt_append (pv 1) (pa_cons (pe_tup (pa_cons pe_str (pa_cons pe_int pa_nil))) pa_nil)))) pss_nil))))))) (pss_one (ps_expr (pe_bm PySem.F.plainAttrs_list PySem.F.slot_list_append PySem.F.type_list_append mt_append (pv 2) (pa_cons (pe_call G_atom_text hr_atom_text (by rfl) T.m_atom_text T.F_atom_text.kp T.b_atom_text .nil (passes_call (takes_of rfl rfl rfl rfl) (fun _ _ _ _ h => h)) (pa_cons (pv 3) pa_nil)) pa_nil))))))))))
      (pss_one (ps_ret (pe_join pe_str (pv 2)))))), ?_⟩
  refine ⟨v, rfl, by show 2 ≤ sizeLine; decide, fun t0 ht0 => ⟨by show 1 ≤ sizeLine; decide, fun wl hwl => ⟨by show 0 ≤ sizeLine; decide, fun fl hfl => ⟨_, _, rfl, ?_⟩⟩⟩⟩
  have frW : H wl = none := fresh_back (Ex.new ht0) hwl
  have frF : H fl = none := fresh_back ((Ex.new ht0).trans (Ex.new hwl)) hfl
  have nwf : wl ≠ fl := fun e => by rw [← e, upd_same] at hfl; cases hfl
  have e0 : Ex H (upd (upd (upd H t0 (.tup [v, .int 1])) wl (.lst [.ref t0])) fl (.lst [])) := ((Ex.new ht0).trans (Ex.new hwl)).trans (Ex.new hfl)
  have hW0 : (upd (upd (upd H t0 (.tup [v, .int 1])) wl (.lst [.ref t0])) fl (.lst [])) wl = some (.lst [.ref t0]) := by rw [upd_ne nwf]; exact upd_same
  have hT0 : (upd (upd (upd H t0 (.tup [v, .int 1])) wl (.lst [.ref t0])) fl (.lst [])) t0 = some (.tup [v, .int 1]) := (Ex.new hfl) _ _ ((Ex.new hwl) _ _ upd_same)
  have hF0 : (upd (upd (upd H t0 (.tup [v, .int 1])) wl (.lst [.ref t0])) fl (.lst [])) fl = some (.lst []) := upd_same
  generalize upd (upd (upd H t0 (.tup [v, .int 1])) wl (.lst [.ref t0])) fl (.lst []) = H0 at e0 hW0 hT0 hF0
  refine q_while (fun m σ' H' => ∃ (ts : List Addr) (ws : List WI) (fs : List (List Nat)) (one dep kk : Option V), m = wiSum ws ∧ Ex H H' ∧ H' wl = some (.lst (ts.reverse.map V.ref)) ∧ H' fl = some (.lst (fs.map strV)) ∧ WkAt K H H' ts ws ∧
      fs.length + wiSum ws ≤ 20000 ∧ writeData d = (outW ws).map (fs.flatten ++ ·) ∧ σ' = [some v, some (.ref wl), some (.ref fl), one, dep, kk]) (wsize d)
    ⟨[t0], [.dat d 1], [], none, none, none, rfl, e0, hW0, hF0, ⟨⟨v, 1, hT0, hd, rfl, Nat.le_refl _, sa⟩, trivial⟩, by show 0 + (wsize d + 0) ≤ 20000; omega, ?_, rfl⟩ ?_
  · show wText 1 d = ((wText 1 d).bind fun a => (some []).map (a ++ ·)).map ([] ++ ·)
    cases wText 1 d <;> simp
  · rintro m σ' H' ⟨ts, ws, fs, one, dep, kk, rfl, e1, hW, hF, wk, bd, tot, rfl⟩
    have hlen := wk.len
    refine ⟨decide (0 < ts.length), et_test (ev_op (ev_lenQ (ev_var rfl) (sq_of hW)) ev_c (rv_gtT (by rw [List.length_map, List.length_reverse]; exact decide_eq_decide.mpr (by omega)))), fun hb H1 x1 => ⟨_, fun _ _ z => z, ?_⟩, fun hb H1 x1 => ?_⟩
    · cases ts with
      | nil => simp at hb
      | cons t tr =>
      cases ws with
      | nil => exact wk.elim
      | cons x wr =>
      obtain ⟨⟨vv, ki, hT, rel⟩, wkr⟩ := wk
      have hW1 : H1 wl = some (.lst (tr.reverse.map V.ref ++ [.ref t])) := by
        have q := x1 _ _ hW
        rw [List.reverse_cons, List.map_append] at q
        exact q
      refine ⟨.ref wl, rfl, .inl ⟨rfl, _, sq_of hW1⟩, wl, _, .ref t, rfl, rfl, hW1, by simp, ?_⟩
      rw [List.dropLast_concat]
      have tk2 : TupK H1 (upd H1 wl (.lst (tr.reverse.map V.ref))) := .lst hW1
      have e2 : Ex H (upd H1 wl (.lst (tr.reverse.map V.ref))) := Ex.mut (e1.trans x1) frW
      have hW2 : (upd H1 wl (.lst (tr.reverse.map V.ref))) wl = some (.lst (tr.reverse.map V.ref)) := upd_same
      have hF2 : (upd H1 wl (.lst (tr.reverse.map V.ref))) fl = some (.lst (fs.map strV)) := by rw [upd_ne nwf.symm]; exact x1 _ _ hF
      have hT2 := tk2.tup _ _ (x1 _ _ hT)
      have wk2 := (wkr.tk (.of x1)).tk tk2
      generalize upd H1 wl (.lst (tr.reverse.map V.ref)) = H2 at e2 hW2 hF2 hT2 wk2
      refine ⟨t, _, rfl, st_of hT2, rfl, _, _, rfl, _, _, rfl, rfl, ?_⟩
      cases x with
      | txt l =>
        obtain ⟨rfl, rfl⟩ := rel
        have bd' : fs.length + (1 + wiSum wr) ≤ 20000 := bd
        refine s_if (b := true) (et_test (ev_op (ev_var rfl) ev_c (rv_eqI rfl))) (fun _ H3 x3 => ?_) (fun z => by cases z)
        refine s_app (x3 _ _ hF2) (ev_var rfl) (ev_var rfl) (by rw [List.length_map]; omega) fun H4 x4 => ?_
        have x24 := x3.trans x4
        refine ⟨wiSum wr, by show wiSum wr < 1 + wiSum wr; omega, tr, wr, fs ++ [l], some (strV l), some (.int 0), kk, rfl, Ex.mut (e2.trans x24) frF, ?_, ?_, (wk2.tk (.of x24)).tk (.lst (x24 _ _ hF2)), ?_, ?_, rfl⟩
        · rw [upd_ne nwf]
          exact x24 _ _ hW2
        · rw [List.map_append]
          exact upd_same
        · rw [List.length_append]
          show fs.length + 1 + _ ≤ _
          omega
        · rw [tot]
          show ((outW wr).map (l ++ ·)).map (fs.flatten ++ ·) = _
          cases outW wr <;> simp
      | dat dd j =>
        obtain ⟨dpd, rfl, hj, sad⟩ := rel
        have bd' : fs.length + (wsize dd + wiSum wr) ≤ 20000 := bd
        refine s_if (b := false) (et_test (ev_op (ev_var rfl) ev_c (rv_eqI (decide_eq_false (by omega))))) (fun z => by cases z) (fun _ H3 x3 => ?_)
        have e3 := e2.trans x3
        refine s_if (b := is_tuple dd && decide (j ≤ 1000)) (et_and (et_B (ev_isi (ev_var rfl) (dp_mono e3 dpd) (kit_tuple dd))) fun _ => et_test (ev_op (ev_var rfl) ev_c (rv_leT (decide_eq_decide.mpr (by omega))))) (fun hb H4 x4 => ?_) (fun hb H4 x4 => ?_)
        · rw [Bool.and_eq_true, decide_eq_true_eq] at hb
          obtain ⟨xs, rfl⟩ := tuple_of hb.1
          cases dpd with
          | @tup a vs _ hs ha =>
          have hn : vs.length = xs.length := dpa_len ha
          have x24 := x3.trans x4
          have e4 := e2.trans x24
          have sadA : shortAllA xs := sad
          have bd2 : fs.length + (2 + wsizeA xs + wiSum wr) ≤ 20000 := by simpa only [wsize] using bd'
          refine q_app (x24 _ _ hF2) (ev_var rfl) ev_c (by rw [List.length_map]; omega) fun H5 x5 => ?_
          have e5 : Ex H (upd H5 fl (.lst (fs.map strV ++ [strV [91]]))) := Ex.mut (e4.trans x5) frF
          have hW5 : (upd H5 fl (.lst (fs.map strV ++ [strV [91]]))) wl = some (.lst (tr.reverse.map V.ref)) := by rw [upd_ne nwf]; exact (x24.trans x5) _ _ hW2
          have hF5 : (upd H5 fl (.lst (fs.map strV ++ [strV [91]]))) fl = some (.lst ((fs ++ [[91]]).map strV)) := by rw [List.map_append]; exact upd_same
          have wk5 := (wk2.tk (.of (x24.trans x5))).tk (.lst (o := .lst (fs.map strV ++ [strV [91]])) ((x24.trans x5) _ _ hF2))
          show tSeq _ _ _ _ (upd H5 fl (.lst (fs.map strV ++ [strV [91]])))
          generalize upd H5 fl (.lst (fs.map strV ++ [strV [91]])) = H6 at e5 hW5 hF5 wk5
          have wl6 := wiSum_len wr
          refine q_appU hW5 (ev_var rfl) (eu_tup (ea_cons ev_c (ea_cons ev_c ea_nil)) (by show 2 ≤ 100000; decide)) (by rw [List.length_map, List.length_reverse, wk5.len]; omega) fun p7 H7 hp7 x7 h7 => ?_
          have e7 : Ex H (upd H7 wl (.lst (tr.reverse.map V.ref ++ [.ref p7]))) := Ex.mut (e5.trans x7) frW
          have hW7 : (upd H7 wl (.lst (tr.reverse.map V.ref ++ [.ref p7]))) wl = some (.lst ((p7 :: tr).reverse.map V.ref)) := by rw [List.reverse_cons, List.map_append]; exact upd_same
          have hF7 : (upd H7 wl (.lst (tr.reverse.map V.ref ++ [.ref p7]))) fl = some (.lst ((fs ++ [[91]]).map strV)) := by rw [upd_ne nwf.symm]; exact x7 _ _ hF5
          have wk7 : WkAt K H (upd H7 wl (.lst (tr.reverse.map V.ref ++ [.ref p7]))) (p7 :: tr) (.txt [93] :: wr) := ⟨⟨strV [93], 0, (TupK.lst (x7 _ _ hW5)).tup _ _ h7, rfl, rfl⟩, (wk5.tk (.of x7)).tk (.lst (x7 _ _ hW5))⟩
          generalize upd H7 wl (.lst (tr.reverse.map V.ref ++ [.ref p7])) = H8 at e7 hW7 hF7 wk7
          have hs8 := ex_t e7 hs
          have rg : RgC ((vs.length : Int) - 1) (-1) (-1) xs.length := by
            have wz := wsizeA_len xs
            have q := RgC.neg (i := (vs.length : Int) - 1) (j := -1) (by omega) (by omega) (by decide) (by decide)
            rw [show ((vs.length : Int) - 1 - (-1)).toNat = xs.length by omega] at q
            exact q
          refine s_forR3 (ea_cons (ev_op (ev_lenT (ev_var rfl) hs8) ev_c rv_I0) (ea_cons (ev_un ev_c ru_neg) (ea_cons (ev_un ev_c ru_neg) ea_nil))) rg (fun i σ' H' => ∃ (ts : List Addr) (kk : Option V), Ex H H' ∧ H' wl = some (.lst (ts.reverse.map V.ref)) ∧ H' fl = some (.lst ((fs ++ [[91]]).map strV)) ∧
              WkAt K H H' ts (wItems (decide (i = xs.length)) (j + 1) (xs.drop (xs.length - i)) ++ .txt [93] :: wr) ∧ σ' = [some v, some (.ref wl), some (.ref fl), some (.ref a), some (.int j), kk]) (fun H9 x9 => ⟨p7 :: tr, kk, e7.trans x9, x9 _ _ hW7, x9 _ _ hF7, ?_, rfl⟩) ?_ ?_
          · rw [Nat.sub_zero, List.drop_of_length_le (Nat.le_refl _)]
            exact wk7.tk (.of x9)
          · rintro i σ' Ha hi ⟨ts, kk', ea, hWa, hFa, wka, rfl⟩
            have ni : decide (i = xs.length) = false := decide_eq_false (by omega)
            rw [ni] at wka
            have hk : xs.length - (i + 1) < xs.length := by omega
            have hdrop : xs.drop (xs.length - (i + 1)) = xs[xs.length - (i + 1)] :: xs.drop (xs.length - i) := by
              rw [List.drop_eq_getElem_cons hk, show xs.length - (i + 1) + 1 = xs.length - i by omega]
            obtain ⟨u, hu, hud⟩ := dpa_get ha (List.getElem?_eq_getElem hk)
            have sx := shortAllA_of sadA (List.getElem_mem hk)
            have si := wiSum_items false (j + 1) (xs.drop (xs.length - i))
            have sd := wsizeA_drop xs (xs.length - i)
            have sl := wiSum_len (wItems false (j + 1) (xs.drop (xs.length - i)) ++ .txt [93] :: wr)
            have sm : wiSum (wItems false (j + 1) (xs.drop (xs.length - i)) ++ .txt [93] :: wr) ≤ wsizeA xs + (1 + wiSum wr) := by
              rw [wiSum_app]
              exact Nat.add_le_add (Nat.le_trans si sd) (Nat.le_refl _)
            have eqi : ((vs.length : Int) - 1 + ((i : Nat) : Int) * (-1)) = ((xs.length - (i + 1) : Nat) : Int) := by omega
            rw [eqi]
            have lb : ts.length ≤ 20000 := by rw [wka.len]; omega
            refine q_appU (ys := [u, .int ((j : Int) + 1)]) hWa (ev_var rfl) (eu_tup (ea_cons (ev_op (ev_var rfl) (ev_var rfl) (rv_ixT (i := ((xs.length - (i + 1) : Nat) : Int)) (ex_t ea hs) (atI_nat hu))) (ea_cons (ev_op (ev_var rfl) ev_c rv_I0) ea_nil)) (by show 2 ≤ 100000; decide)) (by rw [List.length_map, List.length_reverse]; omega) fun q1 G1 hq1 y1 g1 => ?_
            have eb : Ex H (upd G1 wl (.lst (ts.reverse.map V.ref ++ [.ref q1]))) := Ex.mut (ea.trans y1) frW
            have hWb : (upd G1 wl (.lst (ts.reverse.map V.ref ++ [.ref q1]))) wl = some (.lst ((q1 :: ts).reverse.map V.ref)) := by rw [List.reverse_cons, List.map_append]; exact upd_same
            have hFb : (upd G1 wl (.lst (ts.reverse.map V.ref ++ [.ref q1]))) fl = some (.lst ((fs ++ [[91]]).map strV)) := by rw [upd_ne nwf.symm]; exact y1 _ _ hFa
            have wkb : WkAt K H (upd G1 wl (.lst (ts.reverse.map V.ref ++ [.ref q1]))) (q1 :: ts) (.dat xs[xs.length - (i + 1)] (j + 1) :: (wItems false (j + 1) (xs.drop (xs.length - i)) ++ .txt [93] :: wr)) :=
              ⟨⟨u, (j : Int) + 1, (TupK.lst (y1 _ _ hWa)).tup _ _ g1, hud, by omega, by omega, sx⟩, (wka.tk (.of y1)).tk (.lst (y1 _ _ hWa))⟩
            generalize upd G1 wl (.lst (ts.reverse.map V.ref ++ [.ref q1])) = G2 at eb hWb hFb wkb
            refine s_when (b := !decide (i + 1 = xs.length)) (et_test (ev_op (ev_var rfl) ev_c (rv_gtT ?_))) (fun hb2 G3 y3 => ?_) (fun hb2 G3 y3 => ?_)
            · by_cases z : i + 1 = xs.length
              · rw [decide_eq_true z]
                exact decide_eq_false (by omega)
              · rw [decide_eq_false z]
                exact decide_eq_true (by omega)
            · have ne : decide (i + 1 = xs.length) = false := by revert hb2; cases decide (i + 1 = xs.length) <;> simp
              refine s_appU (y3 _ _ hWb) (ev_var rfl) (eu_tup (ea_cons ev_c (ea_cons ev_c ea_nil)) (by show 2 ≤ 100000; decide)) (by rw [List.length_map, List.length_reverse, List.length_cons]; omega) fun q4 G4 hq4 y4 g4 => ?_
              have y34 := y3.trans y4
              refine ⟨q4 :: q1 :: ts, _, Ex.mut (eb.trans y34) frW, ?_, ?_, ?_, rfl⟩
              · rw [List.reverse_cons (a := q4), List.map_append]
                exact upd_same
              · rw [upd_ne nwf.symm]
                exact y34 _ _ hFb
              · rw [ne, hdrop]
                exact ⟨⟨strV [44], 0, (TupK.lst (y34 _ _ hWb)).tup _ _ g4, rfl, rfl⟩, (wkb.tk (.of y34)).tk (.lst (y34 _ _ hWb))⟩
            · have ne : decide (i + 1 = xs.length) = true := by revert hb2; cases decide (i + 1 = xs.length) <;> simp
              refine ⟨q1 :: ts, _, eb.trans y3, y3 _ _ hWb, y3 _ _ hFb, ?_, rfl⟩
              rw [ne, hdrop]
              exact wkb.tk (.of y3)
          · rintro σ' Ha ⟨ts, kk', ea, hWa, hFa, wka, rfl⟩
            rw [decide_eq_true rfl, Nat.sub_self, List.drop_zero] at wka
            have si := wiSum_items true (j + 1) xs
            have sm : wiSum (wItems true (j + 1) xs ++ .txt [93] :: wr) ≤ wsizeA xs + (1 + wiSum wr) := by
              rw [wiSum_app]
              exact Nat.add_le_add si (Nat.le_refl _)
            refine ⟨_, ?_, ts, _, fs ++ [[91]], some (.ref a), some (.int j), kk', rfl, ea, hWa, hFa, wka, ?_, ?_, rfl⟩
            · show wiSum _ < wsize (.tuple xs) + wiSum wr
              simp only [wsize]
              omega
            · rw [List.length_append]
              show fs.length + 1 + _ ≤ _
              omega
            · rw [tot, outW_tuple xs j hb.2 wr]
              cases outW (wItems true (j + 1) xs ++ .txt [93] :: wr) <;> simp
        · have x24 := x3.trans x4
          have wt := wText_atom dd j hb
          have bp := wsize_pos dd
          refine ⟨_, rfl, .inl ⟨rfl, _, sq_of (x24 _ _ hF2)⟩, _, rfl, vv, dd, rfl, dp_mono (e3.trans x4) dpd, shortAll_s sad, fun r hr H5 x5 => ⟨fl, _, r, rfl, rfl, (x24.trans x5) _ _ hF2, by rw [List.length_map]; exact sz_lt (by omega), ?_⟩, fun hr H5 x5 => kE ?_ H5 ((e2.trans x24).trans x5)⟩
          · obtain ⟨z, hz, rfl⟩ := Option.map_eq_some_iff.mp hr
            have x25 := x24.trans x5
            refine ⟨wiSum wr, by show wiSum wr < wsize dd + wiSum wr; omega, tr, wr, fs ++ [z.cps.toList], some vv, some (.int j), kk, rfl, Ex.mut (e2.trans x25) frF, ?_, ?_, (wk2.tk (.of x25)).tk (.lst (x25 _ _ hF2)), ?_, ?_, rfl⟩
            · rw [upd_ne nwf]
              exact x25 _ _ hW2
            · rw [List.map_append]
              have ez : strV z.cps.toList = .str z := congrArg V.str (S_of z)
              show _ = some (HO.lst (_ ++ [strV z.cps.toList]))
              rw [ez]
              exact upd_same
            · rw [List.length_append]
              show fs.length + 1 + _ ≤ _
              omega
            · rw [tot]
              show ((wText j dd).bind fun a => (outW wr).map (a ++ ·)).map (fs.flatten ++ ·) = _
              rw [wt, hz]
              show ((outW wr).map (z.cps.toList ++ ·)).map (fs.flatten ++ ·) = _
              cases outW wr <;> simp
          · show (writeData d).map strV = none
            rw [tot]
            show (((wText j dd).bind fun a => (outW wr).map (a ++ ·)).map (fs.flatten ++ ·)).map strV = none
            rw [wt, Option.map_eq_none_iff.mp hr]
            rfl
    · cases ts with
      | cons t tr => simp at hb
      | nil =>
      cases ws with
      | cons x wr => exact wk.elim
      | nil =>
      have tot' : writeData d = some fs.flatten := by
        rw [tot]
        show some (fs.flatten ++ []) = _
        rw [List.append_nil]
      have bl := tl _ tot'
      refine ⟨⟨_, rfl⟩, _, rfl, S [], fl, fs.map S, rfl, rfl, .inl (sq_of (by rw [x1 _ _ hF, strV_map])), ?_, ?_⟩
      · rw [List.length_flatten] at bl
        have e : (fs.map S).map (·.length) = fs.map List.length := by
          rw [List.map_map]
          exact List.map_congr_left fun l _ => S_len l
        rw [e]
        show (fs.map List.length).sum + (fs.map S).length * 0 ≤ 16777216
        omega
      · rw [join_S]
        refine k _ ?_ H1 (e1.trans x1)
        show (writeData d).map strV = _
        rw [tot']
        rfl
end
end K53

set_option autoImplicit false
set_option Elab.async false
set_option linter.all false
set_option maxRecDepth 100000
set_option maxHeartbeats 4000000
namespace K53
open PySem PySem.Spec PyProof.Rows L2 KX Evl
/-! ### draws -/
theorem s_asgUg {te : TE} {g : TG} {D : Ends} {σ : L2.St} {H : Hp} {xs : List V} (h : EvU te σ H xs) (k : ∀ p H1, H p = none → Ex H H1 → H1 p = some (.tup xs) → g (.ref p) σ H1 D.nx) : tAsg te g D σ H := h H (Ex.refl H) _ fun p H1 hp e h1 => k p H1 hp e h1
theorem s_asgG {te : TE} {g : TG} {D : Ends} {σ : L2.St} {H : Hp} {v : V} (h : Ev te σ H v) (k : ∀ H1, Ex H H1 → g v σ H1 D.nx) : tAsg te g D σ H := h H (Ex.refl H) _ fun H1 e => k H1 e
theorem q_asgG {te : TE} {g : TG} {D : Ends} {σ : L2.St} {H : Hp} {v : V} {tz : TS} (h : Ev te σ H v) (k : ∀ H1, Ex H H1 → g v σ H1 (tz D)) : tSeq (tAsg te g) tz D σ H := s_asgG (D := { D with nx := tz D }) h k
theorem g_set {σ : L2.St} {H : Hp} {v : V} {i j : Nat} {k : Int} {a : Addr} {xs : List V} {Q : L2.St → Hp → Prop} (hs : σ[i]? = some (some (.ref a))) (ha : H a = some (.lst xs)) (hj : ixN xs.length k = some j) (q : Q σ (upd H a (.lst (xs.set j v)))) : gSub (tVar i) (tC (.int k)) rSetL v σ H Q := ⟨_, hs, a, xs, k, j, rfl, rfl, ha, hj, q⟩
/-- the draw at a, its cells at cl; so many beyond the cells at most -/
def DrawAt (H : Hp) (a cl : Addr) (n : Nat) : Prop := ∃ (cells : List Int) (p : Nat) (val left seed : Int) (cnt : Nat), H cl = some (.lst (cells.map V.int)) ∧ H a = some (.lst [.ref cl, .int (p : Int), .int val, .int left, .int seed, .int (cnt : Int)]) ∧
  a ≠ cl ∧ cells.length ≤ 63 ∧ 0 ≤ seed ∧ seed < 4294967296 ∧ cnt ≤ n
theorem DrawAt.ex {H H' : Hp} {a cl : Addr} {n : Nat} (e : Ex H H') (h : DrawAt H a cl n) : DrawAt H' a cl n := by
  obtain ⟨c, p, v, l, s, k, h1, h2, h3⟩ := h
  exact ⟨c, p, v, l, s, k, e _ _ h1, e _ _ h2, h3⟩
theorem DrawAt.tk {H H' : Hp} {a cl : Addr} {n : Nat} (h : DrawAt H a cl n) (o : Oth (fun b => b = a) H H') : TupK H H' := by
  obtain ⟨c, p, v, l, s, k, h1, h2, h3⟩ := h
  refine ⟨fun b xs hb => o b _ hb fun e => ?_, fun b q u hb => o b _ hb fun e => ?_⟩
  · rw [show b = a from e, h2] at hb
    cases hb
  · rw [show b = a from e, h2] at hb
    cases hb
def spTake : Sp := fun vs H Q _ => ∃ (a cl : Addr) (many : Int) (n : Nat), vs = [.ref a, .int many] ∧ 0 < many ∧ many < 1073741824 ∧ DrawAt H a cl n ∧ n < 1000000 ∧ ∀ (r : Int) (H' : Hp), 0 ≤ r → r < many → DrawAt H' a cl (n + 1) → Oth (fun b => b = a) H H' → Q (.int r) H'
def spDraw (K : PySem.W.Frag) : Sp := fun vs H Q _ => ∃ (s : Addr) (ns : List Int), vs = [.ref s] ∧ SqL K H s (ns.map V.int) ∧ ns.length ≤ 63 ∧ ∀ (a cl : Addr) (H' : Hp), H a = none → H cl = none → Ex H H' → DrawAt H' a cl 0 → Q (.ref a) H'
theorem s_retLs {te : TE} {tr : TA} {D : Ends} {σ : L2.St} {H : Hp} {xs : List V} (h : EvL te σ H xs) (k : ∀ p H1, H p = none → Ex H H1 → H1 p = some (.lst xs) → tr σ H1 fun vs H2 => (V.ref p :: vs).length ≤ sizeLine ∧ ∀ q, H2 q = none → D.rt (.ref q) (upd H2 q (.lst (.ref p :: vs)))) : tRet (tLst (tCons te tr)) D σ H := h H (Ex.refl H) _ k
theorem given_true (n : Nat) (g : Nat → Int) : given n (fun _ => true) (fun i => V.int (g i)) = ((List.range n).map g).map V.int := by
  unfold given
  rw [List.filter_eq_self.mpr (fun _ _ => rfl), List.map_map]
  rfl
theorem cutV_to (xs : List V) (k : Nat) : cutV xs none (some (k : Int)) = xs.take k := by
  unfold cutV
  rw [HT.sIx_nat, HT.sIx_none]
  rw [List.drop_zero, Nat.sub_zero]
  by_cases h : k ≤ xs.length
  · rw [Nat.min_eq_left h]
  · rw [Nat.min_eq_right (by omega), List.take_of_length_le (Nat.le_refl _), List.take_of_length_le (by omega)]
section
variable {P : Program} {w : World} {K : PySem.W.Frag} {mg : Str → Option Value} {base : Heap} {A : Ad}
theorem sc_law_take : FnScope ["draw", "many", "found"] ["draw", "many"] (defScope s_law_take) := ⟨rfl, rfl, rfl, by decide +kernel, rfl, by decide +kernel, by decide +kernel⟩
theorem ok_take_ (T : Txt w K mg A) : FnOk P w K mg base CX0 1 A.f_law_take A.d_law_take ["draw", "many"] spTake := by
  refine T.F_law_take.ok sc_law_take (fun vs H Q E h => ?_) (fun cdv Ar outer s H vs Q E hr h => ?_)
  · obtain ⟨a, cl, many, n, rfl, _⟩ := h
    rfl
  obtain ⟨a, cl, many, n, rfl, m0, m1, hD, hn, k⟩ := h
  have nd := sc_law_take.nd
  refine ⟨_, (pss_cut (ps_if (PW.pt (pw_and (pt_cmpR op_eq (pe_ix ix_list (pv 0) pe_int (fun _ _ => rfl)) pe_int (nomark _)) (pw_and1 (pt_cmpR op_lt (pe_ix ix_list (pv 0) pe_int (fun _ _ => rfl)) (pe_callB call_len_seq (by rfl) T.z_len (by decide +kernel) (pa_cons (pe_ix ix_list (pv 0) pe_int (fun _ _ => rfl)) pa_nil)) (nomark _))))) (pss_one (ps_asg (pe_tup (pa_cons (pe_ix ix_list (pe_ix ix_list (pv 0) pe_int (fun _ _ => rfl)) (pe_ix ix_list (pv 0) pe_int (fun _ _ => rfl)) (fun _ _ => rfl)) (pa_cons pe_int (pa_cons (pe_op op_add (pe_ix ix_list (pv 0) pe_int (fun _ _ => rfl)) pe_int) pa_nil)))) (pg_tup (by rfl) (pgs_cons (pg_sub (pv 0) pe_int set_list) (pgs_cons (pg_sub (pv 0) pe_int set_list) (pgs_cons (pg_sub (pv 0) pe_int set_list) pgs_nil)))))) pss_nil)
      (pss_cons (ps_if (pt_cmpR op_gt (pe_ix ix_list (pv 0) pe_int (fun _ _ => rfl)) pe_int (nomark _)) (pss_cons (ps_set (i := 2) nd rfl (Or.inl rfl) (pe_op op_modN (pe_callTy call_int1 (by rfl) T.z_int (by decide +kernel) (pa_cons (pe_ix ix_list (pv 0) pe_int (fun _ _ => rfl)) pa_nil)) (pv 1)))
      (pss_cons (ps_asg (pe_op op_fdivN (pe_ix ix_list (pv 0) pe_int (fun _ _ => rfl)) (pv 1)) (pg_sub (pv 0) pe_int set_list))
      (pss_cons (ps_asg (pe_ifExp (pt_cmpR op_gt (pe_ix ix_list (pv 0) pe_int (fun _ _ => rfl)) pe_int (nomark _)) (pe_op op_sub (pe_ix ix_list (pv 0) pe_int (fun _ _ => rfl)) pe_int) pe_int) (pg_sub (pv 0) pe_int set_list))
      (pss_one (ps_ret (pv 2)))))) pss_nil)
      (pss_cons (ps_asg (pe_op op_add (pe_ix ix_list (pv 0) pe_int (fun _ _ => rfl)) pe_int) (pg_sub (pv 0) pe_int set_list))
      (pss_cons (ps_asg (pe_op op_modN (pe_callTy call_int1 (by rfl) T.z_int (by decide +kernel) (pa_cons (pe_op op_add (pe_op op_add (pe_op op_mul (pe_ix ix_list (pv 0) pe_int (fun _ _ => rfl)) pe_int) (pe_op op_mul (pe_op op_mul (pe_ix ix_list (pv 0) pe_int (fun _ _ => rfl)) (pe_ix ix_list (pv 0) pe_int (fun _ _ => rfl))) pe_int)) pe_int) pa_nil)) pe_int) (pg_sub (pv 0) pe_int set_list))
      (pss_one (ps_ret (pe_op op_modN (pe_callTy call_int1 (by rfl) T.z_int (by decide +kernel) (pa_cons (pe_op op_fdivN (pe_ix ix_list (pv 0) pe_int (fun _ _ => rfl)) pe_int) pa_nil)) (pv 1)))))))), ?_⟩
  obtain ⟨cells, p, val, left, seed, cnt, hcl, ha, nac, cl63, s0, s1, cn⟩ := hD
  refine q_cut (M := fun σ' H' => Oth (fun b => b = a) H H' ∧ DrawAt H' a cl n ∧ σ' = [some (.ref a), some (.int many), none]) ?_ ?_
  · refine s_when (b := decide (left = 0) && decide (p < cells.length)) (et_and (et_test (ev_op (ev_op (ev_var rfl) ev_c (rv_ixL (i := 3) (sq_of ha) rfl)) ev_c (rv_eqI rfl))) fun _ => et_test (ev_op (ev_op (ev_var rfl) ev_c (rv_ixL (i := 1) (sq_of ha) rfl)) (ev_lenQ (ev_op (ev_var rfl) ev_c (rv_ixL (i := 0) (sq_of ha) rfl)) (sq_of hcl)) (rv_ltT (by rw [List.length_map]; exact decide_eq_decide.mpr (by omega))))) (fun hb H1 e1 => ?_) (fun hb H1 e1 => ⟨Oth.of e1, ⟨cells, p, val, left, seed, cnt, e1 _ _ hcl, e1 _ _ ha, nac, cl63, s0, s1, cn⟩, rfl⟩)
    rw [Bool.and_eq_true, decide_eq_true_eq, decide_eq_true_eq] at hb
    have hc : (cells.map V.int)[p]? = some (.int cells[p]) := by rw [List.getElem?_map, List.getElem?_eq_getElem hb.2]; rfl
    refine s_asgUg (eu_tup (ea_cons (ev_op (ev_op (ev_var rfl) ev_c (rv_ixL (sq_of (e1 _ _ ha)) rfl)) (ev_op (ev_var rfl) ev_c (rv_ixL (sq_of (e1 _ _ ha)) rfl)) (rv_ixL (sq_of (e1 _ _ hcl)) (atI_nat hc))) (ea_cons ev_c (ea_cons (ev_op (ev_op (ev_var rfl) ev_c (rv_ixL (sq_of (e1 _ _ ha)) rfl)) ev_c rv_I0) ea_nil))) (by show 3 ≤ 100000; decide)) fun T' H2 hT' e2 h2 => ?_
    refine ⟨T', _, rfl, st_of h2, rfl, _, _, rfl, g_set rfl ((e1.trans e2) _ _ ha) rfl ⟨_, _, rfl, g_set rfl upd_same rfl ⟨_, _, rfl, g_set rfl upd_same rfl ⟨rfl, ?_⟩⟩⟩⟩
    refine ⟨?_, ⟨cells, p + 1, cells[p], 60, seed, cnt, ?_, ?_, nac, cl63, s0, s1, cn⟩, rfl⟩
    · exact Oth.t (Oth.of (e1.trans e2)) (Oth.t (Oth.t (Oth.upd rfl) (Oth.upd rfl)) (Oth.upd rfl))
    · rw [upd_ne nac.symm, upd_ne nac.symm, upd_ne nac.symm]
      exact (e1.trans e2) _ _ hcl
    · exact upd_same
  · rintro σ' H' ⟨o1, ⟨cells, p, val, left, seed, cnt, hcl, ha, nac, cl63, s0, s1, cn⟩, rfl⟩
    refine q_when (b := decide (0 < left)) (et_test (ev_op (ev_op (ev_var rfl) ev_c (rv_ixL (i := 3) (sq_of ha) rfl)) ev_c (rv_gtT rfl))) (fun hb H1 e1 => ?_) (fun hb H1 e1 => ?_)
    · refine q_asg (v := .int (val.fmod many)) (ev_op (ev_cb (ea_cons (ev_op (ev_var rfl) ev_c (rv_ixL (i := 2) (sq_of (e1 _ _ ha)) rfl)) ea_nil) (fun H2 e2 Q q => .inl ⟨_, rfl, q H2 (Ex.refl _)⟩)) (ev_var rfl) (rv_I (by omega))) fun H2 e2 => ?_
      have ha2 := (e1.trans e2) _ _ ha
      refine q_asgG (ev_op (ev_op (ev_var rfl) ev_c (rv_ixL (i := 2) (sq_of ha2) rfl)) (ev_var rfl) (rv_I ⟨by omega, by omega⟩)) fun H3 e3 => g_set rfl (e3 _ _ ha2) rfl ?_
      have ha3 : (upd H3 a (.lst [.ref cl, .int (p : Int), .int (val.fdiv many), .int left, .int seed, .int (cnt : Int)])) a = some (.lst [.ref cl, .int (p : Int), .int (val.fdiv many), .int left, .int seed, .int (cnt : Int)]) := upd_same
      have hc3 : (upd H3 a (.lst [.ref cl, .int (p : Int), .int (val.fdiv many), .int left, .int seed, .int (cnt : Int)])) cl = some (.lst (cells.map V.int)) := by rw [upd_ne nac.symm]; exact ((e1.trans e2).trans e3) _ _ hcl
      have o3 : Oth (fun b => b = a) H (upd H3 a (.lst [.ref cl, .int (p : Int), .int (val.fdiv many), .int left, .int seed, .int (cnt : Int)])) := Oth.t o1 (Oth.t (Oth.of ((e1.trans e2).trans e3)) (Oth.upd rfl))
      show tSeq _ _ _ _ (upd H3 a (.lst [.ref cl, .int (p : Int), .int (val.fdiv many), .int left, .int seed, .int (cnt : Int)]))
      generalize upd H3 a (.lst [.ref cl, .int (p : Int), .int (val.fdiv many), .int left, .int seed, .int (cnt : Int)]) = H4 at ha3 hc3 o3
      refine q_asgG (v := .int (if 0 < val.fdiv many then left - 1 else 0)) (ev_if (b := decide (0 < val.fdiv many)) (et_test (ev_op (ev_op (ev_var rfl) ev_c (rv_ixL (i := 2) (sq_of ha3) rfl)) ev_c (rv_gtT rfl))) (fun z => ev_is (ev_op (ev_op (ev_var rfl) ev_c (rv_ixL (i := 3) (sq_of ha3) rfl)) ev_c rv_I0) (by rw [if_pos (of_decide_eq_true z)])) (fun z => ev_is ev_c (by rw [if_neg (of_decide_eq_false z)]))) fun H5 e5 => g_set rfl (e5 _ _ ha3) rfl ?_
      refine s_ret (ev_var rfl) fun H6 e6 => k _ H6 (Int.fmod_nonneg_of_pos _ m0) (Int.fmod_lt_of_pos _ m0) (DrawAt.ex e6 ⟨cells, p, _, _, seed, cnt, ?_, upd_same, nac, cl63, s0, s1, by omega⟩) (Oth.t (Oth.t o3 (Oth.t (Oth.of e5) (Oth.upd rfl))) (Oth.of e6))
      rw [upd_ne nac.symm]
      exact e5 _ _ hc3
    · refine q_asgG (ev_op (ev_op (ev_var rfl) ev_c (rv_ixL (i := 5) (sq_of (e1 _ _ ha)) rfl)) ev_c rv_I0) fun H2 e2 => g_set rfl ((e1.trans e2) _ _ ha) rfl ?_
      have ha3 : (upd H2 a (.lst [.ref cl, .int (p : Int), .int val, .int left, .int seed, .int ((cnt : Int) + 1)])) a = some (.lst [.ref cl, .int (p : Int), .int val, .int left, .int seed, .int ((cnt : Int) + 1)]) := upd_same
      have hc3 : (upd H2 a (.lst [.ref cl, .int (p : Int), .int val, .int left, .int seed, .int ((cnt : Int) + 1)])) cl = some (.lst (cells.map V.int)) := by rw [upd_ne nac.symm]; exact (e1.trans e2) _ _ hcl
      have o3 : Oth (fun b => b = a) H (upd H2 a (.lst [.ref cl, .int (p : Int), .int val, .int left, .int seed, .int ((cnt : Int) + 1)])) := Oth.t o1 (Oth.t (Oth.of (e1.trans e2)) (Oth.upd rfl))
      show tSeq _ _ _ _ (upd H2 a (.lst [.ref cl, .int (p : Int), .int val, .int left, .int seed, .int ((cnt : Int) + 1)]))
      generalize upd H2 a (.lst [.ref cl, .int (p : Int), .int val, .int left, .int seed, .int ((cnt : Int) + 1)]) = H4 at ha3 hc3 o3
      refine q_asgG (v := .int ((seed * 48271 + ((cnt : Int) + 1) * ((cnt : Int) + 1) * 69621 + 11).fmod 2147483647)) (ev_op (ev_cb (ea_cons (ev_op (ev_op (ev_op (ev_op (ev_var rfl) ev_c (rv_ixL (i := 4) (sq_of ha3) rfl)) ev_c (rv_I (.inl (by omega)))) (ev_op (ev_op (ev_op (ev_var rfl) ev_c (rv_ixL (i := 5) (sq_of ha3) rfl)) (ev_op (ev_var rfl) ev_c (rv_ixL (i := 5) (sq_of ha3) rfl)) (rv_I (.inl (by omega)))) ev_c (rv_I (.inr (by decide)))) rv_I0) ev_c rv_I0) ea_nil) (fun H2 e2 Q q => .inl ⟨_, rfl, q H2 (Ex.refl _)⟩)) ev_c (rv_I (by decide))) fun H5 e5 => g_set rfl (e5 _ _ ha3) rfl ?_
      generalize hsd : (seed * 48271 + ((cnt : Int) + 1) * ((cnt : Int) + 1) * 69621 + 11).fmod 2147483647 = sd
      have sd0 : 0 ≤ sd := by rw [← hsd]; exact Int.fmod_nonneg_of_pos _ (by decide)
      have sd1 : sd < 2147483647 := by rw [← hsd]; exact Int.fmod_lt_of_pos _ (by decide)
      refine s_ret (ev_op (ev_cb (ea_cons (ev_op (ev_op (ev_var rfl) ev_c (rv_ixL (i := 4) (sq_of upd_same) rfl)) ev_c (rv_I ⟨by decide, by decide⟩)) ea_nil) (fun H2 e2 Q q => .inl ⟨_, rfl, q H2 (Ex.refl _)⟩)) (ev_var rfl) (rv_I (by omega))) fun H6 e6 => k _ H6 (Int.fmod_nonneg_of_pos _ m0) (Int.fmod_lt_of_pos _ m0) (DrawAt.ex e6 ⟨cells, p, val, left, sd, cnt + 1, ?_, ?_, nac, cl63, sd0, by omega, by omega⟩) (Oth.t (Oth.t o3 (Oth.t (Oth.of e5) (Oth.upd rfl))) (Oth.of e6))
      · rw [upd_ne nac.symm]
        exact e5 _ _ hc3
      · exact upd_same
theorem sc_law_draw : FnScope ["script", "seed", "cell"] ["script"] (defScope s_law_draw) := ⟨rfl, rfl, rfl, by decide +kernel, rfl, by decide +kernel, by decide +kernel⟩
theorem ok_draw (T : Txt w K mg A) : FnOk P w K mg base CX0 1 A.f_law_draw A.d_law_draw ["script"] (spDraw K) := by
  refine T.F_law_draw.ok sc_law_draw (fun vs H Q E h => ?_) (fun cdv Ar outer s H vs Q E hr h => ?_)
  · obtain ⟨s, ns, rfl, _⟩ := h
    rfl
  obtain ⟨sa, ns, rfl, hs, h63, k⟩ := h
  have nd := sc_law_draw.nd
  refine ⟨_, (pss_cons (ps_set (i := 1) nd rfl (Or.inl rfl) pe_int)
      (pss_cons (ps_for PassesOwn.never (by rfl) (pi_list (pe_slice sl_list (pv 0) po_none (po_some pe_int))) (pg_name (i := 2) nd rfl (Or.inl rfl))
        (pss_one (ps_set (i := 1) nd rfl (Or.inl rfl) (pe_op op_add (pe_op op_modN (pe_callTy call_int1 (by rfl) T.z_int (by decide +kernel) (pa_cons (pe_op op_add (pe_op op_mul (pv 1) pe_int) (pv 2)) pa_nil)) pe_int) pe_int))))
      (pss_one (ps_ret (pe_lst (pa_cons (pe_lc (own := [("cell", 2)]) (g := (gName 2)) (tt := tYes) (by rfl) nd (pi_list (pe_slice sl_list (pv 0) po_none (po_some pe_int))) (blkOk_by (own := [("cell", 2)]) (N := ["script", "seed", "cell"]) (sc := defScope s_law_draw) (by decide +kernel)) (fun _ _ _ _ _ => (pg_name (i := 2) nd rfl (Or.inl rfl))) (fun _ _ _ _ _ => pts_nil) (fun _ _ _ _ _ => (pe_callB call_abs (by rfl) T.z_abs (by decide +kernel) (pa_cons (pe_callTy call_int1 (by rfl) T.z_int (by decide +kernel) (pa_cons (pv 2) pa_nil)) pa_nil)))) (pa_cons pe_int (pa_cons pe_int (pa_cons pe_int (pa_cons (pv 1) (pa_cons pe_int pa_nil))))))))))), ?_⟩
  have cut : cutV (ns.map V.int) none (some 63) = ns.map V.int := by
    rw [show (63 : Int) = ((63 : Nat) : Int) from rfl, cutV_to, List.take_of_length_le (by rw [List.length_map]; exact h63)]
  refine q_asg ev_c fun H1 e1 => ?_
  refine q_forNL (xs := ns.map V.int) (by rw [← cut]; exact el_sl (ev_var rfl) eo_none (eo_some ev_c) (ex_l e1 hs)) (fun p i σ' H' => Ex H H' ∧ H' p = some (.lst (ns.map V.int)) ∧ ∃ seed v2, 0 ≤ seed ∧ seed < 2147483648 ∧ σ' = [some (.ref sa), some (.int seed), v2])
    (fun p H2 hp e2 h2 => ⟨e1.trans e2, h2, 7, none, by decide, by decide, rfl⟩) (fun p i σ' H' hi h => sq_of h.2.1) (fun p i x σ' H' hx h => ?_) (fun p σ' H' h => ?_)
  · obtain ⟨ex, hp, seed, v2, s0, s1, rfl⟩ := h
    obtain ⟨c, hc, rfl⟩ : ∃ c, ns[i]? = some c ∧ V.int c = x := by
      rw [List.getElem?_map, Option.map_eq_some_iff] at hx
      exact hx
    refine s_asg (v := .int ((seed * 48271 + c).fmod 2147483629 + 1)) (ev_op (ev_op (ev_cb (ea_cons (ev_op (ev_op (ev_var rfl) ev_c (rv_I (.inl (by omega)))) (ev_var rfl) rv_I0) ea_nil) (fun H2 e2 Q q => .inl ⟨_, rfl, q H2 (Ex.refl _)⟩)) ev_c (rv_I (by decide))) ev_c rv_I0) fun H2 e2 => ?_
    have f0 := Int.fmod_nonneg_of_pos (seed * 48271 + c) (b := 2147483629) (by decide)
    have f1 := Int.fmod_lt_of_pos (seed * 48271 + c) (b := 2147483629) (by decide)
    exact ⟨ex.trans e2, e2 _ _ hp, _, _, by omega, by omega, rfl⟩
  · obtain ⟨ex, hp, seed, v2, s0, s1, rfl⟩ := h
    have cl := given_true ns.length (fun i => if ns.getD i 0 < 0 then -ns.getD i 0 else ns.getD i 0)
    refine s_retLs (xs := (((List.range ns.length).map (fun i => if ns.getD i 0 < 0 then -ns.getD i 0 else ns.getD i 0)).map V.int)) ?_ fun q H1 hq e2 h1 => ⟨_, rfl, by show 6 ≤ sizeLine; decide, fun a ha => ?_⟩
    · rw [← cl, show ns.length = (ns.map V.int).length from (List.length_map _).symm]
      refine el_lcNL (xs := ns.map V.int) _ _ (by rw [← cut]; exact el_sl (ev_var rfl) eo_none (eo_some ev_c) (ex_l ex hs)) (by rw [List.length_map]; omega) (fun _ => rfl) (fun i x H1 e hx => fun H2 e2 Q q => q H2 (Ex.refl _)) fun i x H1 e hx _ => ?_
      obtain ⟨c, hc, rfl⟩ : ∃ c, ns[i]? = some c ∧ V.int c = x := by
        rw [List.getElem?_map, Option.map_eq_some_iff] at hx
        exact hx
      have ec : ns.getD i 0 = c := by rw [List.getD_eq_getElem?_getD, hc]; rfl
      rw [ec]
      exact ev_cb (ea_cons (ev_cb (ea_cons (ev_var rfl) ea_nil) (fun H2 e2 Q q => .inl ⟨_, rfl, q H2 (Ex.refl _)⟩)) ea_nil) (fun H2 e2 Q q => ⟨_, rfl, q H2 (Ex.refl _)⟩)
    · have naq : a ≠ q := fun e => by rw [e, h1] at ha; cases ha
      refine k a q _ (fresh_back (ex.trans e2) ha) (fresh_back ex hq) ((ex.trans e2).trans (Ex.new ha)) ⟨_, 0, 0, 0, seed, 0, (Ex.new ha) _ _ h1, upd_same, naq, ?_, s0, by omega, Nat.le_refl _⟩
      rw [List.length_map, List.length_range]
      exact h63
end
end K53

set_option autoImplicit false
set_option Elab.async false
set_option linter.all false
set_option maxRecDepth 100000
set_option maxHeartbeats 4000000
namespace K53
open PySem PySem.Spec PyProof.Rows L2 KX Evl
section
variable {X : Cx} {x : Str} {C : Addr} {e : Expr} {np p3 p6 p7 p8 pos : Pos} {kn : Nat}
/-- what a caught error brings: None -/
def Ech (K : PySem.W.Frag) (C : Addr) (rt : VK) : XK := fun cls _ H => ∃ b, PySem.W.exmOne K cls (.ref C) = some b ∧ (b = true → rt .non H) ∧ (b = false → False)
/-- try: return e / except C: return None -/
theorem ps_tryNone {te : XK → TE} (hs : X.stack = X.env :: X.outer) (hf : X.env.frame = some X.env.locals) (hc : Names X x (.ref C))
    (hb : ∀ (E : XK) (pn : List (Addr × Obj)) (xe : Value → Shared → Prop) (W : WX), Takes (X.tr pn xe) W → (∀ cls d σ H, E cls d H → W cls d σ H) → PE (X.tr pn xe) e (te E)) :
    PS X (.Try [.Return (some e) p3] [.ExceptHandler (some (.Name x np)) none [.Return (some (.Constant .none kn p6)) p7] p8] [] [] pos) (fun D σ H => te (Ech X.K C D.rt) σ H D.rt) := by
  have q : PS X (.Try [.Return (some e) p3] [.ExceptHandler (some (.Name x np)) none [.Return (some (.Constant .none kn p6)) p7] p8] [] [] pos) _ :=
    ps_try_only (c := .ref C) (tb := fun W D σ H => ∃ E : XK, (∀ cls d σ' H', E cls d H' → W cls d σ' H') ∧ te E σ H D.rt) hs hf hc LamX.takes0 (fun W pn xe tk _ => ⟨fun pins s' σ H D I h' => by
      obtain ⟨E, hW, h1⟩ := h'
      exact (pss_one (ps_ret (pos := p3) (hb E pn xe W tk hW))).run pins s' σ H D I h1⟩) (fun a oe cls d pn _ _ => pss_one (ps_ret pe_non))
  refine ⟨fun pins s σ H D I h => q.run pins s σ H D I ?_⟩
  exact ⟨Ech X.K C D.rt, fun cls d σ' H' ⟨b, e1, e2, e3⟩ => ⟨b, e1, fun hb a _ => e2 hb, fun hb => e3 hb⟩, h⟩
end
section
variable {P : Program} {w : World} {K : PySem.W.Frag} {mg : Str → Option Value} {base : Heap} {A : Ad}
theorem exm_Malformed (T : Txt w K mg A) : PySem.W.exmOne K (.ref A.c_Malformed) (.ref A.c_Malformed) = some true := by
  have q : (PySem.W.clsIn K A.c_Malformed).isSome = true := T.i_Malformed
  unfold PySem.W.exmOne
  rw [T.b_Malformed]
  show (if ((PySem.W.clsIn K A.c_Malformed).isSome && PySem.W.typeIn K (.ref A.c_Malformed) == some (.type "type")) = true then PySem.W.subIn K (.ref A.c_Malformed) (.ref A.c_Malformed) else none) = some true
  rw [q, T.t_Malformed, T.s_Malformed]
  rfl
/-- _law_told -/
def spTold (K : PySem.W.Frag) : Sp := fun vs H Q _ => ∃ (v : V) (d : PyData), Dp K H v d ∧
  ((vs = [.int 0, v] ∧ WPre d ∧ (∀ t, writeData d = some t → ∀ p H', H p = none → Ex H H' → H' p = some (.lst [strV t]) → Q (.ref p) H') ∧ (writeData d = none → ∀ H', Ex H H' → Q .non H')) ∨
   (vs = [.int 1, v] ∧ ReadPre d ∧ (∀ r, readData d = some r → ∀ u p H', H p = none → Ex H H' → H' p = some (.lst [u]) → DpN K H' u r → Q (.ref p) H') ∧ (readData d = none → ∀ H', Ex H H' → Q .non H')))
theorem sc_law_told : FnScope ["which", "value"] ["which", "value"] (defScope s_law_told) := ⟨rfl, rfl, rfl, by decide +kernel, rfl, by decide +kernel, by decide +kernel⟩
theorem ok_told (T : Txt w K mg A) : FnOk P w K mg base CX0 5 A.f_law_told A.d_law_told ["which", "value"] (spTold K) := by
  refine T.F_law_told.ok sc_law_told (fun vs H Q E h => ?_) (fun cdv Ar outer s H vs Q E hr h => ?_)
  · obtain ⟨v, d, _, ⟨rfl, _⟩ | ⟨rfl, _⟩⟩ := h <;> rfl
  obtain ⟨v, d, hd, h⟩ := h
  have nd := sc_law_told.nd
  have G_write_data := ok_write_data (P := P) (base := base) T
  have G_read_data := ok_read_data (P := P) (base := base) T
  have hr_write_data := hr
  have hr_read_data := hr
  have exm := exm_Malformed T
  refine ⟨_, pss_one (ps_tryNone (te := fun E => tIf (tTest (tOp rEq (tVar 0) (tC (.int 0)))) (tLst (tCons (tCall (spR K A.c_Malformed WPre fun d => (writeData d).map strV) [] E (tCons (tVar 1) tNil)) tNil)) (tLst (tCons (tCall (spRD K A ReadPre readData) [] E (tCons (tVar 1) tNil)) tNil))) rfl rfl ⟨by rfl, by decide +kernel, .inl T.g_Malformed⟩
    fun E pn xe W tk hW => pe_ifExp (pt_cmpR op_eq (pv 0) pe_int (nomark _))
      (pe_lst (pa_cons (pe_call G_write_data hr_write_data (by rfl) T.m_write_data T.F_write_data.kp T.b_write_data .nil (passes_call tk hW) (pa_cons (pv 1) pa_nil)) pa_nil))
      (pe_lst (pa_cons (pe_call G_read_data hr_read_data (by rfl) T.m_read_data T.F_read_data.kp T.b_read_data .nil (passes_call tk hW) (pa_cons (pv 1) pa_nil)) pa_nil))), ?_⟩
  rcases h with ⟨rfl, pre, k, kE⟩ | ⟨rfl, pre, k, kE⟩
  · refine (et_test (ev_op (ev_var rfl) ev_c (rv_eqI (b := true) rfl)) : EvT _ _ H true) H (Ex.refl _) _ fun H1 e1 => iteT ?_
    refine ⟨v, rfl, v, d, rfl, dp_mono e1 hd, pre, fun r hr H2 e2 => ⟨by show 1 ≤ sizeLine; decide, fun p hp => ?_⟩, fun hr H2 e2 => ⟨true, exm, fun _ => kE ?_ H2 (e1.trans e2), fun z => by cases z⟩⟩
    · obtain ⟨t, ht, rfl⟩ := Option.map_eq_some_iff.mp hr
      exact k t ht p _ (fresh_back (e1.trans e2) hp) ((e1.trans e2).trans (Ex.new hp)) upd_same
    · exact Option.map_eq_none_iff.mp hr
  · refine (et_test (ev_op (ev_var rfl) ev_c (rv_eqI (b := false) rfl)) : EvT _ _ H false) H (Ex.refl _) _ fun H1 e1 => iteF ?_
    refine ⟨v, rfl, v, d, rfl, dp_mono e1 hd, pre, fun r hr u H2 e2 du => ⟨by show 1 ≤ sizeLine; decide, fun p hp => ?_⟩, fun hr H2 e2 => ⟨true, exm, fun _ => kE hr H2 (e1.trans e2), fun z => by cases z⟩⟩
    exact k r hr u p _ (fresh_back (e1.trans e2) hp) ((e1.trans e2).trans (Ex.new hp)) upd_same ⟨dp_mono (Ex.new hp) du.1, du.2⟩
end
end K53

set_option autoImplicit false
set_option Elab.async false
set_option linter.all false
set_option maxRecDepth 100000
set_option maxHeartbeats 4000000
namespace K53
open PySem PySem.Spec PyProof.Rows L2 KX Evl
theorem rv_leS {H : Hp} {i j : Str} {b : Bool} (e : (!decide (j.cps.toList < i.cps.toList)) = b) : RV (fun x y H Q => ∃ i j : Str, x = .str i ∧ y = .str j ∧ Q (.bl (!decide (j.cps.toList < i.cps.toList))) H) (.str i) (.str j) H (.bl b) := fun H1 _ Q q => ⟨i, j, rfl, rfl, by rw [e]; exact q H1 (Ex.refl _)⟩
theorem le1 (a c : Nat) : (!decide ([c] < [a])) = decide (a ≤ c) := by
  have e : [c] < [a] ↔ c < a := by
    rw [List.cons_lt_cons_iff]
    simp
  by_cases h : c < a
  · rw [decide_eq_true (e.mpr h), decide_eq_false (by omega)]
    rfl
  · rw [decide_eq_false (fun z => h (e.mp z)), decide_eq_true (by omega)]
    rfl
section
variable {P : Program} {w : World} {K : PySem.W.Frag} {mg : Str → Option Value} {base : Heap} {A : Ad}
theorem sc_law_word : FnScope ["value", "sign"] ["value"] (defScope s_law_word) := ⟨rfl, rfl, rfl, by decide +kernel, rfl, by decide +kernel, by decide +kernel⟩
theorem ok_word_ (T : Txt w K mg A) : FnOk P w K mg base CX0 1 A.f_law_word A.d_law_word ["value"] (spD K ShortS fun d => .bl (isWord d)) := by
  refine T.F_law_word.ok sc_law_word (fun vs H Q E h => ?_) (fun cdv Ar outer s H vs Q E hr h => ?_)
  · obtain ⟨v, d, rfl, _⟩ := h
    rfl
  obtain ⟨v, d, rfl, hd, hS, k⟩ := h
  have nd := sc_law_word.nd
  refine ⟨_, (pss_cons (ps_if (PW.pt (pw_or (pt_not (pt_val (pe_callB call_isi (by rfl) T.z_isinstance (by decide +kernel) (pa_cons (pv 0) (pa_cons (pe_bltn (v := .ty "str") (by rfl) T.z_str (by decide +kernel) rfl) pa_nil))))) (pw_or (pt_not (pt_chain op_le op_le pe_int (pe_callB call_len_str (by rfl) T.z_len (by decide +kernel) (pa_cons (pv 0) pa_nil)) pe_int)) (pw_or1 (pt_not (pt_chain op_le_str op_le_str pe_str (pe_ix ix_str (pv 0) pe_int (fun _ _ => rfl)) pe_str)))))) (pss_one (ps_ret pe_bl)) pss_nil)
      (pss_one (ps_ret (pe_callB (cr_all rfl) (by rfl) T.z_all (by decide +kernel) (pa_cons (pe_lc (own := [("sign", 1)]) (g := (gName 1)) (tt := tYes) (by rfl) nd (pi_str (pv 0)) (blkOk_by (own := [("sign", 1)]) (N := ["value", "sign"]) (sc := defScope s_law_word) (by decide +kernel)) (fun _ _ _ _ _ => (pg_name (i := 1) nd rfl (Or.inl rfl))) (fun _ _ _ _ _ => pts_nil) (fun _ _ _ _ _ => (pe_or (pe_chain op_le_str op_le_str pe_str (pv 1) pe_str) (pe_one (pe_chain op_le_str op_le_str pe_str (pv 1) pe_str))))) pa_nil))))), ?_⟩
  have r97 : ∀ (H : Hp) (c : Nat), RV (fun x y H Q => ∃ i j : Str, x = .str i ∧ y = .str j ∧ Q (.bl (!decide (j.cps.toList < i.cps.toList))) H) (.str (S [97])) (.str ⟨#[c]⟩) H (.bl (decide (97 ≤ c))) := fun H c => rv_leS (i := S [97]) (j := ⟨#[c]⟩) (le1 97 c)
  have r122 : ∀ (H : Hp) (c : Nat), RV (fun x y H Q => ∃ i j : Str, x = .str i ∧ y = .str j ∧ Q (.bl (!decide (j.cps.toList < i.cps.toList))) H) (.str ⟨#[c]⟩) (.str (S [122])) H (.bl (decide (c ≤ 122))) := fun H c => rv_leS (i := ⟨#[c]⟩) (j := S [122]) (le1 c 122)
  have r48 : ∀ (H : Hp) (c : Nat), RV (fun x y H Q => ∃ i j : Str, x = .str i ∧ y = .str j ∧ Q (.bl (!decide (j.cps.toList < i.cps.toList))) H) (.str (S [48])) (.str ⟨#[c]⟩) H (.bl (decide (48 ≤ c))) := fun H c => rv_leS (i := S [48]) (j := ⟨#[c]⟩) (le1 48 c)
  have r57 : ∀ (H : Hp) (c : Nat), RV (fun x y H Q => ∃ i j : Str, x = .str i ∧ y = .str j ∧ Q (.bl (!decide (j.cps.toList < i.cps.toList))) H) (.str ⟨#[c]⟩) (.str (S [57])) H (.bl (decide (c ≤ 57))) := fun H c => rv_leS (i := ⟨#[c]⟩) (j := S [57]) (le1 c 57)
  by_cases hs : is_str d = true
  · obtain ⟨x, rfl⟩ := str_of hs
    cases hd
    have hz : x.length ≤ sizeLine := Nat.le_trans hS (by decide)
    have len := len_cps x
    by_cases h1 : 1 ≤ x.length
    · obtain ⟨c, r, hl⟩ : ∃ c r, x.cps.toList = c :: r := by
        cases q : x.cps.toList with
        | nil => rw [len, q] at h1; simp at h1
        | cons c r => exact ⟨c, r, rfl⟩
      refine q_when (b := !decide (x.length ≤ 12) || !small c) ?_ (fun hb H1 e => s_ret ev_c fun H2 e2 => ?_) (fun hb H1 e => ?_)
      · refine et_is (et_or (a := false) (et_is (et_not (et_B (ev_isi (ev_var rfl) (.str x) (kit_str _)))) rfl) fun _ => ?_) (Bool.false_or _)
        refine et_or (et_not (et_test (ev_chainT ev_c (ev_lenS (ev_var rfl) hz) ev_c (rv_leT (decide_eq_true (by omega))) (rv_leT ?_)))) fun _ => et_not (et_test ?_)
        · exact decide_eq_decide.mpr (by omega)
        · exact ev_chain ev_c (ev_op (ev_var rfl) ev_c (ixS_nat (i := 0) hz (by rw [hl]; rfl))) ev_c (r97 _ c) (r122 _ c)
      · have e0 : isWord (.str x) = false := by
          show wordL x.cps.toList = false
          unfold wordL
          rw [len, hl] at hb
          rw [hl]
          show (decide (1 ≤ (c :: r).length) && decide ((c :: r).length ≤ 12) && small c && _) = false
          generalize ((c :: r).all fun c => small c || digit c) = al
          revert hb
          cases decide ((c :: r).length ≤ 12) <;> cases small c <;> cases al <;> simp
        rw [← e0]
        exact k H2 (e.trans e2)
      · have e0 : isWord (.str x) = x.cps.toList.all fun c => small c || digit c := by
          show wordL x.cps.toList = _
          unfold wordL
          rw [len, hl] at hb
          rw [hl]
          have l1 : decide (1 ≤ (c :: r).length) = true := by simp
          show (decide (1 ≤ (c :: r).length) && decide ((c :: r).length ≤ 12) && small c && _) = _
          rw [l1]
          generalize ((c :: r).all fun c => small c || digit c) = al
          revert hb
          cases decide ((c :: r).length ≤ 12) <;> cases small c <;> simp
        refine s_ret (v := .bl (isWord (.str x))) (ev_is (ev_allN (bs := x.cps.toList.map fun c => small c || digit c) ?_) ?_) fun H2 e2 => k H2 (e.trans e2)
        · rw [List.map_map]
          refine el_lcS _ (ev_var rfl) hz (fun _ => rfl) fun c H3 e3 _ => ?_
          exact ev_orV (ev_chain ev_c (ev_var rfl) ev_c (r97 _ c) (r122 _ c)) fun _ => ev_chain ev_c (ev_var rfl) ev_c (r48 _ c) (r57 _ c)
        · rw [e0, List.all_map]
          rfl
    · have l0 : x.cps.toList = [] := List.eq_nil_of_length_eq_zero (by omega)
      refine q_when (b := true) ?_ (fun hb H1 e => s_ret ev_c fun H2 e2 => ?_) (fun hb => nomatch hb)
      · refine et_is (et_or (a := false) (et_is (et_not (et_B (ev_isi (ev_var rfl) (.str x) (kit_str _)))) rfl) fun _ => ?_) (Bool.false_or _)
        exact et_or (a := true) (b := true) (et_is (et_not (et_test (ev_chain (k := false) (k' := true) ev_c (ev_lenS (ev_var rfl) hz) ev_c (rv_leT (decide_eq_false (by omega))) (rv_leT (decide_eq_true (by omega)))))) rfl) fun z => nomatch z
      · have e0 : isWord (.str x) = false := by
          show wordL x.cps.toList = false
          rw [l0]
          rfl
        rw [← e0]
        exact k H2 (e.trans e2)
  · refine q_when (b := true) ?_ (fun _ H1 e => s_ret ev_c fun H2 e2 => ?_) (fun z => nomatch z)
    · exact et_or (a := true) (b := true) (et_is (et_not (et_B (ev_isi (ev_var rfl) hd (kit_str d)))) (by simpa using hs)) fun z => nomatch z
    · have e0 : isWord d = false := by cases d <;> first | rfl | exact absurd rfl hs
      rw [← e0]
      exact k H2 (e.trans e2)
end
end K53

set_option autoImplicit false
set_option Elab.async false
set_option linter.all false
set_option maxRecDepth 100000
set_option maxHeartbeats 4000000
namespace K53
open PySem PySem.Spec PyProof.Rows L2 KX Evl
def oV : Option Int → V | some i => .int i | none => .non
def spNum : Sp := fun vs H Q _ => ∃ l, vs = [.str (S l)] ∧ l.length ≤ 4000 ∧ ∀ H', Ex H H' → Q (oV (readWhole l)) H'
theorem readWhole_text {l : List Nat} (h : wholeOk l = true) : intText? (S l) = some (wholeVal l) ∧ ∀ d ∈ (S l).cps.toList, d ≠ 0 ∧ d < 128 := by
  unfold wholeOk at h
  simp only [Bool.and_eq_true, decide_eq_true_eq] at h
  obtain ⟨⟨⟨hb1, hb2⟩, hb3⟩, _⟩ := h
  have ad : NumText.AllDigits (bodyL l) := fun d hd => by
    have q := List.all_eq_true.mp hb3 d hd
    simpa [digit] using q
  have ne : bodyL l ≠ [] := fun q => by rw [q] at hb1; simp at hb1
  unfold wholeVal
  by_cases q : l.take 1 = [45]
  · rw [if_pos q]
    have eb : bodyL l = l.drop 1 := by unfold bodyL; rw [if_pos q]
    have el : l = 45 :: bodyL l := by
      rw [eb]
      have z := List.take_append_drop 1 l
      rw [q] at z
      exact z.symm
    have hlen : (S l).length ≤ 4300 := by
      rw [S_len, el, List.length_cons]
      omega
    refine ⟨intText_neg (x := S l) (cs := bodyL l) el ad ne hlen, fun d hd => ?_⟩
    rw [S_cps, el] at hd
    rcases List.mem_cons.mp hd with z | z
    · omega
    · have := ad d z
      omega
  · rw [if_neg q]
    have eb : bodyL l = l := by unfold bodyL; rw [if_neg q]
    rw [eb] at ad ne hb2 ⊢
    refine ⟨intText_digits (x := S l) ad ne (by rw [S_len]; omega), fun d hd => ?_⟩
    have := ad d hd
    omega
theorem bodyL_len (l : List Nat) : (bodyL l).length ≤ l.length := by
  unfold bodyL
  split
  · rw [List.length_drop]; omega
  · exact Nat.le_refl _
section
variable {P : Program} {w : World} {K : PySem.W.Frag} {mg : Str → Option Value} {base : Heap} {A : Ad}
theorem sc_law_number : FnScope ["text", "body", "sign"] ["text"] (defScope s_law_number) := ⟨rfl, rfl, rfl, by decide +kernel, rfl, by decide +kernel, by decide +kernel⟩
theorem ok_number (T : Txt w K mg A) : FnOk P w K mg base CX0 1 A.f_law_number A.d_law_number ["text"] spNum := by
  refine T.F_law_number.ok sc_law_number (fun vs H Q E h => ?_) (fun cdv Ar outer s H vs Q E hr h => ?_)
  · obtain ⟨l, rfl, _⟩ := h
    rfl
  obtain ⟨l, rfl, hl, k⟩ := h
  have nd := sc_law_number.nd
  have hz : (S l).length ≤ sizeLine := by rw [S_len]; exact sz_of (Nat.le_trans hl (by decide))
  refine ⟨_, (pss_cons (ps_set (i := 1) nd rfl (Or.inl rfl) (pe_ifExp (pt_cmpR op_eq (pe_slice sl_str (pv 0) po_none (po_some pe_int)) pe_str (nomark _)) (pe_slice sl_str (pv 0) (po_some pe_int) po_none) (pv 0)))
      (pss_cons (ps_if (PW.pt (pw_or (pt_cmpR op_eq (pv 1) pe_str (nomark _)) (pw_or (pt_val (pe_callB (cr_any rfl) (by rfl) T.z_any (by decide +kernel) (pa_cons (pe_lc (own := [("sign", 2)]) (g := (gName 2)) (tt := tYes) (by rfl) nd (pi_str (pv 1)) (blkOk_by (own := [("sign", 2)]) (N := ["text", "body", "sign"]) (sc := defScope s_law_number) (by decide +kernel)) (fun _ _ _ _ _ => (pg_name (i := 2) nd rfl (Or.inl rfl))) (fun _ _ _ _ _ => pts_nil) (fun _ _ _ _ _ => (pe_cmpR op_notIn_sign (pv 2) pe_str rfl))) pa_nil))) (pw_or1 (PW.pt (pw_and (pt_cmpR op_eq (pe_ix ix_str (pv 1) pe_int (fun _ _ => rfl)) pe_str (nomark _)) (pw_and1 (pt_cmpR op_ne (pv 0) pe_str (nomark _))))))))) (pss_one (ps_ret pe_non)) pss_nil)
      (pss_one (ps_ret (pe_callTy (call_int_text T.nd) (by rfl) T.z_int (by decide +kernel) (pa_cons (pv 0) pa_nil)))))), ?_⟩
  have e1 : cutS (S l) none (some 1) = S (l.take 1) := cut_to l 1
  have e2 : cutS (S l) (some 1) none = S (l.drop 1) := cut_from l 1
  have bl := bodyL_len l
  have bz : (S (bodyL l)).length ≤ sizeLine := by rw [S_len]; exact sz_of (by omega)
  refine q_asg (v := .str (S (bodyL l))) (ev_if (b := decide (l.take 1 = [45])) (et_test (ev_op (ev_is (ev_sl (ev_var rfl) eo_none (eo_some ev_c) hz) (congrArg V.str e1)) ev_c (rv_eqS (b := [45])))) (fun z => ev_is (ev_sl (ev_var rfl) (eo_some ev_c) eo_none hz) ?_) (fun z => ev_is (ev_var rfl) ?_)) fun H1 x1 => ?_
  · rw [e2]
    unfold bodyL
    rw [if_pos (of_decide_eq_true z)]
  · unfold bodyL
    rw [if_neg (of_decide_eq_false z)]
  refine q_when (b := !wholeOk l) (et_is (b := !wholeOk l) (et_or (a := decide (bodyL l = [])) (b := !(bodyL l).all digit || (decide ((bodyL l).take 1 = [48]) && !decide (l = [48]))) (et_test (ev_op (ev_var rfl) ev_c (rv_eqS (b := [])))) fun hne => ?_) ?_) (fun hb H2 x2 => ?_) (fun hb H2 x2 => ?_)
  · obtain ⟨c, r, hcr⟩ : ∃ c r, bodyL l = c :: r := by
      cases q : bodyL l with
      | nil => rw [q] at hne; exact nomatch hne
      | cons c r => exact ⟨c, r, rfl⟩
    refine et_or (et_B (ev_is (ev_anyN (bs := (bodyL l).map fun c => !digit c) ?_) ?_)) fun _ => et_and (et_test (ev_is (ev_op (ev_op (ev_var rfl) ev_c (ixS_nat (i := 0) bz (by rw [S_cps, hcr]; rfl))) ev_c (rv_eqS (a := [c]) (b := [48]))) ?_)) fun hn => et_test (ev_op (ev_var rfl) ev_c (rv_neS (b := [48])))
    · rw [List.map_map]
      refine el_lcS (z := S (bodyL l)) _ (ev_var rfl) bz (fun _ => rfl) fun c H3 e3 _ => ?_
      exact ev_is (ev_op (ev_var rfl) ev_c rv_niS) (by rw [in_digits]; rfl)
    · rw [List.any_map]
      show V.bl ((bodyL l).any fun c => !digit c) = _
      refine congrArg V.bl ?_
      induction bodyL l with
      | nil => rfl
      | cons c r ih => rw [List.any_cons, List.all_cons, ih, Bool.not_and]
    · rw [hcr]
      rfl
  · unfold wholeOk
    have q2 : decide ((bodyL l).length ≤ 4000) = true := decide_eq_true (by omega)
    rw [q2]
    cases q : bodyL l with
    | nil => simp
    | cons c r =>
      generalize (c :: r).all digit = al
      generalize (decide ((c :: r).take 1 = [48]) && !decide (l = [48])) = z
      cases al <;> cases z <;> simp
  · refine s_ret ev_c fun H3 x3 => ?_
    have e0 : readWhole l = none := by
      unfold readWhole
      rw [if_neg (by intro q; rw [q] at hb; exact nomatch hb)]
    have q := k H3 ((x1.trans x2).trans x3)
    rw [e0] at q
    exact q
  · have ok : wholeOk l = true := by revert hb; cases wholeOk l <;> simp
    obtain ⟨t1, t2⟩ := readWhole_text ok
    have e0 : readWhole l = some (wholeVal l) := by
      unfold readWhole
      rw [if_pos ok]
    refine s_ret (v := .int (wholeVal l)) (ev_cb (ea_cons (ev_var rfl) ea_nil) fun H4 e4 Q q => ⟨S l, _, rfl, t1, hz, t2, q H4 (Ex.refl _)⟩) fun H4 e4 => ?_
    have q := k H4 ((x1.trans x2).trans e4)
    rw [e0] at q
    exact q
end
end K53

set_option autoImplicit false
set_option Elab.async false
set_option linter.all false
set_option maxRecDepth 100000
set_option maxHeartbeats 4000000
namespace K53
open PySem PySem.Spec PyProof.Rows L2 KX Evl
/-! ### a display of three constants, looked up -/
def look3 (a b c : Str) (x y z : V) (k : Str) : Option V := if k = a then some x else if k = b then some y else if k = c then some z else none
theorem valV3 {a b c : Str} {x y z : V} {k : Str} : valV [((.inr a : Key), x), (.inr b, y), (.inr c, z)] (.inr k) = look3 a b c x y z k := by
  unfold look3
  by_cases h1 : k = a
  · rw [if_pos h1, valV_pos (by rw [h1])]
  rw [if_neg h1, valV_neg (fun e => h1 (Sum.inr.inj e).symm)]
  by_cases h2 : k = b
  · rw [if_pos h2, valV_pos (by rw [h2])]
  rw [if_neg h2, valV_neg (fun e => h2 (Sum.inr.inj e).symm)]
  by_cases h3 : k = c
  · rw [if_pos h3, valV_pos (by rw [h3])]
  rw [if_neg h3, valV_neg (fun e => h3 (Sum.inr.inj e).symm), valV_nil]
theorem disp3 {σ : L2.St} {H : Hp} {Q : VK} {a b c : Str} {x y z : V} (hab : a ≠ b) (hac : a ≠ c) (hbc : b ≠ c) (k : ∀ p H', H p = none → Ex H H' → H' p = some (.dK [((.inr a : Key), x), (.inr b, y), (.inr c, z)]) → Q (.ref p) H') :
    tDisp [(tC (.str a), tC x), (tC (.str b), tC y), (tC (.str c), tC z)] σ H Q := fun p hp => ⟨upd_same, [((.inr a : Key), x), (.inr b, y), (.inr c, z)], rfl, (show 3 ≤ 15 by decide), by
  have e : mergeK [] [((.inr a : Key), x), (.inr b, y), (.inr c, z)] = [((.inr a : Key), x), (.inr b, y), (.inr c, z)] := by
    simp [mergeK, putK, hab, hac, hbc]
  rw [e]
  exact k p _ hp (Ex.mut (Ex.new hp) hp) upd_same⟩
section
variable {σ : L2.St} {H : Hp} {a b c k : Str} {x y z v u : V} {ty tx : TE}
theorem ev_get3 (hab : a ≠ b) (hac : a ≠ c) (hbc : b ≠ c) (hy : Ev ty σ H (.str k)) (hv : look3 a b c x y z k = some v) : Ev (tDGet (tDisp [(tC (.str a), tC x), (tC (.str b), tC y), (tC (.str c), tC z)]) ty) σ H v := fun H1 e Q q =>
  disp3 hab hac hbc fun p H2 hp e2 h2 => hy H2 (e.trans e2) _ fun H3 e3 => ⟨p, v, rfl, by rw [← hv, ← valV3]; exact DGet.k (k := .inr k) (e3 _ _ h2), q H3 (e2.trans e3)⟩
theorem ev_get3d (hab : a ≠ b) (hac : a ≠ c) (hbc : b ≠ c) (hy : Ev ty σ H (.str k)) (hu : Ev tx σ H u) : Ev (tDGet2 (tDisp [(tC (.str a), tC x), (tC (.str b), tC y), (tC (.str c), tC z)]) ty tx) σ H ((look3 a b c x y z k).getD u) := fun H1 e Q q =>
  disp3 hab hac hbc fun p H2 hp e2 h2 => ⟨p, rfl, .inl ⟨_, .inl h2⟩, hy H2 (e.trans e2) _ fun H3 e3 => hu H3 ((e.trans e2).trans e3) _ fun H4 e4 => ⟨_, by rw [← valV3]; exact DGet.k (k := .inr k) ((e3.trans e4) _ _ h2), q H4 ((e2.trans e3).trans e4)⟩⟩
end
theorem rv_addS {H : Hp} {a b : List Nat} (h : a.length + b.length ≤ sizeLine) : RV (fun x y H Q => ∃ i j : Str, x = .str i ∧ y = .str j ∧ i.length + j.length ≤ sizeLine ∧ Q (.str (i ++ j)) H) (.str (S a)) (.str (S b)) H (.str (S (a ++ b))) :=
  fun H1 _ Q q => ⟨S a, S b, rfl, rfl, by rw [S_len, S_len]; exact h, by rw [S_app]; exact q H1 (Ex.refl _)⟩
theorem ev_join {K : PySem.W.Frag} {σ : L2.St} {H : Hp} {te : TE} {p : Addr} {ys : List Str} {sp : Str} (h : Ev te σ H (.ref p)) (hp : H p = some (.lst (ys.map V.str))) (hb : (ys.map (·.length)).sum + ys.length * sp.length ≤ 16777216) :
    Ev (tM1 (fun x xs H Q => ∃ a p, ∃ ys : List Str, x = .str a ∧ xs = [.ref p] ∧ (SqL K H p (ys.map V.str) ∨ SqT K H p (ys.map V.str)) ∧ (ys.map (·.length)).sum + ys.length * a.length ≤ 16777216 ∧ Q (.str (Txt.join a ys)) H) (tC (.str sp)) te) σ H (.str (Txt.join sp ys)) :=
  fun H1 e Q q => ⟨⟨_, rfl⟩, h H1 e _ fun H2 e2 => ⟨sp, p, ys, rfl, rfl, .inl (sq_of ((e.trans e2) _ _ hp)), hb, q H2 e2⟩⟩
/-! ### _law_written -/
def istr (i : Int) : List Nat := ((toString i : String) : Str).cps.toList
mutual
/-- the law's own text of a datum -/
def lawW : PyData → Option (List Nat)
  | .tuple xs => (lawSep true xs).map fun r => 91 :: (r ++ [93])
  | .bool b => some (if b then [43] else [45])
  | .int i => some (istr i)
  | .str x => if wordL x.cps.toList then some x.cps.toList else if x.cps.toList = [] then some [46] else none
  | .none => none
  | .list _ => none
  | .dict _ => none
def lawSep (f : Bool) : List PyData → Option (List Nat)
  | [] => some []
  | x :: r => (lawW x).bind fun a => (lawSep false r).map fun b => (if f then [] else [44]) ++ (a ++ b)
end
theorem lawSep_cons (f : Bool) (x : PyData) (r : List PyData) : lawSep f (x :: r) = (lawW x).bind fun a => (lawSep false r).map fun b => (if f then [] else [44]) ++ (a ++ b) := by rw [lawSep]
mutual
def tb : PyData → Nat
  | .tuple xs => 2 + tbA xs
  | .str x => x.length + 1
  | .int i => (istr i).length
  | _ => 1
def tbA : List PyData → Nat
  | [] => 0
  | x :: r => tb x + 1 + tbA r
end
mutual
/-- so deep at most, ints and texts not too long -/
def wOk (lev : Nat) : PyData → Prop
  | .tuple xs => 0 < lev ∧ wOkA (lev - 1) xs
  | .str x => x.length ≤ 100000
  | .int i => i.natAbs < 10 ^ 4300
  | _ => True
def wOkA (lev : Nat) : List PyData → Prop
  | [] => True
  | x :: r => wOk lev x ∧ wOkA lev r
end
theorem wOkA_of {lev : Nat} : ∀ {xs : List PyData} {i : Nat} {d : PyData}, wOkA lev xs → xs[i]? = some d → wOk lev d
  | [], _, _, _, e => by simp at e
  | x :: r, 0, d, h, e => by
    have q : x = d := by simpa using e
    rw [← q]; exact h.1
  | x :: r, i + 1, d, h, e => wOkA_of (i := i) h.2 (by simpa using e)
theorem tbA_of : ∀ {xs : List PyData} {i : Nat} {d : PyData}, xs[i]? = some d → tb d ≤ tbA xs
  | [], _, _, e => by simp at e
  | x :: r, 0, d, e => by
    have q : x = d := by simpa using e
    rw [← q]
    simp only [tbA]
    omega
  | x :: r, i + 1, d, e => by
    have q := tbA_of (i := i) (xs := r) (by simpa using e)
    simp only [tbA]
    omega
theorem tbA_len : ∀ xs : List PyData, xs.length ≤ tbA xs
  | [] => Nat.le_refl _
  | x :: r => by
    have q := tbA_len r
    simp only [tbA, List.length_cons]
    omega
def oS : Option (List Nat) → V | some t => .str (S t) | none => .non
def spWr (K : PySem.W.Frag) (lev : Nat) : Sp := spD K (fun d => wOk lev d ∧ tb d ≤ 1000000) fun d => oS (lawW d)
/-- joined with commas -/
def joinC : List (List Nat) → List Nat
  | [] => []
  | [a] => a
  | a :: b :: r => a ++ 44 :: joinC (b :: r)
theorem join_C : ∀ ps : List (List Nat), Str.join (S [44]) (ps.map S) = S (joinC ps)
  | [] => rfl
  | [a] => rfl
  | a :: b :: r => by
    show S a ++ S [44] ++ Str.join (S [44]) ((b :: r).map S) = S (a ++ 44 :: joinC (b :: r))
    rw [join_C (b :: r), S_app, S_app, List.append_assoc]
    rfl
def joinT : List (List Nat) → List Nat
  | [] => []
  | a :: r => 44 :: (a ++ joinT r)
theorem joinC_len : ∀ ps : List (List Nat), (joinC ps).length ≤ (ps.map List.length).sum + ps.length
  | [] => Nat.le_refl _
  | [a] => by simp [joinC]
  | a :: b :: r => by
    have q := joinC_len (b :: r)
    simp only [joinC, List.length_append, List.length_cons, List.map_cons, List.sum_cons] at q ⊢
    omega
theorem joinC_T : ∀ (a : List Nat) (r : List (List Nat)), joinC (a :: r) = a ++ joinT r
  | a, [] => by simp [joinC, joinT]
  | a, b :: r => by
    show a ++ 44 :: joinC (b :: r) = a ++ (44 :: (b ++ joinT r))
    rw [joinC_T b r]
def allW : List PyData → Option (List (List Nat))
  | [] => some []
  | x :: r => (lawW x).bind fun a => (allW r).map (a :: ·)
theorem allW_cons (x : PyData) (r : List PyData) : allW (x :: r) = (lawW x).bind fun a => (allW r).map (a :: ·) := by rw [allW]
theorem lawSep_false : ∀ xs : List PyData, lawSep false xs = (allW xs).map joinT
  | [] => by rw [lawSep]; rfl
  | x :: r => by
    rw [lawSep_cons, lawSep_false r, allW_cons]
    cases lawW x with
    | none => rfl
    | some a =>
      cases allW r with
      | none => rfl
      | some b => rfl
theorem lawSep_true : ∀ xs : List PyData, lawSep true xs = (allW xs).map joinC
  | [] => by rw [lawSep]; rfl
  | x :: r => by
    rw [lawSep_cons, lawSep_false r, allW_cons]
    cases lawW x with
    | none => rfl
    | some a =>
      cases allW r with
      | none => rfl
      | some b =>
        show some (a ++ joinT b) = some (joinC (a :: b))
        rw [joinC_T]
theorem allW_some : ∀ {xs : List PyData} {ps : List (List Nat)}, allW xs = some ps → xs.map (fun d => oS (lawW d)) = (ps.map S).map V.str
  | [], ps, h => by
    cases h
    rfl
  | x :: r, ps, h => by
    rw [allW_cons] at h
    cases e : lawW x with
    | none => rw [e] at h; cases h
    | some a =>
      cases e2 : allW r with
      | none => rw [e, e2] at h; cases h
      | some b =>
        rw [e, e2] at h
        cases h
        simp only [List.map_cons, e, allW_some e2]
        rfl
theorem lawW_tb : ∀ {d : PyData} {t : List Nat}, lawW d = some t → t.length ≤ tb d := by
  intro d
  refine PyData.rec (motive_1 := fun d => ∀ {t : List Nat}, lawW d = some t → t.length ≤ tb d) (motive_2 := fun xs => ∀ {f : Bool} {t : List Nat}, lawSep f xs = some t → t.length ≤ tbA xs) (motive_3 := fun _ => True) (motive_4 := fun _ => True) ?_ ?_ ?_ ?_ ?_ ?_ ?_ ?_ ?_ ?_ ?_ ?_ d
  · intro t h; simp [lawW] at h
  · intro b t h
    rw [lawW] at h
    cases h
    cases b <;> exact Nat.le_refl _
  · intro i t h
    rw [lawW] at h
    cases h
    simp only [tb]
    exact Nat.le_refl _
  · intro x t h
    rw [lawW] at h
    simp only [tb]
    by_cases q : wordL x.cps.toList = true
    · rw [if_pos q] at h
      cases h
      rw [len_cps]
      omega
    · rw [if_neg q] at h
      by_cases q2 : x.cps.toList = []
      · rw [if_pos q2] at h
        cases h
        show 1 ≤ _
        omega
      · rw [if_neg q2] at h
        cases h
  · intro xs _ t h; simp [lawW] at h
  · intro xs ih t h
    rw [lawW, Option.map_eq_some_iff] at h
    obtain ⟨r, hr, rfl⟩ := h
    have q := ih hr
    simp only [tb, List.length_cons, List.length_append, List.length_nil]
    omega
  · intro xs _ t h; simp [lawW] at h
  · intro f t h
    rw [lawSep] at h
    cases h
    exact Nat.le_refl _
  · intro x r i1 i2 f t h
    rw [lawSep_cons] at h
    cases e : lawW x with
    | none => rw [e] at h; cases h
    | some a =>
      cases e2 : lawSep false r with
      | none => rw [e, e2] at h; cases h
      | some b =>
        rw [e, e2] at h
        cases h
        have q1 := i1 e
        have q2 := i2 e2
        simp only [tbA, List.length_append]
        cases f <;> simp <;> omega
  · trivial
  · intros; trivial
  · intros; trivial
theorem allW_bound : ∀ {xs : List PyData} {ps : List (List Nat)}, allW xs = some ps → (ps.map List.length).sum + ps.length ≤ tbA xs
  | [], ps, h => by
    cases h
    exact Nat.le_refl _
  | x :: r, ps, h => by
    rw [allW_cons] at h
    cases e : lawW x with
    | none => rw [e] at h; cases h
    | some a =>
      cases e2 : allW r with
      | none => rw [e, e2] at h; cases h
      | some b =>
        rw [e, e2] at h
        cases h
        have q1 := lawW_tb e
        have q2 := allW_bound e2
        simp only [tbA, List.map_cons, List.sum_cons, List.length_cons]
        omega
theorem inV_non : ∀ xs : List PyData, inV .non (xs.map fun d => oS (lawW d)) = (allW xs).isNone
  | [] => rfl
  | x :: r => by
    have ih := inV_non r
    rw [allW_cons]
    cases e : lawW x with
    | none =>
      simp only [List.map_cons, e]
      unfold inV
      rfl
    | some a =>
      simp only [List.map_cons, e]
      have q : inV .non (oS (some a) :: r.map fun d => oS (lawW d)) = inV .non (r.map fun d => oS (lawW d)) := by
        unfold inV
        rfl
      rw [q, ih]
      cases allW r <;> rfl
section
variable {P : Program} {w : World} {K : PySem.W.Frag} {mg : Str → Option Value} {base : Heap} {A : Ad}
theorem sc_law_written : FnScope ["data", "parts", "item"] ["data"] (defScope s_law_written) := ⟨rfl, rfl, rfl, by decide +kernel, rfl, by decide +kernel, by decide +kernel⟩
theorem ok_written1 (T : Txt w K mg A) (lev : Nat) (rec_ : ∀ l, l + 1 = lev → FnOk P w K mg base CX0 (lev + 1) A.f_law_written A.d_law_written ["data"] (spWr K l)) : FnOk P w K mg base CX0 (lev + 2) A.f_law_written A.d_law_written ["data"] (spWr K lev) := by
  have G0 : ∃ sp : Sp, FnOk P w K mg base CX0 (lev + 1) A.f_law_written A.d_law_written ["data"] sp ∧ ∀ l, l + 1 = lev → sp = spWr K l := by
    cases lev with
    | zero => exact ⟨fun _ _ _ _ => False, ⟨fun _ _ _ _ z => z.elim, fun _ _ _ _ _ _ _ _ _ _ _ _ _ z => z.elim⟩, fun l e => nomatch e⟩
    | succ l => exact ⟨spWr K l, rec_ l rfl, fun m e => by rw [Nat.succ.inj e]⟩
  obtain ⟨sp, G_law_written, hsp⟩ := G0
  refine T.F_law_written.ok sc_law_written (fun vs H Q E h => ?_) (fun cdv Ar outer s H vs Q E hr h => ?_)
  · obtain ⟨v, d, rfl, _⟩ := h
    rfl
  obtain ⟨v, d, rfl, hd, ⟨wk, tbd⟩, k⟩ := h
  have nd := sc_law_written.nd
  have hr_law_written := hr
  have G_law_word := (ok_word_ (P := P) (base := base) T).mono (show 1 ≤ lev + 1 by omega)
  have hr_law_word := hr
  have STR := ((call_str_wide (X := (cxOf CX0 P w K mg base ["data", "parts", "item"] "_law_written" (defScope s_law_written) A.f_law_written cdv Ar outer s H E).nox) rfl T.nd).or SkE.call_str_str).or call_str_bool
  refine ⟨_, (pss_cons (ps_if (pt_val (pe_callB call_isi (by rfl) T.z_isinstance (by decide +kernel) (pa_cons (pv 0) (pa_cons (pe_bltn (v := .ty "tuple") (by rfl) T.z_tuple (by decide +kernel) rfl) pa_nil)))) (pss_cons (ps_setLc (i := 1) (own := [("item", 2)]) (g := (gName 2)) (tt := tYes) (by rfl) nd rfl rfl (sw_true rfl rfl rfl (by decide +kernel)) (pi_tup (pv 0)) (blkOk_by (own := [("item", 2)]) (N := ["data", "parts", "item"]) (sc := defScope s_law_written) (by decide +kernel)) (fun _ _ _ _ _ => (pg_name (i := 2) nd rfl (Or.inl rfl))) (fun _ _ _ _ _ => pts_nil) (fun _ _ _ _ _ => (pe_call G_law_written hr_law_written (by rfl) T.m_law_written T.F_law_written.kp T.b_law_written .nil pass0 (pa_cons (pv 2) pa_nil))))
      (pss_one (ps_ret (pe_ifExp (pt_cmpR op_in_seq pe_non (pv 1) rfl) pe_non (pe_op op_add_str (pe_op op_add_str pe_str (pe_join pe_str (pv 1))) pe_str))))) pss_nil)
      (pss_cons (ps_if (pt_val (pe_call G_law_word hr_law_word (by rfl) T.m_law_word T.F_law_word.kp T.b_law_word .nil pass0 (pa_cons (pv 0) pa_nil))) (pss_one (ps_ret (pv 0))) pss_nil)
      (pss_cons (ps_if (PW.pt (pw_or (pt_val (pe_callB call_isi (by rfl) T.z_isinstance (by decide +kernel) (pa_cons (pv 0) (pa_cons (pe_bltn (v := .ty "bool") (by rfl) T.z_bool (by decide +kernel) rfl) pa_nil)))) (pw_or1 (PW.pt (pw_and (pt_val (pe_callB call_isi (by rfl) T.z_isinstance (by decide +kernel) (pa_cons (pv 0) (pa_cons (pe_bltn (v := .ty "str") (by rfl) T.z_str (by decide +kernel) rfl) pa_nil)))) (pw_and1 (pt_cmpR op_eq (pv 0) pe_str (nomark _)))))))) (pss_one (ps_ret (pe_dget (hu_of hr) (pe_disp (pps_cons pe_str pe_str (pps_cons pe_str pe_str (pps_cons pe_str pe_str pps_nil))) (by rfl) (by rfl) (fun z => by cases z) (by decide)) (pe_callTy STR (by rfl) T.z_str (by decide +kernel) (pa_cons (pv 0) pa_nil)) (fun _ _ => rfl)))) pss_nil)
      (pss_one (ps_ret (pe_ifExp (pt_val (pe_callB call_isi (by rfl) T.z_isinstance (by decide +kernel) (pa_cons (pv 0) (pa_cons (pe_bltn (v := .ty "int") (by rfl) T.z_int (by decide +kernel) rfl) pa_nil)))) (pe_callTy STR (by rfl) T.z_str (by decide +kernel) (pa_cons (pv 0) pa_nil)) pe_non)))))), ?_⟩
  refine q_when (b := is_tuple d) (et_B (ev_isi (ev_var rfl) hd (kit_tuple d))) (fun hb H1 e1 => ?_) (fun hb H1 e1 => ?_)
  · obtain ⟨xs, rfl⟩ := tuple_of hb
    cases hd with
    | @tup a vs _ hs ha =>
    obtain ⟨l0, wkA⟩ : 0 < lev ∧ wOkA (lev - 1) xs := wk
    have esp := hsp (lev - 1) (by omega)
    subst esp
    have tb' : 2 + tbA xs ≤ 1000000 := tbd
    have hn : vs.length = xs.length := dpa_len ha
    have l4 : vs.length ≤ sizeLine := by
      have q := tbA_len xs
      rw [hn]
      exact Nat.le_trans (show xs.length ≤ 1000000 by omega) (by decide)
    have parts : EvL (tLc (iTup K (tVar 0)) (gName 2) tYes (tCall (spWr K (lev - 1)) [] E0 (tCons (tVar 2) tNil)) [2]) [some (.ref a), none, none] H1 (xs.map fun d => oS (lawW d)) := by
      have e : (List.range vs.length).map (fun i => (fun d => oS (lawW d)) (xs.getD i .none)) = xs.map fun d => oS (lawW d) := by
        rw [hn]
        haveI : Inhabited PyData := ⟨.none⟩
        exact range_map (fun d => oS (lawW d)) xs
      rw [← e]
      refine el_lcT _ (ev_var rfl) (ex_t e1 hs) l4 (fun _ => rfl) fun i x H2 e2 hx => ?_
      have hi : i < xs.length := by rw [← hn]; exact (List.getElem?_eq_some_iff.mp hx).1
      have hxi : xs[i]? = some xs[i] := List.getElem?_eq_getElem hi
      obtain ⟨u, hu, hud⟩ := dpa_get ha hxi
      rw [hx] at hu
      cases hu
      have eg : xs.getD i .none = xs[i] := by rw [List.getD_eq_getElem?_getD, hxi]; rfl
      rw [eg]
      have tbi := tbA_of hxi
      exact ev_call (ea_cons (ev_var rfl) ea_nil) (spD_v (f := fun d => oS (lawW d)) (dp_mono (e1.trans e2) hud) ⟨wOkA_of wkA hxi, by omega⟩)
    refine q_asgL parts fun p H2 hp e2 h2 => ?_
    have hfl : (xs.map fun d => oS (lawW d)).all flatV = true := by
      rw [List.all_map]
      refine List.all_eq_true.mpr fun d _ => ?_
      show flatV (oS (lawW d)) = true
      cases lawW d <;> rfl
    have lw : lawW (.tuple xs) = (allW xs).map fun ps => 91 :: (joinC ps ++ [93]) := by
      rw [lawW, lawSep_true, Option.map_map]
      rfl
    refine s_ret (v := oS (lawW (.tuple xs))) (ev_if (b := (allW xs).isNone) (et_test (ev_is (ev_op ev_c (ev_var rfl) (rv_isL (sq_of h2) rfl hfl)) (by rw [inV_non]))) (fun z => ev_is ev_c ?_) (fun z => ?_)) fun H3 e3 => k H3 ((e1.trans e2).trans e3)
    · rw [lw, Option.isNone_iff_eq_none.mp z]
      rfl
    · obtain ⟨ps, hps⟩ : ∃ ps, allW xs = some ps := by
        cases q : allW xs with
        | none => rw [q] at z; cases z
        | some ps => exact ⟨ps, rfl⟩
      rw [allW_some hps] at h2
      have bnd := allW_bound hps
      have sumS : (ps.map S).map (·.length) = ps.map List.length := by
        rw [List.map_map]
        exact List.map_congr_left fun l _ => S_len l
      have jl : (joinC ps).length ≤ (ps.map List.length).sum + ps.length := joinC_len ps
      have big : (1000100 : Nat) ≤ sizeLine := by decide
      have ej : V.str (Txt.join (S [44]) (ps.map S)) = V.str (S (joinC ps)) := by rw [TL.join_eq, join_C]
      refine ev_is (ev_op (ev_op ev_c (ev_is (ev_join (ev_var rfl) h2 (sp := S [44]) (by rw [sumS, List.length_map, S_len]; show _ + ps.length * 1 ≤ _; omega)) ej) (rv_addS (a := [91]) (b := joinC ps) (by show 1 + _ ≤ _; omega))) ev_c (rv_addS (a := [91] ++ joinC ps) (b := [93]) (by rw [List.length_append]; show 1 + (joinC ps).length + 1 ≤ _; omega))) ?_
      rw [lw, hps]
      show V.str (S ([91] ++ joinC ps ++ [93])) = V.str (S (91 :: (joinC ps ++ [93])))
      simp
  · have hz : ShortS d := by
      cases d with
      | str x => exact wk
      | _ => trivial
    have e2t : Ex H H1 := e1
    refine q_when (b := isWord d) (et_B (ev_call (ea_cons (ev_var rfl) ea_nil) (spD_v (f := fun d => .bl (isWord d)) (dp_mono e1 hd) hz))) (fun hw H2 e2 => ?_) (fun hw H2 e2 => ?_)
    · obtain ⟨x, rfl⟩ : ∃ x, d = .str x := by
        cases d with
        | str x => exact ⟨x, rfl⟩
        | _ => exact nomatch hw
      cases hd
      refine s_ret (v := oS (lawW (.str x))) (ev_is (ev_var rfl) ?_) fun H3 e3 => k H3 ((e1.trans e2).trans e3)
      have hw' : wordL x.cps.toList = true := hw
      rw [lawW, if_pos hw']
      show V.str x = V.str (S x.cps.toList)
      rw [S_of]
    · refine q_when (b := is_bool d || (is_str d && isEmpty d)) (et_or (et_B (ev_isi (ev_var rfl) (dp_mono (e1.trans e2) hd) (kit_bool d))) fun _ => et_and (et_B (ev_isi (ev_var rfl) (dp_mono (e1.trans e2) hd) (kit_str d))) fun z => ?_) (fun hc H3 e3 => ?_) (fun hc H3 e3 => ?_)
      · obtain ⟨x, rfl⟩ := str_of z
        cases hd
        exact et_test (ev_op (ev_var rfl) ev_c (rv_bl (rv_eq rfl) (decide_eq_decide.mpr ⟨fun q => V.str.inj q, fun q => congrArg V.str q⟩)))
      · cases d with
        | bool b =>
          cases hd
          refine s_ret (v := oS (lawW (.bool b))) (ev_get3 (k := if b then "True" else "False") (by decide) (by decide) (by decide) (ev_cb (ea_cons (ev_var rfl) ea_nil) fun H4 e4 Q q => .inr ⟨b, rfl, q H4 (Ex.refl _)⟩) ?_) fun H4 e4 => k H4 (((e1.trans e2).trans e3).trans e4)
          rw [lawW]
          cases b <;> rfl
        | str x =>
          cases hd
          have hx : x = "" := of_decide_eq_true hc
          subst hx
          refine s_ret (v := oS (lawW (.str ""))) (ev_get3 (k := "") (by decide) (by decide) (by decide) (ev_cb (ea_cons (ev_var rfl) ea_nil) fun H4 e4 Q q => .inl (.inr ⟨_, rfl, q H4 (Ex.refl _)⟩)) ?_) fun H4 e4 => k H4 (((e1.trans e2).trans e3).trans e4)
          rw [lawW]
          rfl
        | _ => exact nomatch hc
      · refine s_ret (v := oS (lawW d)) (ev_if (b := is_int d) (et_B (ev_isi (ev_var rfl) (dp_mono ((e1.trans e2).trans e3) hd) (kit_int d))) (fun z => ?_) (fun z => ev_is ev_c ?_)) fun H4 e4 => k H4 (((e1.trans e2).trans e3).trans e4)
        · cases d with
          | int i =>
            cases hd
            refine ev_is (ev_cb (ea_cons (ev_var rfl) ea_nil) fun H4 e4 Q q => .inl (.inl ⟨i, rfl, wk, q H4 (Ex.refl _)⟩)) ?_
            rw [lawW]
            show V.str _ = V.str (S (istr i))
            unfold istr
            rw [S_of]
          | bool b => exact nomatch hc
          | _ => exact nomatch z
        · cases d with
          | tuple xs => exact nomatch hb
          | str x =>
            have h1 : wordL x.cps.toList = false := hw
            have h2 : ¬ x.cps.toList = [] := fun q => by
              have : x = "" := by rw [← S_of x, q]; rfl
              rw [this] at hc
              exact nomatch hc
            rw [lawW, if_neg (by rw [h1]; decide), if_neg h2]
            rfl
          | int i => exact nomatch z
          | bool b => exact nomatch hc
          | none => rw [lawW]; rfl
          | list xs => rw [lawW]; rfl
          | dict xs => rw [lawW]; rfl
theorem ok_written (T : Txt w K mg A) : ∀ lev : Nat, FnOk P w K mg base CX0 (lev + 2) A.f_law_written A.d_law_written ["data"] (spWr K lev)
  | 0 => ok_written1 T 0 fun l e => nomatch e
  | l + 1 => ok_written1 T (l + 1) fun m e => by
    obtain rfl := Nat.succ.inj e
    exact ok_written T m
end
end K53

set_option autoImplicit false
set_option Elab.async false
set_option linter.all false
set_option maxRecDepth 100000
set_option maxHeartbeats 4000000
namespace K53
open PySem PySem.Spec PyProof.Rows L2 KX Evl
/-! ### _law_data -/
def i40 : Int := 10 ^ (40 : Int).toNat
def i20 : Int := -(10 ^ (20 : Int).toNat)
mutual
/-- what is drawn at a level -/
def goodD (lev : Nat) : PyData → Prop
  | .tuple xs => 0 < lev ∧ xs.length ≤ 3 ∧ goodA (lev - 1) xs
  | .str x => x ∈ [S [97, 98, 122, 57], S [98, 122, 57], S [122, 57], S [97, 50, 51, 52, 53, 54, 55, 56, 57, 48, 49, 50], S []]
  | .int i => i ∈ [0, -1, 7, i40, i20, 1000]
  | .bool _ => True
  | _ => False
def goodA (lev : Nat) : List PyData → Prop
  | [] => True
  | x :: r => goodD lev x ∧ goodA lev r
end
theorem goodA_app {lev : Nat} : ∀ {xs : List PyData} {d : PyData}, goodA lev xs → goodD lev d → goodA lev (xs ++ [d])
  | [], d, _, h => ⟨h, trivial⟩
  | x :: r, d, h, hd => ⟨h.1, goodA_app h.2 hd⟩
theorem good_noList : ∀ {d : PyData} {lev : Nat}, goodD lev d → noList d = true := by
  intro d
  refine PyData.rec (motive_1 := fun d => ∀ {lev : Nat}, goodD lev d → noList d = true) (motive_2 := fun xs => ∀ {lev : Nat}, goodA lev xs → noListA xs = true) (motive_3 := fun _ => True) (motive_4 := fun _ => True) ?_ ?_ ?_ ?_ ?_ ?_ ?_ ?_ ?_ ?_ ?_ ?_ d
  · intro lev h; rfl
  · intro b lev h; rfl
  · intro i lev h; rfl
  · intro x lev h; rfl
  · intro xs _ lev h; exact h.elim
  · intro xs ih lev h
    have h' : 0 < lev ∧ xs.length ≤ 3 ∧ goodA (lev - 1) xs := h
    show noListA xs = true
    exact ih h'.2.2
  · intro xs _ lev h; exact h.elim
  · intro lev h; rfl
  · intro x r i1 i2 lev h
    have h' : goodD lev x ∧ goodA lev r := h
    show (noList x && noListA r) = true
    rw [i1 h'.1, i2 h'.2]
    rfl
  · trivial
  · intros; trivial
  · intros; trivial
theorem goodA_noList : ∀ {xs : List PyData} {lev : Nat}, goodA lev xs → noListA xs = true
  | [], _, _ => rfl
  | x :: r, lev, h => by
    have h' : goodD lev x ∧ goodA lev r := h
    show (noList x && noListA r) = true
    rw [good_noList h'.1, goodA_noList h'.2]
    rfl
def cost : Nat → Nat
  | 0 => 4
  | l + 1 => 3 * cost l + 4
def spData (K : PySem.W.Frag) (lev : Nat) : Sp := fun vs H Q _ => ∃ (a cl : Addr) (n : Nat), vs = [.ref a, .int (lev : Int)] ∧ DrawAt H a cl n ∧ n + cost lev ≤ 1000000 ∧ ∀ v d H', DrawAt H' a cl (n + cost lev) → Oth (fun b => b = a) H H' → goodD lev d → Dp K H' v d → Q v H'
theorem DrawAt.wide {H : Hp} {a cl : Addr} {n m : Nat} (h : DrawAt H a cl n) (e : n ≤ m) : DrawAt H a cl m := by
  obtain ⟨c, p, v, l, s, k, h1, h2, h3, h4, h5, h6, h7⟩ := h
  exact ⟨c, p, v, l, s, k, h1, h2, h3, h4, h5, h6, Nat.le_trans h7 e⟩
theorem Oth.mut {own : Addr → Prop} {H H' : Hp} {b : Addr} {o : HO} (p : Oth own H H') (h : H b = none) : Oth own H (upd H' b o) := fun c u e n => by
  rw [upd_ne (fun z => by rw [z, h] at e; cases e)]
  exact p c u e n
theorem Oth.fresh {a : Addr} {H H' : Hp} {b : Addr} (p : Oth (fun b => b = a) H H') (h : H' b = none) (ha : H' a ≠ none) : H b = none := by
  cases q : H b with
  | none => rfl
  | some o =>
    have ne : ¬ b = a := fun e => ha (by rw [← e]; exact h)
    rw [p b o q ne] at h
    cases h
theorem DrawAt.some {H : Hp} {a cl : Addr} {n : Nat} (h : DrawAt H a cl n) : H a ≠ none := by
  obtain ⟨c, p, v, l, s, k, h1, h2, _⟩ := h
  rw [h2]
  exact fun z => by cases z
theorem DrawAt.upd {H : Hp} {a cl b : Addr} {n : Nat} {o : HO} (h : DrawAt H a cl n) (h1 : ¬ b = a) (h2 : ¬ b = cl) : DrawAt (L2.upd H b o) a cl n := by
  obtain ⟨c, p, v, l, s, k, q1, q2, q3⟩ := h
  exact ⟨c, p, v, l, s, k, by rw [upd_ne (fun e => h2 e.symm)]; exact q1, by rw [upd_ne (fun e => h1 e.symm)]; exact q2, q3⟩
theorem t_opL {ta tb : TE} {r : R2} {D : Ends} {σ : L2.St} {H : Hp} {xs : List V} (h : EvL ta σ H xs) (k : ∀ p H1, H p = none → Ex H H1 → H1 p = some (.lst xs) → tb σ H1 fun y H2 => r (.ref p) y H2 D.rt) : tRet (tOp r ta tb) D σ H := h H (Ex.refl H) _ k
section
variable {P : Program} {w : World} {K : PySem.W.Frag} {mg : Str → Option Value} {base : Heap} {A : Ad}
theorem sc_law_data : FnScope ["draw", "deep", "k", "turn"] ["draw", "deep"] (defScope s_law_data) := ⟨rfl, rfl, rfl, by decide +kernel, rfl, by decide +kernel, by decide +kernel⟩
theorem ok_data1 (T : Txt w K mg A) (lev : Nat) (rec_ : ∀ l, l + 1 = lev → FnOk P w K mg base CX0 (lev + 1) A.f_law_data A.d_law_data ["draw", "deep"] (spData K l)) : FnOk P w K mg base CX0 (lev + 2) A.f_law_data A.d_law_data ["draw", "deep"] (spData K lev) := by
  have G0 : ∃ sp : Sp, FnOk P w K mg base CX0 (lev + 1) A.f_law_data A.d_law_data ["draw", "deep"] sp ∧ ∀ l, l + 1 = lev → sp = spData K l := by
    cases lev with
    | zero => exact ⟨fun _ _ _ _ => False, ⟨fun _ _ _ _ z => z.elim, fun _ _ _ _ _ _ _ _ _ _ _ _ _ z => z.elim⟩, fun l e => nomatch e⟩
    | succ l => exact ⟨spData K l, rec_ l rfl, fun m e => by rw [Nat.succ.inj e]⟩
  obtain ⟨sp, G_law_data, hsp⟩ := G0
  refine T.F_law_data.ok sc_law_data (fun vs H Q E h => ?_) (fun cdv Ar outer s H vs Q E hr h => ?_)
  · obtain ⟨a, cl, n, rfl, _⟩ := h
    rfl
  obtain ⟨a, cl, n, rfl, hD, hn, k⟩ := h
  have nd := sc_law_data.nd
  have hr_law_data := hr
  have G_law_take := (ok_take_ (P := P) (base := base) T).mono (show 1 ≤ lev + 1 by omega)
  have hr_law_take := hr
  refine ⟨_, (pss_cons (ps_set (i := 2) nd rfl (Or.inl rfl) (pe_call G_law_take hr_law_take (by rfl) T.m_law_take T.F_law_take.kp T.b_law_take .nil pass0 (pa_cons (pv 0) (pa_cons pe_int pa_nil))))
      (pss_cons (ps_if (PW.pt (pw_and (pt_cmpR op_gt (pv 1) pe_int (nomark _)) (pw_and1 (pt_cmpR op_lt (pv 2) pe_int (nomark _))))) (pss_one (ps_ret (pe_callTy call_tuple_of (by rfl) T.z_tuple (by decide +kernel) (pa_cons (pe_lc (own := [("turn", 3)]) (g := (gName 3)) (tt := tYes) (by rfl) nd (pi_range1 (by rfl) T.z_range (pa_cons (pe_call G_law_take hr_law_take (by rfl) T.m_law_take T.F_law_take.kp T.b_law_take .nil pass0 (pa_cons (pv 0) (pa_cons pe_int pa_nil))) pa_nil)) (blkOk_by (own := [("turn", 3)]) (N := ["draw", "deep", "k", "turn"]) (sc := defScope s_law_data) (by decide +kernel)) (fun _ _ _ _ _ => (pg_name (i := 3) nd rfl (Or.inl rfl))) (fun _ _ _ _ _ => pts_nil) (fun _ _ _ _ _ => (pe_call G_law_data hr_law_data (by rfl) T.m_law_data T.F_law_data.kp T.b_law_data .nil pass0 (pa_cons (pv 0) (pa_cons (pe_op op_sub (pv 1) pe_int) pa_nil))))) pa_nil)))) pss_nil)
      (pss_cons (ps_if (pt_cmpR op_eq (pv 2) pe_int (nomark _)) (pss_one (ps_ret (pe_ifExp (pt_cmpR op_gt (pe_call G_law_take hr_law_take (by rfl) T.m_law_take T.F_law_take.kp T.b_law_take .nil pass0 (pa_cons (pv 0) (pa_cons pe_int pa_nil))) pe_int (nomark _)) (pe_slice sl_str pe_str (po_some (pe_call G_law_take hr_law_take (by rfl) T.m_law_take T.F_law_take.kp T.b_law_take .nil pass0 (pa_cons (pv 0) (pa_cons pe_int pa_nil)))) po_none) pe_str))) pss_nil)
      (pss_one (ps_ret (pe_ix ix_list (pe_lst (pa_cons pe_int (pa_cons (pe_un un_neg pe_int) (pa_cons pe_int (pa_cons (pe_op op_pow pe_int pe_int) (pa_cons (pe_un un_neg (pe_op op_pow pe_int pe_int)) (pa_cons pe_int (pa_cons pe_bl (pa_cons pe_bl (pa_cons pe_str pa_nil)))))))))) (pe_call G_law_take hr_law_take (by rfl) T.m_law_take T.F_law_take.kp T.b_law_take .nil pass0 (pa_cons (pv 0) (pa_cons pe_int pa_nil))) (fun _ _ => rfl))))))), ?_⟩
  have c4 : 4 ≤ cost lev := by cases lev <;> simp only [cost] <;> omega
  refine ⟨_, rfl, a, cl, 6, n, rfl, by decide, by decide, hD, by omega, fun r H1 r0 r6 hD1 o1 => ?_⟩
  refine q_when (b := decide (0 < lev) && decide (r < 3)) (et_and (et_test (ev_op (ev_var rfl) ev_c (rv_gtT (decide_eq_decide.mpr (by omega))))) fun _ => et_test (ev_op (ev_var rfl) ev_c (rv_ltT rfl))) (fun hb H2 e2 => ?_) (fun hb H2 e2 => ?_)
  · rw [Bool.and_eq_true, decide_eq_true_eq, decide_eq_true_eq] at hb
    obtain ⟨l, rfl⟩ : ∃ l, lev = l + 1 := ⟨lev - 1, by omega⟩
    have esp := hsp l rfl
    subst esp
    have o2 : Oth (fun b => b = a) H H2 := Oth.t o1 (Oth.of e2)
    have hD2 := hD1.ex e2
    have cs : cost (l + 1) = 3 * cost l + 4 := rfl
    refine ⟨_, rfl, a, cl, 4, n + 1, rfl, by decide, by decide, hD2, by omega, fun m H3 m0 m4 hD3 o3 => ⟨m, rfl, by omega, by omega, fun Dl hDl => ?_⟩⟩
    have o3' : Oth (fun b => b = a) H H3 := Oth.t o2 o3
    have frD : H Dl = none := Oth.fresh o3' hDl hD3.some
    have nDc : ¬ Dl = cl := fun e => by
      obtain ⟨c, p, v, l', s', k', h1, h2, _⟩ := hD3
      rw [e, h1] at hDl
      cases hDl
    have nDa : ¬ Dl = a := fun e => hD3.some (by rw [← e]; exact hDl)
    refine lc_it (walk_range (lo := 0) (n := m.toNat)) (fun i H' => ∃ vs ds, H' Dl = some (.lst vs) ∧ DpAll K H' vs ds ∧ ds.length = i ∧ goodA l ds ∧ DrawAt H' a cl (n + 2 + i * cost l) ∧ Oth (fun b => b = a) H H') ⟨[], [], upd_same, .nil, rfl, trivial, ?_, Oth.mut o3' frD⟩ (fun _ _ _ _ => trivial) ?_ ?_
    · have q := hD3.ex (Ex.new (o := .lst []) hDl)
      rw [Nat.zero_mul]
      exact q
    · rintro i x Ha Hb hi ⟨vs, ds, hl, hds, hi2, hg, hDa, oa⟩ ⟨rfl, rfl⟩
      have im : i * cost l ≤ 2 * cost l := Nat.mul_le_mul_right _ (by omega)
      have im1 : (i + 1) * cost l = i * cost l + cost l := Nat.succ_mul _ _
      refine ⟨rfl, _, rfl, _, rfl, _, _, rfl, rfl, a, cl, n + 2 + i * cost l, ?_, hDa, by omega, fun v d Hc hDc oc gd dp => ?_⟩
      · show [V.ref a, V.int (((l + 1 : Nat) : Int) - 1)] = _
        rw [show (((l + 1 : Nat) : Int) - 1) = ((l : Nat) : Int) by omega]
      · have tk := hDa.tk oc
        have hl' := oc Dl _ hl nDa
        have lv := dpa_len hds
        refine ⟨vs, hl', sz_lt (by omega), vs ++ [v], ds ++ [d], upd_same, ?_, ?_, goodA_app hg gd, ?_, Oth.mut (Oth.t oa oc) frD⟩
        · have tk2 : TupK Hc (upd Hc Dl (.lst (vs ++ [v]))) := .lst hl'
          exact dpa_app (dpa_tk (tk.trans tk2) hds (goodA_noList hg)) (dpa_one (dp_tk tk2 dp (good_noList gd)))
        · rw [List.length_append, hi2]
          rfl
        · rw [im1, ← Nat.add_assoc]
          exact hDc.upd nDa nDc
    · rintro Ha ⟨vs, ds, hl, hds, hi2, hg, hDa, oa⟩
      have m3 : m.toNat ≤ 3 := by omega
      have im : m.toNat * cost l ≤ 3 * cost l := Nat.mul_le_mul_right _ m3
      refine ⟨Dl, vs, rfl, .inl ⟨sq_of hl, fun p hp => k (.ref p) (.tuple ds) _ ((hDa.wide (by omega)).ex (Ex.new hp)) (Oth.t oa (Oth.of (Ex.new hp))) ⟨Nat.succ_pos _, by omega, hg⟩ (.tup (st_of upd_same) (dpa_mono (Ex.new hp) hds))⟩⟩
  · have o2 : Oth (fun b => b = a) H H2 := Oth.t o1 (Oth.of e2)
    have hD2 := hD1.ex e2
    refine q_when (b := decide (r = 3)) (et_test (ev_op (ev_var rfl) ev_c (rv_eqI rfl))) (fun hc H3 e3 => ?_) (fun hc H3 e3 => ?_)
    · have o3 : Oth (fun b => b = a) H H3 := Oth.t o2 (Oth.of e3)
      refine ⟨_, rfl, a, cl, 4, n + 1, rfl, by decide, by decide, hD2.ex e3, by omega, fun r2 H4 q0 q4 hD4 o4 => ⟨r2, 0, rfl, rfl, decide (r2 > 0), rfl, ?_⟩⟩
      by_cases hr2 : r2 > 0
      · rw [decide_eq_true hr2]
        refine iteT ⟨_, rfl, a, cl, 3, n + 2, rfl, by decide, by decide, hD4, by omega, fun r3 H5 q0 q4 hD5 o5 => ⟨r3, rfl, S [97, 98, 122, 57], rfl, by decide, ?_⟩⟩
        have o5' := Oth.t o3 (Oth.t o4 o5)
        have fin : ∀ x : Str, goodD lev (.str x) → Q (.str x) H5 := fun x gx => k _ (.str x) H5 (hD5.wide (by omega)) o5' gx (.str x)
        obtain rfl | rfl | rfl : r3 = 0 ∨ r3 = 1 ∨ r3 = 2 := by omega
        · have e : cutS (S [97, 98, 122, 57]) (some 0) none = S [97, 98, 122, 57] := cut_from _ 0
          rw [e]
          exact fin _ (.head _)
        · have e : cutS (S [97, 98, 122, 57]) (some 1) none = S [98, 122, 57] := cut_from _ 1
          rw [e]
          exact fin _ (.tail _ (.head _))
        · have e : cutS (S [97, 98, 122, 57]) (some 2) none = S [122, 57] := cut_from _ 2
          rw [e]
          exact fin _ (.tail _ (.tail _ (.head _)))
      · rw [decide_eq_false hr2]
        exact iteF (k _ (.str (S [97, 50, 51, 52, 53, 54, 55, 56, 57, 48, 49, 50])) H4 (hD4.wide (by omega)) (Oth.t o3 o4) (.tail _ (.tail _ (.tail _ (.head _)))) (.str _))
    · have o3 : Oth (fun b => b = a) H H3 := Oth.t o2 (Oth.of e3)
      refine t_opL (xs := [.int 0, .int (-1), .int 7, .int i40, .int i20, .int 1000, .bl true, .bl false, .str (S [])]) (el_lst (ea_cons ev_c (ea_cons (ev_un ev_c ru_neg) (ea_cons ev_c (ea_cons (ev_op ev_c ev_c (rv_I (show CPow 10 40 from ⟨by decide, by decide, by decide⟩))) (ea_cons (ev_un (ev_op ev_c ev_c (rv_I (show CPow 10 20 from ⟨by decide, by decide, by decide⟩))) ru_neg) (ea_cons ev_c (ea_cons ev_c (ea_cons ev_c (ea_cons ev_c ea_nil))))))))) (by show 9 ≤ 100000; decide)) fun p H4 hp e4 h4 => ?_
      refine ⟨_, rfl, a, cl, 9, n + 1, rfl, by decide, by decide, (hD2.ex e3).ex e4, by omega, fun r2 H5 q0 q9 hD5 o5 => ?_⟩
      have npa : ¬ p = a := fun e => (hD2.ex e3).some (by rw [← e]; exact hp)
      have h5 := o5 _ _ h4 npa
      have fin : ∀ (v : V) (d : PyData), goodD lev d → Dp K H5 v d → Q v H5 := fun v d gd dp => k v d H5 (hD5.wide (by omega)) (Oth.t (Oth.t o3 (Oth.of e4)) o5) gd dp
      obtain rfl | rfl | rfl | rfl | rfl | rfl | rfl | rfl | rfl : r2 = 0 ∨ r2 = 1 ∨ r2 = 2 ∨ r2 = 3 ∨ r2 = 4 ∨ r2 = 5 ∨ r2 = 6 ∨ r2 = 7 ∨ r2 = 8 := by omega
      · exact ⟨p, _, _, _, rfl, rfl, sq_of h5, rfl, fin (.int 0) (.int 0) (.head _) (.int _)⟩
      · exact ⟨p, _, _, _, rfl, rfl, sq_of h5, rfl, fin (.int (-1)) (.int (-1)) (.tail _ (.head _)) (.int _)⟩
      · exact ⟨p, _, _, _, rfl, rfl, sq_of h5, rfl, fin (.int 7) (.int 7) (.tail _ (.tail _ (.head _))) (.int _)⟩
      · exact ⟨p, _, _, _, rfl, rfl, sq_of h5, rfl, fin (.int i40) (.int i40) (.tail _ (.tail _ (.tail _ (.head _)))) (.int _)⟩
      · exact ⟨p, _, _, _, rfl, rfl, sq_of h5, rfl, fin (.int i20) (.int i20) (.tail _ (.tail _ (.tail _ (.tail _ (.head _))))) (.int _)⟩
      · exact ⟨p, _, _, _, rfl, rfl, sq_of h5, rfl, fin (.int 1000) (.int 1000) (.tail _ (.tail _ (.tail _ (.tail _ (.tail _ (.head _)))))) (.int _)⟩
      · exact ⟨p, _, _, _, rfl, rfl, sq_of h5, rfl, fin (.bl true) (.bool true) trivial (.bl _)⟩
      · exact ⟨p, _, _, _, rfl, rfl, sq_of h5, rfl, fin (.bl false) (.bool false) trivial (.bl _)⟩
      · exact ⟨p, _, _, _, rfl, rfl, sq_of h5, rfl, fin (.str (S [])) (.str (S [])) (.tail _ (.tail _ (.tail _ (.tail _ (.head _))))) (.str _)⟩
theorem ok_data (T : Txt w K mg A) : ∀ lev : Nat, FnOk P w K mg base CX0 (lev + 2) A.f_law_data A.d_law_data ["draw", "deep"] (spData K lev)
  | 0 => ok_data1 T 0 fun l e => nomatch e
  | l + 1 => ok_data1 T (l + 1) fun m e => by
    obtain rfl := Nat.succ.inj e
    exact ok_data T m
end
end K53

set_option autoImplicit false
set_option Elab.async false
set_option linter.all false
set_option maxRecDepth 100000
set_option maxHeartbeats 4000000
namespace K53
open PySem PySem.Spec PyProof.Rows L2 KX Evl
/-! ### _law_read -/
theorem s_forS {te : TE} {tb : TS} {D : Ends} {σ : L2.St} {H : Hp} {j : Nat} {z : Str} (h : Ev te σ H (.str z)) (Pv : Nat → L2.St → Hp → Prop) (h0 : ∀ H1, Ex H H1 → Pv 0 σ H1)
    (hs : ∀ i c σ' H', z.cps.toList[i]? = some c → Pv i σ' H' → tb { D with nx := Pv (i + 1), ct := Pv (i + 1), bk := D.nx } (σ'.set j (some (.str ⟨#[c]⟩))) H') (hd : ∀ σ' H', Pv z.cps.toList.length σ' H' → D.nx σ' H') : tFor (iStr te) (gName j) tb D σ H :=
  h H (Ex.refl H) _ fun H1 e => ⟨z, rfl, for_it walk_str Pv (h0 H1 e) (fun _ _ _ _ _ => trivial) (fun i x σ' Ha Hb hi p y => by
    obtain ⟨rfl, c, hc, rfl⟩ := y
    exact hs i c σ' _ (by rw [Array.getElem?_toList]; exact hc) p) (fun σ' H' p => hd σ' H' (by rw [Array.length_toList]; exact p))⟩
theorem q_forS {te : TE} {tb tz : TS} {D : Ends} {σ : L2.St} {H : Hp} {j : Nat} {z : Str} (h : Ev te σ H (.str z)) (Pv : Nat → L2.St → Hp → Prop) (h0 : ∀ H1, Ex H H1 → Pv 0 σ H1)
    (hs : ∀ i c σ' H', z.cps.toList[i]? = some c → Pv i σ' H' → tb { D with nx := Pv (i + 1), ct := Pv (i + 1), bk := tz D } (σ'.set j (some (.str ⟨#[c]⟩))) H') (hd : ∀ σ' H', Pv z.cps.toList.length σ' H' → tz D σ' H') : tSeq (tFor (iStr te) (gName j) tb) tz D σ H :=
  s_forS (D := { D with nx := tz D }) h Pv h0 hs hd
structure LS where
  rows : List (List PyData)
  val : Option PyData
  token : List Nat
def lFlush (s : LS) : Option LS := if s.token = [] then some s else match readAtom s.token, s.val with | some a, none => some ⟨s.rows, some a, []⟩ | _, _ => none
def lSep (s : LS) (c : Nat) : Option LS :=
  if c = 91 then (match s.val with | none => some ⟨[] :: s.rows, none, s.token⟩ | some _ => none)
  else if c = 44 then (match s.val, s.rows with | some v, t :: r => some ⟨(t ++ [v]) :: r, none, s.token⟩ | _, _ => none)
  else if c = 93 then (match s.val, s.rows with | none, t :: r => (if t = [] then some ⟨r, some (.tuple []), s.token⟩ else none) | some v, t :: r => some ⟨r, some (.tuple (t ++ [v])), s.token⟩ | _, [] => none)
  else some s
def lStep (s : LS) (c : Nat) : Option LS := if (sep c || decide (c = 59)) = true then (lFlush s).bind fun s => lSep s c else some ⟨s.rows, s.val, s.token ++ [c]⟩
def lRun (s : LS) : List Nat → Option LS
  | [] => some s
  | c :: r => (lStep s c).bind fun s' => lRun s' r
theorem lRun_snoc : ∀ (s : LS) (r : List Nat) (l : Nat), lRun s (r ++ [l]) = (lRun s r).bind fun s' => lStep s' l
  | s, [], l => by
    show (lStep s l).bind (fun s' => some s') = lStep s l
    cases lStep s l <;> rfl
  | s, a :: r, l => by
    show (lStep s a).bind _ = ((lStep s a).bind _).bind _
    cases lStep s a with
    | none => rfl
    | some s' => exact lRun_snoc s' r l
theorem lRun_none : ∀ (s : LS) (r q : List Nat), lRun s r = none → lRun s (r ++ q) = none
  | s, [], q, h => by cases h
  | s, a :: r, q, h => by
    show (lStep s a).bind _ = none
    have h' : ((lStep s a).bind fun s' => lRun s' r) = none := h
    cases e : lStep s a with
    | none => rfl
    | some s' =>
      rw [e] at h'
      exact lRun_none s' r q h'
def lEnd (l : List Nat) (s : LS) : Option PyData := if s.rows = [] ∧ ¬ 59 ∈ l then s.val else none
def lawRead (l : List Nat) : Option PyData := (lRun ⟨[], none, []⟩ (l ++ [59])).bind (lEnd l)
theorem in_sepL (c : Nat) : decide (c ∈ (Str.ofString "[],;").cps.toList) = (sep c || decide (c = 59)) := by
  have e : (Str.ofString "[],;").cps.toList = [91, 93, 44, 59] := by decide +kernel
  rw [e, Bool.eq_iff_iff]
  simp only [sep, decide_eq_true_eq, Bool.or_eq_true, List.mem_cons, List.not_mem_nil, or_false]
  omega
def okD (d : PyData) : Bool := noList d && d.canLay0
def okA (ds : List PyData) : Bool := noListA ds && PyData.canLayAll0 ds
theorem okA_app {a : List PyData} {d : PyData} (h : okA a = true) (hd : okD d = true) : okA (a ++ [d]) = true := by
  unfold okA okD at *
  rw [Bool.and_eq_true] at *
  refine ⟨by rw [noListA_app, h.1]; simp [noListA, hd.1], ?_⟩
  have : ∀ xs : List PyData, PyData.canLayAll0 xs = true → PyData.canLayAll0 (xs ++ [d]) = true := by
    intro xs
    induction xs with
    | nil => intro _; simp [PyData.canLayAll0, hd.2]
    | cons x r ih =>
      intro q
      simp only [PyData.canLayAll0, Bool.and_eq_true, List.cons_append] at q ⊢
      exact ⟨q.1, ih q.2⟩
  exact this a h.2
theorem okD_tuple {ds : List PyData} (h : okA ds = true) : okD (.tuple ds) = true := by
  unfold okA at h
  unfold okD
  rw [Bool.and_eq_true] at *
  refine ⟨h.1, ?_⟩
  simp only [PyData.canLay0]
  exact h.2
theorem readAtom_ok {l : List Nat} {d : PyData} (h : readAtom l = some d) : okD d = true := by
  unfold readAtom signOf at h
  by_cases q0 : l = [43]
  · rw [if_pos q0] at h
    cases h
    rfl
  by_cases q1 : l = [45]
  · rw [if_neg q0, if_pos q1] at h
    cases h
    rfl
  by_cases q2 : l = [46]
  · rw [if_neg q0, if_neg q1, if_pos q2] at h
    cases h
    decide +kernel
  rw [if_neg q0, if_neg q1, if_neg q2] at h
  by_cases q3 : wordL l = true
  · have h' : some (PyData.str (S l)) = some d := by simpa [q3] using h
    cases h'
    have w : (l.all fun c => small c || digit c) = true := by
      unfold wordL at q3
      revert q3
      generalize (l.all fun c => small c || digit c) = al
      cases al <;> simp
    have q : (S l).cps.all (· < 0x110000) = true := by
      rw [← Array.all_toList]
      refine List.all_eq_true.mpr fun c hc => ?_
      have := List.all_eq_true.mp w c hc
      simp only [small, digit, Bool.or_eq_true, Bool.and_eq_true, decide_eq_true_eq] at this
      refine decide_eq_true ?_
      omega
    unfold okD
    simp only [noList, PyData.canLay0, Bool.true_and]
    exact q
  · have h' : (readWhole l).map PyData.int = some d := by simpa [q3] using h
    obtain ⟨i, _, rfl⟩ := Option.map_eq_some_iff.mp h'
    rfl
section
variable {K : PySem.W.Frag} {A : Ad} {H H' : Hp}
structure RdL (K : PySem.W.Frag) (H : Hp) (R Dn : Addr) (as : List Addr) (s : LS) (n : Nat) : Prop where
  hr : H R = some (.lst (as.reverse.map V.ref))
  st : StkAt K H as s.rows
  dn : ∃ vs, H Dn = some (.lst vs)
  dv : ∀ d, s.val = some d → ∃ v, H Dn = some (.lst [v]) ∧ Dp K H v d ∧ okD d = true
  nd : (Dn :: R :: as).Nodup
  n1 : ∀ t ∈ s.rows, okA t = true
  b1 : s.rows.length ≤ n
  b2 : ∀ t ∈ s.rows, t.length ≤ n
theorem okA_n {ds : List PyData} (h : okA ds = true) : noListA ds = true := by
  unfold okA at h
  rw [Bool.and_eq_true] at h
  exact h.1
theorem okD_n {d : PyData} (h : okD d = true) : noList d = true := by
  unfold okD at h
  rw [Bool.and_eq_true] at h
  exact h.1
variable {R Dn : Addr} {as : List Addr} {s : LS} {n : Nat}
theorem RdL.ex (e : Ex H H') (h : RdL K H R Dn as s n) : RdL K H' R Dn as s n :=
  ⟨e _ _ h.hr, h.st.mono (.of e) (fun a _ o q => e a o q) (fun t ht => okA_n (h.n1 t ht)), by obtain ⟨vs, q⟩ := h.dn; exact ⟨vs, e _ _ q⟩, fun d hd => by
    obtain ⟨v, q1, q2, q3⟩ := h.dv d hd
    exact ⟨v, e _ _ q1, dp_mono e q2, q3⟩, h.nd, h.n1, h.b1, h.b2⟩
theorem RdL.wide {m : Nat} (h : RdL K H R Dn as s n) (e : n ≤ m) : RdL K H R Dn as s m := ⟨h.hr, h.st, h.dn, h.dv, h.nd, h.n1, Nat.le_trans h.b1 e, fun t q => Nat.le_trans (h.b2 t q) e⟩
/-- the rows as data -/
theorem RdL.rows {as : List Addr} {ts : List (List PyData)} (h : StkAt K H as ts) : DpAll K H (as.reverse.map V.ref) (ts.reverse.map PyData.list) := by
  induction as generalizing ts with
  | nil =>
    cases ts with
    | nil => exact .nil
    | cons t r => exact h.elim
  | cons a ar ih =>
    cases ts with
    | nil => exact h.elim
    | cons t r =>
      obtain ⟨⟨vs, q1, q2⟩, q3⟩ := h
      rw [List.reverse_cons, List.map_append, List.reverse_cons, List.map_append]
      exact dpa_app (ih q3) (dpa_one (.lst (sq_of q1) q2))
/-- a new value that is done -/
theorem RdL.done {p : Addr} {v : V} {d : PyData} (h : RdL K H R Dn as s n) (fp : p ∉ R :: as) (hp : H p = some (.lst [v])) (dp : Dp K H v d) (ok : okD d = true) (tok : List Nat) : RdL K H R p as ⟨s.rows, some d, tok⟩ n :=
  ⟨h.hr, h.st, ⟨_, hp⟩, fun d' e => by cases e; exact ⟨v, hp, dp, ok⟩, List.nodup_cons.mpr ⟨fp, (List.nodup_cons.mp h.nd).2⟩, h.n1, h.b1, h.b2⟩
theorem RdL.own (h : RdL K H R Dn as s n) : ∀ b ∈ Dn :: R :: as, H b ≠ none := fun b hb => by
  rcases List.mem_cons.mp hb with e | hb
  · obtain ⟨vs, q⟩ := h.dn
    rw [e, q]
    exact fun z => by cases z
  rcases List.mem_cons.mp hb with e | hb
  · rw [e, h.hr]
    exact fun z => by cases z
  · obtain ⟨vs, q⟩ := h.st.lst hb
    rw [q]
    exact fun z => by cases z
theorem RdL.push {a : Addr} (h : RdL K H R Dn as s n) (fa : a ∉ Dn :: R :: as) (ha : H a = some (.lst [])) (hv : s.val = none) :
    RdL K (upd H R (.lst (as.reverse.map V.ref ++ [.ref a]))) R Dn (a :: as) ⟨[] :: s.rows, none, s.token⟩ (n + 1) := by
  have tk : TupK H (upd H R (.lst (as.reverse.map V.ref ++ [.ref a]))) := .lst h.hr
  have nd := h.nd
  simp only [List.nodup_cons, List.mem_cons, not_or] at nd fa
  refine ⟨?_, ⟨⟨[], by rw [upd_ne fa.2.1]; exact ha, .nil⟩, h.st.mono tk (fun c m o q => by rw [upd_ne (fun e => nd.2.1 (by rw [← e]; exact m))]; exact q) (fun t ht => okA_n (h.n1 t ht))⟩, ?_, (fun d e => nomatch e), ?_, fun u hu => ?_, Nat.succ_le_succ h.b1, fun u hu => ?_⟩
  · rw [upd_same, List.reverse_cons, List.map_append]
    rfl
  · obtain ⟨vs, q⟩ := h.dn
    exact ⟨vs, by rw [upd_ne nd.1.1]; exact q⟩
  · simp only [List.nodup_cons, List.mem_cons, not_or]
    exact ⟨⟨nd.1.1, fun e => fa.1 e.symm, nd.1.2⟩, ⟨fun e => fa.2.1 e.symm, nd.2.1⟩, fa.2.2, nd.2.2⟩
  · rcases List.mem_cons.mp hu with e | e
    · rw [e]; rfl
    · exact h.n1 u e
  · rcases List.mem_cons.mp hu with e | e
    · rw [e]; exact Nat.zero_le _
    · exact Nat.le_succ_of_le (h.b2 u e)
theorem RdL.comma {a : Addr} {t : List PyData} {ts : List (List PyData)} {v : V} {d : PyData} {vs : List V} {vl : Option PyData} {tok : List Nat} (h : RdL K H R Dn (a :: as) ⟨t :: ts, vl, tok⟩ n) (hv : H a = some (.lst vs)) (hD : DpAll K H vs t) (hd : Dp K H v d) (ok : okD d = true) :
    RdL K (upd H a (.lst (vs ++ [v]))) R Dn (a :: as) ⟨(t ++ [d]) :: ts, none, tok⟩ (n + 1) := by
  have tk : TupK H (upd H a (.lst (vs ++ [v]))) := .lst hv
  have nd := h.nd
  simp only [List.nodup_cons, List.mem_cons, not_or] at nd
  refine ⟨by rw [upd_ne nd.2.1.1]; exact h.hr, ⟨⟨_, upd_same, dpa_app (dpa_tk tk hD (okA_n (h.n1 t (List.mem_cons_self ..)))) (dpa_one (dp_tk tk hd (okD_n ok)))⟩, h.st.2.mono tk (fun c m o q => by rw [upd_ne (fun e => nd.2.2.1 (by rw [← e]; exact m))]; exact q) (fun u hu => okA_n (h.n1 u (List.mem_cons_of_mem _ hu)))⟩, ?_, (fun d e => nomatch e), h.nd, fun u hu => ?_, Nat.le_succ_of_le h.b1, fun u hu => ?_⟩
  · obtain ⟨ws, q⟩ := h.dn
    exact ⟨ws, by rw [upd_ne nd.1.2.1]; exact q⟩
  · rcases List.mem_cons.mp hu with e | e
    · rw [e]
      exact okA_app (h.n1 t (List.mem_cons_self ..)) ok
    · exact h.n1 u (List.mem_cons_of_mem _ e)
  · rcases List.mem_cons.mp hu with e | e
    · rw [e, List.length_append]
      exact Nat.succ_le_succ (h.b2 t (List.mem_cons_self ..))
    · exact Nat.le_succ_of_le (h.b2 u (List.mem_cons_of_mem _ e))
theorem RdL.pop {a : Addr} {t : List PyData} {ts : List (List PyData)} {vl : Option PyData} {tok : List Nat} (h : RdL K H R Dn (a :: as) ⟨t :: ts, vl, tok⟩ n) : RdL K (upd H R (.lst (as.reverse.map V.ref))) R Dn as ⟨ts, vl, tok⟩ n := by
  have tk : TupK H (upd H R (.lst (as.reverse.map V.ref))) := .lst h.hr
  have nd := h.nd
  simp only [List.nodup_cons, List.mem_cons, not_or] at nd
  refine ⟨upd_same, h.st.2.mono tk (fun c m o q => by rw [upd_ne (fun e => nd.2.1.2 (by rw [← e]; exact m))]; exact q) (fun u hu => okA_n (h.n1 u (List.mem_cons_of_mem _ hu))), ?_, fun d e => ?_, ?_, fun u hu => h.n1 u (List.mem_cons_of_mem _ hu), Nat.le_of_succ_le h.b1, fun u hu => h.b2 u (List.mem_cons_of_mem _ hu)⟩
  · obtain ⟨ws, q⟩ := h.dn
    exact ⟨ws, by rw [upd_ne nd.1.1]; exact q⟩
  · obtain ⟨v, q1, q2, q3⟩ := h.dv d e
    exact ⟨v, by rw [upd_ne nd.1.1]; exact q1, dp_tk tk q2 (okD_n q3), q3⟩
  · simp only [List.nodup_cons, List.mem_cons, not_or]
    exact ⟨⟨nd.1.1, nd.1.2.2⟩, nd.2.1.2, nd.2.2.2⟩
end
end K53

set_option autoImplicit false
set_option Elab.async false
set_option linter.all false
set_option maxRecDepth 100000
set_option maxHeartbeats 4000000
namespace K53
open PySem PySem.Spec PyProof.Rows L2 KX Evl
def gapOk (l : List Nat) : Prop := ∀ i, (pRun (l.take i)).2.length ≤ 4000
def spRead (K : PySem.W.Frag) : Sp := fun vs H Q _ => ∃ l, vs = [.str (S l)] ∧ l.length ≤ 40000 ∧ gapOk l ∧ (∀ r, lawRead l = some r → ∀ u p H', H p = none → Ex H H' → H' p = some (.lst [u]) → Dp K H' u r → okD r = true → Q (.ref p) H') ∧ (lawRead l = none → ∀ H', Ex H H' → Q .non H')
def aV : Option PyData → V | some d => vOf d | none => .non
theorem atom_aV (l : List Nat) : (look3 "+" "-" "." (.bl true) (.bl false) (.str (S [])) (S l)).getD (if wordL l then .str (S l) else oV (readWhole l)) = aV (readAtom l) := by
  have k0 : (S l = ("+" : Str)) ↔ l = [43] := ⟨fun q => S_inj (b := [43]) q, fun q => by rw [q]; rfl⟩
  have k1 : (S l = ("-" : Str)) ↔ l = [45] := ⟨fun q => S_inj (b := [45]) q, fun q => by rw [q]; rfl⟩
  have k2 : (S l = ("." : Str)) ↔ l = [46] := ⟨fun q => S_inj (b := [46]) q, fun q => by rw [q]; rfl⟩
  unfold look3 readAtom signOf
  by_cases q0 : l = [43]
  · rw [if_pos (k0.mpr q0), if_pos q0]; rfl
  rw [if_neg (fun q => q0 (k0.mp q)), if_neg q0]
  by_cases q1 : l = [45]
  · rw [if_pos (k1.mpr q1), if_pos q1]; rfl
  rw [if_neg (fun q => q1 (k1.mp q)), if_neg q1]
  by_cases q2 : l = [46]
  · rw [if_pos (k2.mpr q2), if_pos q2]; rfl
  rw [if_neg (fun q => q2 (k2.mp q)), if_neg q2]
  show (if wordL l then V.str (S l) else oV (readWhole l)) = aV (if wordL l then some (.str (S l)) else (readWhole l).map .int)
  by_cases q3 : wordL l = true
  · rw [if_pos q3, if_pos q3]; rfl
  · rw [if_neg q3, if_neg q3]
    cases readWhole l <;> rfl
theorem aV_non (l : List Nat) : decide (aV (readAtom l) = .non) = (readAtom l).isNone := by
  cases q : readAtom l with
  | none => rfl
  | some d =>
    show decide (vOf d = .non) = false
    refine decide_eq_false fun z => ?_
    unfold readAtom signOf at q
    by_cases q0 : l = [43]
    · rw [if_pos q0] at q; cases q; cases z
    by_cases q1 : l = [45]
    · rw [if_neg q0, if_pos q1] at q; cases q; cases z
    by_cases q2 : l = [46]
    · rw [if_neg q0, if_neg q1, if_pos q2] at q; cases q; cases z
    rw [if_neg q0, if_neg q1, if_neg q2] at q
    by_cases q3 : wordL l = true
    · have h' : some (PyData.str (S l)) = some d := by simpa [q3] using q
      cases h'
      cases z
    · have h' : (readWhole l).map PyData.int = some d := by simpa [q3] using q
      obtain ⟨i, _, rfl⟩ := Option.map_eq_some_iff.mp h'
      cases z
theorem eqv_nil (xs : List PyData) : PyData.eqv (.list xs) (.list []) = decide (xs.length = 0) := by
  cases xs <;> simp [PyData.eqv, PyData.eqvAll]
theorem lay_rows : ∀ {ts : List (List PyData)}, (∀ t ∈ ts, okA t = true) → PyData.canLayAll0 (ts.map PyData.list) = true
  | [], _ => by simp [PyData.canLayAll0]
  | t :: r, h => by
    have q := h t (List.mem_cons_self ..)
    unfold okA at q
    rw [Bool.and_eq_true] at q
    have ih := lay_rows (ts := r) fun u hu => h u (List.mem_cons_of_mem _ hu)
    simp only [List.map_cons, PyData.canLayAll0, PyData.canLay0, q.2, ih, Bool.and_true]
section
variable {P : Program} {w : World} {K : PySem.W.Frag} {mg : Str → Option Value} {base : Heap} {A : Ad}
theorem ev_nil {σ : L2.St} {H : Hp} {ta : TE} {a : Addr} {ds : List PyData} (ha : Ev ta σ H (.ref a)) (hd : Dp K H (.ref a) (.list ds)) (ok : PyData.canLayAll0 ds = true) : Ev (tOp (rEqX K) ta (tLst tNil)) σ H (.bl (decide (ds.length = 0))) :=
  ev_opL ha (el_lst ea_nil (by decide)) fun p H1 hp e1 H2 e2 Q q => ⟨.list ds, .list [], dp_mono (e1.trans e2) hd, .lst (sq_of (e2 _ _ hp)) .nil, by simpa only [PyData.canLay0] using ok, rfl, Nat.le_trans (Nat.min_le_right _ _) (by decide), by rw [eqv_nil]; exact q H2 (Ex.refl _)⟩
theorem ev_nnil {σ : L2.St} {H : Hp} {ta : TE} {a : Addr} {ds : List PyData} (ha : Ev ta σ H (.ref a)) (hd : Dp K H (.ref a) (.list ds)) (ok : PyData.canLayAll0 ds = true) : Ev (tOp (rNeX K) ta (tLst tNil)) σ H (.bl (!decide (ds.length = 0))) :=
  ev_opL ha (el_lst ea_nil (by decide)) fun p H1 hp e1 H2 e2 Q q => ⟨.list ds, .list [], dp_mono (e1.trans e2) hd, .lst (sq_of (e2 _ _ hp)) .nil, by simpa only [PyData.canLay0] using ok, rfl, Nat.le_trans (Nat.min_le_right _ _) (by decide), by rw [eqv_nil]; exact q H2 (Ex.refl _)⟩
theorem t_ret_if {t : TT} {ta tb : TE} {D : Ends} {σ : L2.St} {H : Hp} {b : Bool} (h : EvT t σ H b) (h1 : b = true → ∀ H1, Ex H H1 → ta σ H1 D.rt) (h2 : b = false → ∀ H1, Ex H H1 → tb σ H1 D.rt) : tRet (tIf t ta tb) D σ H := h H (Ex.refl H) _ fun H1 e => by
  cases b with
  | true => exact iteT (h1 rfl H1 e)
  | false => exact iteF (h2 rfl H1 e)
theorem sc_law_read : FnScope ["text", "rows", "done", "token", "ahead", "sign", "atom", "row"] ["text"] (defScope s_law_read) := ⟨rfl, rfl, rfl, by decide +kernel, rfl, by decide +kernel, by decide +kernel⟩
theorem ok_read_ (T : Txt w K mg A) : FnOk P w K mg base CX0 2 A.f_law_read A.d_law_read ["text"] (spRead K) := by
  refine T.F_law_read.ok sc_law_read (fun vs H Q E h => ?_) (fun cdv Ar outer s H vs Q E hr h => ?_)
  · obtain ⟨l, rfl, _⟩ := h
    rfl
  obtain ⟨l, rfl, hl, gap, k, kN⟩ := h
  have nd := sc_law_read.nd
  have G_law_word := ok_word_ (P := P) (base := base) T
  have hr_law_word := hr
  have G_law_number := ok_number (P := P) (base := base) T
  have hr_law_number := hr
  refine ⟨_, (pss_cons (ps_asg (pe_tup (pa_cons (pe_lst pa_nil) (pa_cons (pe_lst pa_nil) (pa_cons pe_str (pa_cons pe_bl pa_nil))))) (pg_tup (by rfl) (pgs_cons (pg_name (i := 1) nd rfl (Or.inl rfl)) (pgs_cons (pg_name (i := 2) nd rfl (Or.inl rfl)) (pgs_cons (pg_name (i := 3) nd rfl (Or.inl rfl)) (pgs_cons (pg_name (i := 4) nd rfl (Or.inl rfl)) pgs_nil))))))
      (pss_cons (ps_for PassesOwn.never (by rfl) (pi_str (pe_op op_add_str (pv 0) pe_str)) (pg_name (i := 5) nd rfl (Or.inl rfl))
        (pss_one (ps_if (pt_cmpR op_in_sign (pv 5) pe_str rfl) (pss_cut (ps_if (pt_cmpR op_ne (pv 3) pe_str (nomark _)) (pss_cons (ps_set (i := 6) nd rfl (Or.inl rfl) (pe_dget2 (hu_of hr) (pe_disp (pps_cons pe_str pe_bl (pps_cons pe_str pe_bl (pps_cons pe_str pe_str pps_nil))) (by rfl) (by rfl) (fun z => by cases z) (by decide)) (pv 3) (pe_ifExp (pt_val (pe_call G_law_word hr_law_word (by rfl) T.m_law_word T.F_law_word.kp T.b_law_word .nil pass0 (pa_cons (pv 3) pa_nil))) (pv 3) (pe_call G_law_number hr_law_number (by rfl) T.m_law_number T.F_law_number.kp T.b_law_number .nil pass0 (pa_cons (pv 3) pa_nil))) ⟨rfl, rfl, rfl, rfl⟩))
      (pss_cons (ps_if (PW.pt (pw_or (pt_cmpR op_isN (pv 6) pe_non (nomark _)) (pw_or1 (pt_not (pt_val (pv 4)))))) (pss_one (ps_ret pe_non)) pss_nil)
      (pss_one (ps_par3 (i := 2) (j := 4) (l := 3) (by rfl) nd rfl rfl rfl (by decide) (by decide) (by decide) rfl rfl rfl (pa_cons (pe_lst (pa_cons (pv 6) pa_nil)) (pa_cons pe_bl (pa_cons pe_str pa_nil))) (by rfl))))) pss_nil)
      (pss_one (ps_if (pt_cmpR op_eq (pv 5) pe_str (nomark _)) (pss_cons (ps_if (pt_not (pt_val (pv 4))) (pss_one (ps_ret pe_non)) pss_nil)
      (pss_one (ps_expr (pe_bm PySem.F.plainAttrs_list PySem.F.slot_list_append PySem.F.type_list_append mt_append (pv 1) (pa_cons (pe_lst pa_nil) pa_nil))))) (pss_one (ps_if (pt_cmpR op_eq (pv 5) pe_str (nomark _)) (pss_cons (ps_if (PW.pt (pw_or (pt_val (pv 4)) (pw_or1 (pt_cmpR (op_eqX (hu200 hr)) (pv 1) (pe_lst pa_nil) (nomark _))))) (pss_one (ps_ret pe_non)) pss_nil)
      (pss_cons (ps_expr (pe_bm PySem.F.plainAttrs_list PySem.F.slot_list_append PySem.F.type_list_append mt_append (pe_ix ix_list (pv 1) (pe_un un_neg pe_int) (fun _ _ => rfl)) (pa_cons (pe_ix ix_list (pv 2) pe_int (fun _ _ => rfl)) pa_nil)))
      (pss_one (ps_set (i := 4) nd rfl (Or.inl rfl) pe_bl)))) (pss_one (ps_if (pt_cmpR op_eq (pv 5) pe_str (nomark _)) (pss_cons (ps_if (PW.pt (pw_or (pt_cmpR (op_eqX (hu200 hr)) (pv 1) (pe_lst pa_nil) (nomark _)) (pw_or1 (PW.pt (pw_and (pt_val (pv 4)) (pw_and1 (pt_cmpR (op_neX (hu200 hr)) (pe_ix ix_list (pv 1) (pe_un un_neg pe_int) (fun _ _ => rfl)) (pe_lst pa_nil) (nomark _)))))))) (pss_one (ps_ret pe_non)) pss_nil)
      (pss_cons (ps_set (i := 7) nd rfl (Or.inl rfl) (pe_bm0 PySem.F.plainAttrs_list PySem.F.slot_list_pop PySem.F.type_list_pop mt_pop (pv 1)))
      (pss_one (ps_par (i := 2) (j := 4) (by rfl) nd rfl rfl (by decide) rfl rfl (pa_cons (pe_lst (pa_cons (pe_callTy call_tuple_of (by rfl) T.z_tuple (by decide +kernel) (pa_cons (pe_op op_cat (pv 7) (pe_ifExp (pt_val (pv 4)) (pe_lst pa_nil) (pe_lst (pa_cons (pe_ix ix_list (pv 2) pe_int (fun _ _ => rfl)) pa_nil)))) pa_nil)) pa_nil)) (pa_cons pe_bl pa_nil)) (by rfl))))) pss_nil))))))) (pss_one (ps_set (i := 3) nd rfl (Or.inl rfl) (pe_op op_add_str (pv 3) (pv 5)))))))
      (pss_one (ps_ret (pe_ifExp (PW.pt (pw_and (pt_cmpR (op_eqX (hu200 hr)) (pv 1) (pe_lst pa_nil) (nomark _)) (pw_and (pt_not (pt_val (pv 4))) (pw_and1 (pt_cmpR op_notIn_sign pe_str (pv 0) rfl))))) (pv 2) pe_non))))), ?_⟩
  have hz : l.length + 1 ≤ sizeLine := sz_of (by omega)
  -- rows, done, token, ahead = [], [], '', True
  refine ⟨by decide, fun R hR => ⟨by decide, fun D0 hD0 => ⟨by show 4 ≤ sizeLine; decide, fun T0 hT0 => ⟨T0, _, rfl, st_of upd_same, rfl, _, _, rfl, _, _, rfl, _, _, rfl, _, _, rfl, rfl, ?_⟩⟩⟩⟩
  have frR : H R = none := hR
  have frD : H D0 = none := fresh_back (Ex.new hR) hD0
  have nRD : D0 ≠ R := fun e => by rw [e, upd_same] at hD0; cases hD0
  have e0 : Ex H (upd (upd (upd H R (.lst [])) D0 (.lst [])) T0 (.tup [.ref R, .ref D0, .str (S []), .bl true])) := ((Ex.new hR).trans (Ex.new hD0)).trans (Ex.new hT0)
  have hR0 : (upd (upd (upd H R (.lst [])) D0 (.lst [])) T0 (.tup [.ref R, .ref D0, .str (S []), .bl true])) R = some (.lst []) := (Ex.new hT0) _ _ ((Ex.new hD0) _ _ upd_same)
  have hD1 : (upd (upd (upd H R (.lst [])) D0 (.lst [])) T0 (.tup [.ref R, .ref D0, .str (S []), .bl true])) D0 = some (.lst []) := (Ex.new hT0) _ _ upd_same
  show tSeq _ _ _ _ (upd (upd (upd H R (.lst [])) D0 (.lst [])) T0 (.tup [.ref R, .ref D0, .str (S []), .bl true]))
  generalize upd (upd (upd H R (.lst [])) D0 (.lst [])) T0 (.tup [.ref R, .ref D0, .str (S []), .bl true]) = H0 at e0 hR0 hD1
  have none_of : ∀ {i : Nat}, lRun ⟨[], none, []⟩ ((l ++ [59]).take i) = none → lawRead l = none := fun {i} q => by
    unfold lawRead
    rw [← List.take_append_drop i (l ++ [59]), lRun_none _ _ _ q]
    rfl
  refine q_forS (z := S (l ++ [59])) (ev_op (ev_var rfl) ev_c (rv_addS (b := [59]) hz)) (fun i σ' H' => ∃ as Dn s v5 v6 v7, lRun ⟨[], none, []⟩ ((l ++ [59]).take i) = some s ∧ Ex H H' ∧ (∀ b ∈ Dn :: R :: as, H b = none) ∧ RdL K H' R Dn as s i ∧ s.token.length ≤ (pRun ((l ++ [59]).take i)).2.length ∧
      σ' = [some (.str (S l)), some (.ref R), some (.ref Dn), some (.str (S s.token)), some (.bl s.val.isNone), v5, v6, v7]) (fun H1 e1 => ⟨[], D0, ⟨[], none, []⟩, none, none, none, rfl, e0.trans e1, ?_, RdL.ex e1 ⟨hR0, trivial, ⟨_, hD1⟩, (fun d e => nomatch e), ?_, (fun t h => nomatch h), Nat.le_refl _, (fun t h => nomatch h)⟩, Nat.le_refl _, rfl⟩) ?_ ?_
  · intro b hb
    rcases List.mem_cons.mp hb with e | hb
    · rw [e]; exact frD
    · rw [List.mem_singleton.mp hb]; exact frR
  · simp [nRD]
  · rintro i c σ' H' hc ⟨as, Dn, s, v5, v6, v7, rn, ex, fr, rd, tk, rfl⟩
    have hi : i < l.length + 1 := by
      have q := (List.getElem?_eq_some_iff.mp hc).1
      rw [S_cps, List.length_append] at q
      exact q
    have ti : (l ++ [59]).take i = l.take i := by
      rw [List.take_append_of_le_length (by omega)]
    have t4 : s.token.length ≤ 4000 := by
      rw [ti] at tk
      exact Nat.le_trans tk (gap i)
    have tz : (S s.token).length ≤ sizeLine := by rw [S_len]; exact sz_of (by omega)
    have hc' : (l ++ [59])[i]? = some c := hc
    have sn : lRun ⟨[], none, []⟩ ((l ++ [59]).take (i + 1)) = lStep s c := by
      rw [take_snoc hc', lRun_snoc, rn]
      rfl
    have pn : pRun ((l ++ [59]).take (i + 1)) = pStep (pRun ((l ++ [59]).take i)) c := by rw [take_snoc hc', pRun_snoc]
    refine s_if (b := sep c || decide (c = 59)) (et_test (ev_is (ev_op (ev_var rfl) ev_c rv_inS) (by rw [in_sepL]))) (fun hb H1 e1 => ?_) (fun hb H1 e1 => ?_)
    · have st : lStep s c = (lFlush s).bind fun s => lSep s c := by unfold lStep; rw [if_pos hb]
      have rd1 := rd.ex e1
      refine q_cut (M := fun σ' H' => ∃ Dn s1 v6, lFlush s = some s1 ∧ s1.token = [] ∧ Ex H H' ∧ (∀ b ∈ Dn :: R :: as, H b = none) ∧ RdL K H' R Dn as s1 i ∧ σ' = [some (.str (S l)), some (.ref R), some (.ref Dn), some (.str (S [])), some (.bl s1.val.isNone), some (.str ⟨#[c]⟩), v6, v7]) ?_ ?_
      · refine s_when (b := !decide (s.token = [])) (et_test (ev_op (ev_var rfl) ev_c (rv_neS (b := [])))) (fun ht H2 e2 => ?_) (fun ht H2 e2 => ?_)
        · have tne : ¬ s.token = [] := by
            intro q
            rw [q] at ht
            exact nomatch ht
          refine q_asg (v := aV (readAtom s.token)) (ev_is (ev_get3d (k := S s.token) (u := if wordL s.token then .str (S s.token) else oV (readWhole s.token)) (by decide) (by decide) (by decide) (ev_var rfl) (ev_if (b := wordL s.token) (et_B (ev_call (ea_cons (ev_var rfl) ea_nil) (spD_v (f := fun d => .bl (isWord d)) (.str (S s.token)) (show (S s.token).length ≤ 100000 by rw [S_len]; omega)))) (fun z => ev_is (ev_var rfl) (by rw [if_pos z])) (fun z => ?_))) (atom_aV s.token)) fun H3 e3 => ?_
          · refine ev_is (ev_call (ea_cons (ev_var rfl) ea_nil) (z := oV (readWhole s.token)) fun H4 e4 Q q E => ⟨s.token, rfl, t4, q⟩) (by rw [if_neg (by rw [z]; decide)])
          refine q_when (b := (readAtom s.token).isNone || !s.val.isNone) (et_or (et_test (ev_is (ev_op (ev_var rfl) ev_c (z := .bl (decide (aV (readAtom s.token) = .non))) (fun H4 _ Q q => ⟨rfl, q H4 (Ex.refl _)⟩)) (by rw [aV_non]))) fun _ => et_not (et_test (ev_var rfl))) (fun hf H4 e4 => ?_) (fun hf H4 e4 => ?_)
          · refine s_ret ev_c fun H5 e5 => kN (none_of (i := i + 1) ?_) H5 (((((ex.trans e1).trans e2).trans e3).trans e4).trans e5)
            rw [sn, st]
            have : lFlush s = none := by
              unfold lFlush
              rw [if_neg tne]
              cases q : readAtom s.token with
              | none => rfl
              | some d =>
                cases q2 : s.val with
                | none => rw [q, q2] at hf; exact nomatch hf
                | some v => rfl
            rw [this]
            rfl
          · obtain ⟨d, hd⟩ : ∃ d, readAtom s.token = some d := by
              cases q : readAtom s.token with
              | none => rw [q] at hf; exact nomatch hf
              | some d => exact ⟨d, rfl⟩
            have hv : s.val = none := by
              cases q2 : s.val with
              | none => rfl
              | some v => rw [hd, q2] at hf; exact nomatch hf
            have e24 := (e2.trans e3).trans e4
            have rd4 := rd1.ex e24
            refine ⟨_, rfl, by show 1 ≤ sizeLine; decide, fun p hp => ⟨_, _, _, rfl, p, ⟨s.rows, some d, []⟩, _, ?_, rfl, ((ex.trans e1).trans e24).trans (Ex.new hp), ?_, ?_, rfl⟩⟩
            · unfold lFlush
              rw [if_neg tne, hd, hv]
            · intro b hb2
              rcases List.mem_cons.mp hb2 with e | hb2
              · rw [e]; exact fresh_back ((ex.trans e1).trans e24) hp
              · exact fr b (List.mem_cons_of_mem _ hb2)
            · have e5 := Ex.new (o := .lst [aV (readAtom s.token)]) hp
              have dpn := readAtom_v (K := K) (H := upd H4 p (.lst [aV (readAtom s.token)])) hd
              refine (rd4.ex e5).done (v := vOf d) (fun m => rd4.own p (List.mem_cons_of_mem _ m) hp) ?_ dpn.1 (readAtom_ok hd) []
              rw [upd_same, hd]
              rfl
        · have te : s.token = [] := by
            revert ht
            by_cases q : s.token = [] <;> simp [q]
          refine ⟨Dn, s, v6, ?_, te, (ex.trans e1).trans e2, fr, rd1.ex e2, by rw [te]; rfl⟩
          unfold lFlush
          rw [if_pos te]
      · rintro σ1 H1 ⟨Dn, s1, v6, hf, te, ex1, fr1, rd1, rfl⟩
        have stp : lRun ⟨[], none, []⟩ ((l ++ [59]).take (i + 1)) = lSep s1 c := by
          rw [sn, st, hf]
          rfl
        have hlen := rd1.st.len
        have drw := RdL.rows (K := K) rd1.st
        have lrw : PyData.canLayAll0 (s1.rows.reverse.map PyData.list) = true := lay_rows fun t ht => rd1.n1 t (List.mem_reverse.mp ht)
        have ceq : ∀ k : Nat, decide ([c] = [k]) = decide (c = k) := fun k => decide_eq_decide.mpr ⟨fun q => by simpa using q, fun q => by rw [q]⟩
        refine s_if (b := decide (c = 91)) (et_is (et_test (ev_op (ev_var rfl) ev_c (rv_eqS (a := [c]) (b := [91])))) (ceq 91)) (fun hc1 H2 e2 => ?_) (fun hc1 H2 e2 => ?_)
        · obtain rfl := of_decide_eq_true hc1
          refine q_when (b := !s1.val.isNone) (et_not (et_test (ev_var rfl))) (fun hv H3 e3 => ?_) (fun hv H3 e3 => ?_)
          · refine s_ret ev_c fun H4 e4 => kN (none_of (i := i + 1) ?_) H4 (((ex1.trans e2).trans e3).trans e4)
            rw [stp]
            obtain ⟨rows, val, tok⟩ := s1
            cases val with
            | none => exact nomatch hv
            | some v => rfl
          · have v0 : s1.val = none := by
              cases q : s1.val with
              | none => rfl
              | some v => rw [q] at hv; exact nomatch hv
            have rd3 := rd1.ex (e2.trans e3)
            refine s_appL (ys := []) rd3.hr (ev_var rfl) (el_lst ea_nil (by decide)) (by rw [List.length_map, List.length_reverse, hlen]; have := rd1.b1; omega) fun p H4 hp e4 h4 => ?_
            have rd4 := (rd3.ex e4).push (a := p) (fun m => rd3.own p m hp) h4 v0
            have ex4 := ((ex1.trans e2).trans e3).trans e4
            refine ⟨p :: as, Dn, ⟨[] :: s1.rows, none, s1.token⟩, _, _, _, ?_, Ex.mut ex4 (fr1 R (List.mem_cons_of_mem _ (List.mem_cons_self ..))), ?_, rd4, by rw [te]; exact Nat.zero_le _, by rw [te, v0]⟩
            · rw [stp]
              unfold lSep
              rw [if_pos rfl, v0]
            · intro b hb2
              rcases List.mem_cons.mp hb2 with e | hb2
              · rw [e]; exact fr1 Dn (List.mem_cons_self ..)
              rcases List.mem_cons.mp hb2 with e | hb2
              · rw [e]; exact fr1 R (List.mem_cons_of_mem _ (List.mem_cons_self ..))
              rcases List.mem_cons.mp hb2 with e | hb2
              · rw [e]; exact fresh_back ((ex1.trans e2).trans e3) hp
              · exact fr1 b (List.mem_cons_of_mem _ (List.mem_cons_of_mem _ hb2))
        have c1 := of_decide_eq_false hc1
        refine s_if (b := decide (c = 44)) (et_is (et_test (ev_op (ev_var rfl) ev_c (rv_eqS (a := [c]) (b := [44])))) (ceq 44)) (fun hc2 H3 e3 => ?_) (fun hc2 H3 e3 => ?_)
        · obtain rfl := of_decide_eq_true hc2
          have e23 := e2.trans e3
          refine q_when (b := s1.val.isNone || decide (s1.rows.length = 0)) (et_or (et_test (ev_var rfl)) fun _ => et_is (et_test (ev_nil (ev_var rfl) (.lst (sq_of (e23 _ _ rd1.hr)) (dpa_mono e23 drw)) lrw)) (by rw [List.length_map, List.length_reverse])) (fun hv H4 e4 => ?_) (fun hv H4 e4 => ?_)
          · refine s_ret ev_c fun H5 e5 => kN (none_of (i := i + 1) ?_) H5 (((ex1.trans e23).trans e4).trans e5)
            rw [stp]
            obtain ⟨rows, val, tok⟩ := s1
            cases val with
            | none => rfl
            | some v =>
              cases rows with
              | nil => rfl
              | cons t r => simp at hv
          · have rd4 := rd1.ex (e23.trans e4)
            have ex4 := (ex1.trans e23).trans e4
            obtain ⟨rows, val, tok⟩ := s1
            cases val with
            | none => exact nomatch hv
            | some v =>
            cases rows with
            | nil => simp at hv
            | cons t r =>
            cases as with
            | nil => exact rd1.st.elim
            | cons a ar =>
            obtain ⟨u, hu, hud, huo⟩ := rd4.dv v rfl
            obtain ⟨vs, hvs, hD⟩ := rd4.st.1
            refine q_app (v := u) hvs (ev_op (ev_var rfl) (ev_un ev_c ru_neg) (rv_ixL (sq_of rd4.hr) (by rw [List.reverse_cons, List.map_append]; exact atI_last _ _))) (ev_op (ev_var rfl) ev_c (rv_ixL (i := 0) (sq_of hu) rfl)) ?_ fun H5 e5 => ?_
            · have q := rd4.b2 t (List.mem_cons_self ..)
              rw [← dpa_len hD] at q
              omega
            have rd5 := (rd4.ex e5).comma (e5 _ _ hvs) (dpa_mono e5 hD) (dp_mono e5 hud) huo
            refine s_asg ev_c fun H6 e6 => ⟨a :: ar, Dn, _, _, _, _, ?_, (Ex.mut (ex4.trans e5) (fr1 a (List.mem_cons_of_mem _ (List.mem_cons_of_mem _ (List.mem_cons_self ..))))).trans e6, fr1, rd5.ex e6, by rw [show tok = [] from te]; exact Nat.zero_le _, by rw [show tok = [] from te]; rfl⟩
            rw [stp]
            rfl
        have c2 := of_decide_eq_false hc2
        refine s_when (b := decide (c = 93)) (et_is (et_test (ev_op (ev_var rfl) ev_c (rv_eqS (a := [c]) (b := [93])))) (ceq 93)) (fun hc3 H4 e4 => ?_) (fun hc3 H4 e4 => ?_)
        · obtain rfl := of_decide_eq_true hc3
          have e24 := (e2.trans e3).trans e4
          have rd4 := rd1.ex e24
          have ex4 := ex1.trans e24
          obtain ⟨rows, val, tok⟩ := s1
          refine q_when (b := decide (rows.length = 0) || (val.isNone && !decide ((rows.headD []).length = 0))) (et_or (et_is (et_test (ev_nil (ev_var rfl) (.lst (sq_of rd4.hr) (dpa_mono e24 drw)) lrw)) (by rw [List.length_map, List.length_reverse])) fun hn0 => et_and (et_test (ev_var rfl)) fun _ => ?_) (fun hv H5 e5 => ?_) (fun hv H5 e5 => ?_)
          · cases rows with
            | nil => simp at hn0
            | cons t r =>
            cases as with
            | nil => exact rd1.st.elim
            | cons a ar =>
            obtain ⟨vs, hvs, hD⟩ := rd4.st.1
            have q := rd4.n1 t (List.mem_cons_self ..)
            unfold okA at q
            rw [Bool.and_eq_true] at q
            exact et_test (ev_nnil (ev_op (ev_var rfl) (ev_un ev_c ru_neg) (rv_ixL (sq_of rd4.hr) (by rw [List.reverse_cons, List.map_append]; exact atI_last _ _))) (.lst (sq_of hvs) hD) q.2)
          · refine s_ret ev_c fun H6 e6 => kN (none_of (i := i + 1) ?_) H6 ((ex4.trans e5).trans e6)
            rw [stp]
            cases rows with
            | nil => cases val <;> rfl
            | cons t r =>
              cases val with
              | some v => simp at hv
              | none =>
                have tn : ¬ t = [] := fun q => by rw [q] at hv; simp at hv
                show (if t = [] then _ else none) = none
                rw [if_neg tn]
          · cases rows with
            | nil => simp at hv
            | cons t r =>
            cases as with
            | nil => exact rd1.st.elim
            | cons a ar =>
            have rd5 := rd4.ex e5
            have ex5 := ex4.trans e5
            obtain ⟨vs, hvs, hD⟩ := rd5.st.1
            have okt := rd5.n1 t (List.mem_cons_self ..)
            have hR5 : H5 R = some (.lst (ar.reverse.map V.ref ++ [.ref a])) := by
              have q := rd5.hr
              rw [List.reverse_cons, List.map_append] at q
              exact q
            refine ⟨.ref R, rfl, .inl ⟨rfl, _, sq_of hR5⟩, R, _, .ref a, rfl, rfl, hR5, by simp, ?_⟩
            rw [List.dropLast_concat]
            have ndd := rd5.nd
            simp only [List.nodup_cons, List.mem_cons, not_or] at ndd
            have rd6 := rd5.pop
            have tk6 : TupK H5 (upd H5 R (.lst (ar.reverse.map V.ref))) := .lst rd5.hr
            have ex6 : Ex H (upd H5 R (.lst (ar.reverse.map V.ref))) := Ex.mut ex5 (fr1 R (List.mem_cons_of_mem _ (List.mem_cons_self ..)))
            have hvs6 : (upd H5 R (.lst (ar.reverse.map V.ref))) a = some (.lst vs) := by rw [upd_ne (fun e => ndd.2.1.1 e.symm)]; exact hvs
            have hD6 := dpa_tk tk6 hD (okA_n okt)
            generalize upd H5 R (.lst (ar.reverse.map V.ref)) = H6 at rd6 ex6 hvs6 hD6
            have vl := rd4.b2 t (List.mem_cons_self ..)
            rw [← dpa_len hD] at vl
            -- the rest of the row
            have tail : ∀ (ys : List V) (d : PyData) (q : Addr) (H7 : Hp), Ex H6 H7 → H7 q = some (.lst ys) → ys.length ≤ 1 → lSep ⟨t :: r, val, tok⟩ 93 = some ⟨r, some d, tok⟩ → (∀ ws, ws = vs ++ ys → ∃ ds, d = .tuple ds ∧ DpAll K H7 ws ds ∧ okA ds = true) →
                ∀ p, H7 p = none → ∀ l', (upd H7 p (.lst (vs ++ ys))) l' = none → ∀ p2, (upd (upd H7 p (.lst (vs ++ ys))) l' (.tup (vs ++ ys))) p2 = none →
                  ∃ as Dn' s w5 w6 w7, lRun ⟨[], none, []⟩ ((l ++ [59]).take (i + 1)) = some s ∧ Ex H (upd (upd (upd H7 p (.lst (vs ++ ys))) l' (.tup (vs ++ ys))) p2 (.lst [.ref l'])) ∧ (∀ b ∈ Dn' :: R :: as, H b = none) ∧ RdL K (upd (upd (upd H7 p (.lst (vs ++ ys))) l' (.tup (vs ++ ys))) p2 (.lst [.ref l'])) R Dn' as s (i + 1) ∧ s.token.length ≤ (pRun ((l ++ [59]).take (i + 1))).2.length ∧
                    (([some (.str (S l)), some (.ref R), some (.ref Dn), some (.str (S [])), some (.bl val.isNone), some (.str ⟨#[93]⟩), v6, some (.ref a)] : L2.St).set 2 (some (.ref p2))).set 4 (some (.bl false)) = [some (.str (S l)), some (.ref R), some (.ref Dn'), some (.str (S s.token)), some (.bl s.val.isNone), w5, w6, w7] := by
              intro ys d q H7 e7 hq yl hsep hdd p hp l' hl' p2 hp2
              obtain ⟨ds, rfl, hds, hok⟩ := hdd _ rfl
              have x1 := Ex.new (o := .lst (vs ++ ys)) hp
              have x2 := Ex.new (o := .tup (vs ++ ys)) hl'
              have x3 := Ex.new (o := .lst [.ref l']) hp2
              have x13 := (x1.trans x2).trans x3
              have rd7 := rd6.ex (e7.trans x13)
              have fp2 : p2 ∉ R :: ar := fun m => by
                have own := ((rd6.ex (e7.trans (x1.trans x2))).own p2 (List.mem_cons_of_mem _ m))
                exact own hp2
              refine ⟨ar, p2, ⟨r, some (.tuple ds), tok⟩, some (.str ⟨#[93]⟩), v6, some (.ref a), stp.trans hsep, ex6.trans (e7.trans x13), ?_, ((rd7.done fp2 upd_same (.tup (st_of (x3 _ _ upd_same)) (dpa_mono x13 hds)) (okD_tuple hok) tok).wide (Nat.le_succ _)), ?_, ?_⟩
              · intro b hb2
                rcases List.mem_cons.mp hb2 with e | hb2
                · rw [e]; exact fresh_back (ex6.trans (e7.trans (x1.trans x2))) hp2
                rcases List.mem_cons.mp hb2 with e | hb2
                · rw [e]; exact fr1 R (List.mem_cons_of_mem _ (List.mem_cons_self ..))
                · exact fr1 b (List.mem_cons_of_mem _ (List.mem_cons_of_mem _ (List.mem_cons_of_mem _ hb2)))
              · rw [show tok = [] from te]; exact Nat.zero_le _
              · rw [show tok = [] from te]; rfl
            cases val with
            | none =>
              have t0 : t = [] := by
                cases t with
                | nil => rfl
                | cons x y => simp at hv
              refine ⟨.ref a, rfl, _, rfl, true, rfl, iteT ⟨by show 0 ≤ sizeLine; decide, fun q hq => ?_⟩⟩
              refine ⟨a, q, vs, [], rfl, rfl, (Ex.new hq) _ _ hvs6, upd_same, sz_of (by show vs.length + 0 ≤ _; omega), fun p hp => ⟨p, _, rfl, .inl ⟨sq_of upd_same, fun l' hl' => ⟨by show 1 ≤ sizeLine; decide, fun p2 hp2 => ⟨_, _, rfl, ?_⟩⟩⟩⟩⟩
              refine tail [] (.tuple t) q _ (Ex.new hq) upd_same (by show 0 ≤ 1; decide) ?_ (fun ws ew => ⟨t, rfl, by rw [ew, List.append_nil]; exact dpa_mono (Ex.new hq) hD6, okt⟩) p hp l' hl' p2 hp2
              show (if t = [] then some (LS.mk r (some (.tuple [])) tok) else none) = _
              rw [if_pos t0, t0]
            | some v =>
              obtain ⟨u, hu, hud, huo⟩ := rd6.dv v rfl
              refine ⟨.ref a, rfl, _, rfl, false, rfl, iteF ⟨.ref Dn, rfl, Dn, [u], 0, u, rfl, rfl, sq_of hu, rfl, by show 1 ≤ sizeLine; decide, fun q hq => ?_⟩⟩
              refine ⟨a, q, vs, [u], rfl, rfl, (Ex.new hq) _ _ hvs6, upd_same, sz_of (by show vs.length + 1 ≤ _; omega), fun p hp => ⟨p, _, rfl, .inl ⟨sq_of upd_same, fun l' hl' => ⟨by show 1 ≤ sizeLine; decide, fun p2 hp2 => ⟨_, _, rfl, ?_⟩⟩⟩⟩⟩
              exact tail [u] (.tuple (t ++ [v])) q _ (Ex.new hq) upd_same (by show 1 ≤ 1; decide) rfl (fun ws ew => ⟨t ++ [v], rfl, by rw [ew]; exact dpa_mono (Ex.new hq) (dpa_app hD6 (dpa_one hud)), okA_app okt huo⟩) p hp l' hl' p2 hp2
        · have c3 := of_decide_eq_false hc3
          have e24 := (e2.trans e3).trans e4
          refine ⟨as, Dn, s1, _, _, _, ?_, ex1.trans e24, fr1, (rd1.ex e24).wide (Nat.le_succ _), by rw [te]; exact Nat.zero_le _, by rw [te]⟩
          rw [stp]
          unfold lSep
          rw [if_neg c1, if_neg c2, if_neg c3]
    · have hb' : (sep c || decide (c = 59)) = false := hb
      refine s_asg (v := .str (S (s.token ++ [c]))) (ev_op (ev_var rfl) (ev_var rfl) (rv_addS (a := s.token) (b := [c]) (by show _ + 1 ≤ _; exact sz_of (by omega)))) fun H2 e2 => ⟨as, Dn, ⟨s.rows, s.val, s.token ++ [c]⟩, _, _, _, ?_, (ex.trans e1).trans e2, fr, ?_, ?_, rfl⟩
      · rw [sn]
        unfold lStep
        rw [if_neg (by rw [hb']; decide)]
      · have q := (rd.ex (e1.trans e2)).wide (Nat.le_succ i)
        exact ⟨q.hr, q.st, q.dn, q.dv, q.nd, q.n1, q.b1, q.b2⟩
      · rw [pn]
        unfold pStep
        have hs : sep c = false := by revert hb'; cases sep c <;> simp
        rw [if_neg (by rw [hs]; decide), List.length_append]
        show _ ≤ (_ ++ [c]).length
        rw [List.length_append]
        exact Nat.add_le_add_right tk _
  · rintro σ' H' ⟨as, Dn, s, v5, v6, v7, rn, ex, fr, rd, tk, rfl⟩
    have e0 : (S (l ++ [59])).cps.toList.length = (l ++ [59]).length := rfl
    rw [e0, List.take_length] at rn
    have lr : lawRead l = lEnd l s := by
      unfold lawRead
      rw [rn]
      rfl
    rw [lr] at k kN
    have drw := RdL.rows (K := K) rd.st
    have lrw : PyData.canLayAll0 (s.rows.reverse.map PyData.list) = true := lay_rows fun t ht => rd.n1 t (List.mem_reverse.mp ht)
    refine t_ret_if (b := decide (s.rows.length = 0) && (!s.val.isNone && !decide (59 ∈ l))) (et_and (et_is (et_test (ev_nil (ev_var rfl) (.lst (sq_of rd.hr) drw) lrw)) (by rw [List.length_map, List.length_reverse])) fun _ => et_and (et_not (et_test (ev_var rfl))) fun _ => et_test (ev_op ev_c (ev_var rfl) rv_niS)) (fun hb H1 e1 => ?_) (fun hb H1 e1 => ?_)
    · simp only [Bool.and_eq_true, decide_eq_true_eq, Bool.not_eq_true', Option.isNone_eq_false_iff, decide_eq_false_iff_not] at hb
      obtain ⟨h1, h2, h3⟩ := hb
      obtain ⟨d, hd⟩ := Option.isSome_iff_exists.mp h2
      obtain ⟨v, q1, q2, q3⟩ := rd.dv d hd
      refine ⟨_, rfl, k d ?_ v Dn H1 (fr Dn (List.mem_cons_self ..)) (ex.trans e1) (e1 _ _ q1) (dp_mono e1 q2) q3⟩
      unfold lEnd
      rw [if_pos ⟨List.eq_nil_of_length_eq_zero h1, h3⟩, hd]
    · refine kN ?_ H1 (ex.trans e1)
      unfold lEnd
      by_cases q : s.rows = [] ∧ ¬ 59 ∈ l
      · rw [if_pos q]
        cases hv : s.val with
        | none => rfl
        | some d =>
          rw [hv, q.1, decide_eq_false q.2] at hb
          exact nomatch hb
      · rw [if_neg q]
end
end K53

set_option autoImplicit false
set_option Elab.async false
set_option linter.all false
set_option maxRecDepth 100000
set_option maxHeartbeats 4000000
namespace K53
open PySem PySem.Spec PyProof.Rows L2 KX Evl
/-! ### numbers as texts -/
theorem istr_nat (n : Nat) : istr (n : Int) = TL.numL n := TL.tl_num n
theorem ofString_app (a b : String) : (Str.ofString (a ++ b)).cps.toList = (Str.ofString a).cps.toList ++ (Str.ofString b).cps.toList := by
  rw [Str.ofString_eq_toList, Str.ofString_eq_toList, Str.ofString_eq_toList]
  simp [String.toList_append]
theorem istr_neg {n : Nat} (h : 0 < n) : istr (-(n : Int)) = 45 :: TL.numL n := by
  unfold istr
  have e : toString (-(n : Int)) = "-" ++ toString (0 - (-(n : Int))) := toString_neg (by omega)
  have e2 : (0 : Int) - (-(n : Int)) = (n : Int) := by omega
  rw [e2] at e
  rw [show ((toString (-(n : Int)) : String) : Str) = Str.ofString (toString (-(n : Int))) from rfl, e, ofString_app]
  show [45] ++ _ = _
  rw [show (Str.ofString (toString (n : Int))).cps.toList = TL.numL n from TL.tl_num n]
  rfl
theorem numL_back {cs : List Nat} (h : NumText.AllDigits cs) (ne : cs ≠ []) (h0 : cs.take 1 = [48] → cs = [48]) : TL.numL (NumText.digitsVal cs) = cs := by
  cases cs with
  | nil => exact absurd rfl ne
  | cons c r =>
    have hc := h.head
    have e : Nat.toDigits 10 (NumText.digitsVal (c :: r)) = (c :: r).map Char.ofNat := by
      refine NumText.toDigits_digitsVal r.length (c :: r) rfl h ?_
      by_cases z : c = 48
      · left
        have q := h0 (by rw [z]; rfl)
        have q2 := List.cons.inj q
        rw [q2.2]
        rfl
      · exact .inr ⟨c, r, rfl, by omega⟩
    unfold TL.numL
    rw [e, List.map_map]
    have : ∀ x ∈ c :: r, (Char.toNat ∘ Char.ofNat) x = x := fun x hx => by
      have q := h x hx
      show (Char.ofNat x).toNat = x
      have : x.isValidChar := Or.inl (by omega)
      rw [Char.ofNat, dif_pos this]
      rfl
    rw [List.map_congr_left this, List.map_id']
theorem numL_head {n : Nat} (h : 0 < n) : (TL.numL n).take 1 ≠ [48] := by
  induction n using Nat.strongRecOn with
  | _ n ih =>
    by_cases q : n < 10
    · rw [TL.numL_lt q]
      intro e
      have := List.cons.inj e
      omega
    · rw [TL.numL_step (by omega)]
      have i := ih (n / 10) (by omega) (by omega)
      have ne := TL.numL_ne (n / 10)
      cases e : TL.numL (n / 10) with
      | nil => exact absurd e ne
      | cons c r =>
        rw [e] at i
        exact i
theorem istr_whole {l : List Nat} (h : wholeOk l = true) : istr (wholeVal l) = l := by
  unfold wholeOk at h
  simp only [Bool.and_eq_true, decide_eq_true_eq, Bool.not_eq_true', Bool.and_eq_false_iff, decide_eq_false_iff_not, Bool.not_eq_false'] at h
  obtain ⟨⟨⟨hb1, hb2⟩, hb3⟩, h0⟩ := h
  have ad : NumText.AllDigits (bodyL l) := fun d hd => by
    have q := List.all_eq_true.mp hb3 d hd
    simpa [digit] using q
  have ne : bodyL l ≠ [] := fun q => by rw [q] at hb1; simp at hb1
  unfold wholeVal
  by_cases q : l.take 1 = [45]
  · have eb : bodyL l = l.drop 1 := by unfold bodyL; rw [if_pos q]
    have el : l = 45 :: bodyL l := by
      rw [eb]
      have z := List.take_append_drop 1 l
      rw [q] at z
      exact z.symm
    have h48 : (bodyL l).take 1 ≠ [48] := by
      rcases h0 with z | z
      · exact z
      · rw [z] at el
        exact nomatch (List.cons.inj el).1
    have pos : 0 < NumText.digitsVal (bodyL l) := by
      cases e : bodyL l with
      | nil => exact absurd e ne
      | cons c r =>
        rw [e] at ad h48
        have hc := ad.head
        refine NumText.digitsVal_pos ?_
        have : c ≠ 48 := fun z => h48 (by rw [z]; rfl)
        omega
    rw [if_pos q, istr_neg pos, numL_back ad ne (fun z => absurd z h48)]
    exact el.symm
  · have eb : bodyL l = l := by unfold bodyL; rw [if_neg q]
    rw [if_neg q, istr_nat, eb]
    rw [eb] at ad ne h0
    refine numL_back ad ne fun z => ?_
    rcases h0 with w | w
    · exact absurd z w
    · exact w
theorem whole_istr {i : Int} (h : i.natAbs < 10 ^ 4000) : readWhole (istr i) = some i := by
  obtain ⟨n, rfl | rfl⟩ := Int.eq_nat_or_neg i
  · have hn : n < 10 ^ 4000 := by simpa using h
    have len := TL.numL_len (by decide) hn
    have ad := TL.numL_digits n
    have ne := TL.numL_ne n
    rw [istr_nat]
    have q : (TL.numL n).take 1 ≠ [45] := fun e => by
      cases e2 : TL.numL n with
      | nil => exact ne e2
      | cons c r =>
        rw [e2] at e ad
        have := ad.head
        have := (List.cons.inj e).1
        omega
    have eb : bodyL (TL.numL n) = TL.numL n := by unfold bodyL; rw [if_neg q]
    have ok : wholeOk (TL.numL n) = true := by
      unfold wholeOk
      rw [eb]
      have l1 : 1 ≤ (TL.numL n).length := List.length_pos_iff.mpr ne
      have al : (TL.numL n).all digit = true := List.all_eq_true.mpr fun d hd => by
        have := ad d hd
        simp [digit, this.1, this.2]
      rw [decide_eq_true l1, decide_eq_true len, al]
      by_cases z : n = 0
      · rw [z]
        rfl
      · rw [decide_eq_false (numL_head (by omega))]
        rfl
    unfold readWhole
    rw [if_pos ok]
    unfold wholeVal
    rw [if_neg q, eb, TL.numL_val]
  · by_cases n0 : n = 0
    · subst n0
      show readWhole (istr ((0 : Nat) : Int)) = some (-((0 : Nat) : Int))
      rw [istr_nat]
      decide +kernel
    have hp : 0 < n := by omega
    have hn : n < 10 ^ 4000 := by simpa using h
    have len := TL.numL_len (by decide) hn
    have ad := TL.numL_digits n
    have ne := TL.numL_ne n
    rw [istr_neg hp]
    have q : (45 :: TL.numL n).take 1 = [45] := rfl
    have eb : bodyL (45 :: TL.numL n) = TL.numL n := by unfold bodyL; rw [if_pos q]; rfl
    have ok : wholeOk (45 :: TL.numL n) = true := by
      unfold wholeOk
      rw [eb]
      have l1 : 1 ≤ (TL.numL n).length := List.length_pos_iff.mpr ne
      have al : (TL.numL n).all digit = true := List.all_eq_true.mpr fun d hd => by
        have := ad d hd
        simp [digit, this.1, this.2]
      rw [decide_eq_true l1, decide_eq_true len, al, decide_eq_false (numL_head hp)]
      rfl
    unfold readWhole
    rw [if_pos ok]
    unfold wholeVal
    rw [if_pos q, eb, TL.numL_val]
end K53

set_option autoImplicit false
set_option Elab.async false
set_option linter.all false
set_option maxRecDepth 100000
set_option maxHeartbeats 4000000
namespace K53
open PySem PySem.Spec PyProof.Rows L2 KX Evl
/-! ### the program's reader is the law's reader -/
def conv : LS → RS
  | ⟨rows, none, _⟩ => ⟨rows, true, []⟩
  | ⟨t :: r, some v, _⟩ => ⟨(t ++ [v]) :: r, false, []⟩
  | ⟨[], some v, _⟩ => ⟨[], false, [v]⟩
theorem conv_tok (rows : List (List PyData)) (v : Option PyData) (a b : List Nat) : conv ⟨rows, v, a⟩ = conv ⟨rows, v, b⟩ := by
  cases v <;> cases rows <;> rfl
def nosep (l : List Nat) : Prop := ∀ x ∈ l, sep x = false
theorem pRun_nosep (l : List Nat) : nosep (pRun l).2 := by
  have : ∀ n, ∀ l : List Nat, l.length = n → nosep (pRun l).2 := by
    intro n
    induction n with
    | zero => intro l h; rw [List.eq_nil_of_length_eq_zero h]; intro x hx; cases hx
    | succ n ih =>
      intro l h
      have ne : l ≠ [] := by intro z; rw [z] at h; simp at h
      rw [← List.dropLast_concat_getLast ne, pRun_snoc]
      unfold pStep
      by_cases hs : sep (l.getLast ne) = true
      · rw [if_pos hs]
        intro x hx
        cases hx
      · rw [if_neg hs]
        intro x hx
        rcases List.mem_append.mp hx with q | q
        · exact ih l.dropLast (by rw [List.length_dropLast, h]; rfl) x q
        · rw [List.mem_singleton.mp q]
          revert hs
          cases sep (l.getLast ne) <;> simp
  exact this _ l rfl
theorem nosep_ne {tok : List Nat} (h : nosep tok) {c : Nat} (hc : sep c = true) : tok ≠ [c] := fun e => by
  have q := h c (by rw [e]; exact List.mem_singleton.mpr rfl)
  rw [hc] at q
  cases q
/-- the token that ends -/
theorem flush_conv {m : LS} (ne : m.token ≠ []) (ns : nosep m.token) : rTake (conv m) m.token = (lFlush m).map conv := by
  unfold rTake lFlush
  rw [if_neg (nosep_ne ns rfl), if_neg (nosep_ne ns rfl), if_neg (nosep_ne ns rfl), if_neg ne]
  obtain ⟨rows, v, tok⟩ := m
  show (readAtom tok).bind _ = _
  cases readAtom tok with
  | none => cases v <;> rfl
  | some a =>
    cases v with
    | none => cases rows <;> rfl
    | some w => cases rows <;> rfl
/-- a separator -/
theorem sep_conv {m : LS} {c : Nat} (hc : sep c = true) (hl : m.rows.length < 1000 ∨ c ≠ 91) : rTake (conv m) [c] = (lSep m c).map conv := by
  have h3 : c = 91 ∨ c = 93 ∨ c = 44 := by
    unfold sep at hc
    simp only [Bool.or_eq_true, decide_eq_true_eq] at hc
    omega
  obtain ⟨rows, v, tok⟩ := m
  rcases h3 with rfl | rfl | rfl
  · have hl' : rows.length < 1000 := hl.resolve_right (fun z => z rfl)
    cases v with
    | none =>
      show rOpen ⟨rows, true, []⟩ = _
      unfold rOpen
      rw [show (true && decide (rows.length < 1000)) = true from decide_eq_true hl']
      rfl
    | some w => cases rows <;> rfl
  · cases v with
    | none =>
      cases rows with
      | nil => rfl
      | cons t r =>
        show (if (true && decide (0 < t.length)) = true then none else rItem ⟨r, true, []⟩ (.tuple t)) = Option.map conv (if t = [] then some ⟨r, some (.tuple []), tok⟩ else none)
        cases t with
        | nil => cases r <;> rfl
        | cons x y => simp
    | some w =>
      cases rows with
      | nil => rfl
      | cons t r =>
        show (if (false && decide (0 < (t ++ [w]).length)) = true then none else rItem ⟨r, true, []⟩ (.tuple (t ++ [w]))) = some (conv ⟨r, some (.tuple (t ++ [w])), tok⟩)
        cases r <;> rfl
  · cases v with
    | none => cases rows <;> rfl
    | some w => cases rows <;> rfl
def cnt (l : List Nat) : Nat := l.count 91
theorem lFlush_rows {m m' : LS} (h : lFlush m = some m') : m'.rows = m.rows ∧ m'.token = [] := by
  unfold lFlush at h
  by_cases e : m.token = []
  · rw [if_pos e] at h
    cases h
    exact ⟨rfl, e⟩
  · rw [if_neg e] at h
    cases q : readAtom m.token with
    | none => rw [q] at h; cases h
    | some a =>
      cases q2 : m.val with
      | none =>
        rw [q, q2] at h
        cases h
        exact ⟨rfl, rfl⟩
      | some v => rw [q, q2] at h; cases h
theorem lSep_rows {m m' : LS} {c : Nat} (h : lSep m c = some m') : m'.rows.length ≤ m.rows.length + (if c = 91 then 1 else 0) ∧ m'.token = m.token := by
  obtain ⟨rows, v, tok⟩ := m
  unfold lSep at h
  by_cases c1 : c = 91
  · rw [if_pos c1] at h
    cases v with
    | none => cases h; rw [if_pos c1]; exact ⟨Nat.le_refl _, rfl⟩
    | some w => cases h
  rw [if_neg c1] at h ⊢
  by_cases c2 : c = 44
  · rw [if_pos c2] at h
    cases v with
    | none => cases h
    | some w =>
      cases rows with
      | nil => cases h
      | cons t r => cases h; exact ⟨Nat.le_refl _, rfl⟩
  rw [if_neg c2] at h
  by_cases c3 : c = 93
  · rw [if_pos c3] at h
    cases v with
    | none =>
      cases rows with
      | nil => cases h
      | cons t r =>
        have h' : (if t = [] then some (LS.mk r (some (.tuple [])) tok) else none) = some m' := h
        by_cases e : t = []
        · rw [if_pos e] at h'
          cases h'
          exact ⟨by simp, rfl⟩
        · rw [if_neg e] at h'
          cases h'
    | some w =>
      cases rows with
      | nil => cases h
      | cons t r => cases h; exact ⟨by simp, rfl⟩
  · rw [if_neg c3] at h
    cases h
    exact ⟨by simp, rfl⟩
theorem cnt_snoc (l : List Nat) (c : Nat) : cnt (l ++ [c]) = cnt l + (if c = 91 then 1 else 0) := by
  unfold cnt
  rw [List.count_append, List.count_singleton]
  by_cases e : c = 91 <;> simp [e]
def s0 : RS := ⟨[], true, []⟩
def m0 : LS := ⟨[], none, []⟩
theorem sim : ∀ (n : Nat) (l : List Nat), l.length = n → ¬ 59 ∈ l → cnt l ≤ 1000 →
    (∃ m, lRun m0 l = some m ∧ rRun s0 (pRun l).1 = some (conv m) ∧ m.token = (pRun l).2 ∧ m.rows.length ≤ cnt l) ∨ (lRun m0 l = none ∧ rRun s0 (pRun l).1 = none)
  | 0, l, hl, _, _ => by
    rw [List.eq_nil_of_length_eq_zero hl]
    exact .inl ⟨m0, rfl, rfl, rfl, Nat.le_refl _⟩
  | n + 1, l, hl, h59, hc => by
    have ne : l ≠ [] := by intro z; rw [z] at hl; simp at hl
    have e := List.dropLast_concat_getLast ne
    generalize l.getLast ne = c at e
    have hd : l.dropLast.length = n := by rw [List.length_dropLast, hl]; rfl
    generalize l.dropLast = a at e hd
    subst e
    rw [cnt_snoc] at hc
    have c59 : c ≠ 59 := fun z => h59 (by rw [z]; exact List.mem_append_right _ (List.mem_singleton.mpr rfl))
    have ih := sim n a hd (fun z => h59 (List.mem_append_left _ z)) (by omega)
    rw [lRun_snoc, pRun_snoc, cnt_snoc]
    have np := pRun_nosep a
    rcases ih with ⟨m, h1, h2, h3, h4⟩ | ⟨h1, h2⟩
    · rw [h1]
      show (∃ m', lStep m c = some m' ∧ _) ∨ (lStep m c = none ∧ _)
      unfold lStep pStep
      by_cases hs : sep c = true
      · rw [if_pos (by rw [hs]; rfl), if_pos hs]
        show (∃ m', (lFlush m).bind (fun s => lSep s c) = some m' ∧ rRun s0 ((if (pRun a).2 = [] then (pRun a).1 else (pRun a).1 ++ [(pRun a).2]) ++ [[c]]) = some (conv m') ∧ m'.token = [] ∧ m'.rows.length ≤ _) ∨ ((lFlush m).bind (fun s => lSep s c) = none ∧ rRun s0 ((if (pRun a).2 = [] then (pRun a).1 else (pRun a).1 ++ [(pRun a).2]) ++ [[c]]) = none)
        have fl : rRun s0 (if (pRun a).2 = [] then (pRun a).1 else (pRun a).1 ++ [(pRun a).2]) = (lFlush m).map conv := by
          by_cases t0 : (pRun a).2 = []
          · rw [if_pos t0, h2]
            unfold lFlush
            rw [h3, if_pos t0]
            rfl
          · rw [if_neg t0, rRun_snoc, h2]
            show rTake (conv m) (pRun a).2 = _
            rw [← h3] at t0 np ⊢
            exact flush_conv t0 np
        rw [rRun_snoc, fl]
        cases q : lFlush m with
        | none => exact .inr ⟨rfl, rfl⟩
        | some m1 =>
          obtain ⟨r1, r2⟩ := lFlush_rows q
          show (∃ m', lSep m1 c = some m' ∧ rTake (conv m1) [c] = _ ∧ _) ∨ (lSep m1 c = none ∧ rTake (conv m1) [c] = none)
          have sc := sep_conv (m := m1) hs (by
            by_cases z : c = 91
            · rw [if_pos z] at hc
              exact .inl (by rw [r1]; omega)
            · exact .inr z)
          rw [sc]
          cases q2 : lSep m1 c with
          | none => exact .inr ⟨rfl, rfl⟩
          | some m2 =>
            obtain ⟨r3, r4⟩ := lSep_rows q2
            exact .inl ⟨m2, rfl, rfl, r4.trans r2, by rw [r1] at r3; omega⟩
      · have hs' : sep c = false := by revert hs; cases sep c <;> simp
        rw [if_neg (by rw [hs', decide_eq_false c59]; decide), if_neg hs]
        refine .inl ⟨_, rfl, ?_, ?_, Nat.le_trans h4 (Nat.le_add_right _ _)⟩
        · show rRun s0 (pRun a).1 = _
          rw [h2]
          congr 1
          exact conv_tok m.rows m.val _ _
        · show m.token ++ [c] = (pRun a).2 ++ [c]
          rw [h3]
    · rw [h1]
      refine .inr ⟨rfl, ?_⟩
      unfold pStep
      by_cases hs : sep c = true
      · rw [if_pos hs]
        show rRun s0 ((if (pRun a).2 = [] then (pRun a).1 else (pRun a).1 ++ [(pRun a).2]) ++ [[c]]) = none
        by_cases t0 : (pRun a).2 = []
        · rw [if_pos t0]
          exact rRun_none _ _ _ h2
        · rw [if_neg t0, List.append_assoc]
          exact rRun_none _ _ _ h2
      · rw [if_neg hs]
        exact h2
/-- THE READERS AGREE -/
theorem readers {l : List Nat} (h59 : ¬ 59 ∈ l) (hc : cnt l ≤ 1000) : readText l = lawRead l := by
  have np := pRun_nosep l
  unfold readText lawRead
  rw [lRun_snoc]
  rcases sim l.length l rfl h59 hc with ⟨m, h1, h2, h3, h4⟩ | ⟨h1, h2⟩
  · rw [show lRun ⟨[], none, []⟩ l = some m from h1]
    have fl : rRun s0 (pieces l) = (lFlush m).map conv := by
      unfold pieces
      by_cases t0 : (pRun l).2 = []
      · rw [if_pos t0, List.append_nil, h2]
        unfold lFlush
        rw [h3, if_pos t0]
        rfl
      · rw [if_neg t0, rRun_snoc, h2]
        show rTake (conv m) (pRun l).2 = _
        rw [← h3] at t0 np ⊢
        exact flush_conv t0 np
    show (rRun s0 (pieces l)).bind rEnd = ((some m).bind fun s' => lStep s' 59).bind (lEnd l)
    rw [fl]
    show ((lFlush m).map conv).bind rEnd = (lStep m 59).bind (lEnd l)
    unfold lStep
    rw [if_pos (by decide)]
    cases lFlush m with
    | none => rfl
    | some m1 =>
      show rEnd (conv m1) = lEnd l m1
      unfold lEnd
      obtain ⟨rows, v, tok⟩ := m1
      cases rows with
      | nil =>
        rw [if_pos ⟨rfl, h59⟩]
        cases v <;> rfl
      | cons t r =>
        rw [if_neg (fun z => nomatch z.1)]
        cases v <;> rfl
  · rw [show lRun ⟨[], none, []⟩ l = none from h1]
    have fl : rRun s0 (pieces l) = none := rRun_none _ _ _ h2
    show (rRun s0 (pieces l)).bind rEnd = _
    rw [fl]
    rfl
end K53

set_option autoImplicit false
set_option Elab.async false
set_option linter.all false
set_option maxRecDepth 100000
set_option maxHeartbeats 4000000
namespace K53
open PySem PySem.Spec PyProof.Rows L2 KX Evl
/-! ### what is read is written so -/
theorem wordL_cons {l : List Nat} (h : wordL l = true) : ∃ c r, l = c :: r ∧ small c = true ∧ (l.all fun c => small c || digit c) = true := by
  cases l with
  | nil => exact nomatch h
  | cons c r =>
    refine ⟨c, r, rfl, ?_⟩
    unfold wordL at h
    have h' : (decide (1 ≤ (c :: r).length) && decide ((c :: r).length ≤ 12) && small c && ((c :: r).all fun c => small c || digit c)) = true := h
    simp only [Bool.and_eq_true] at h'
    exact ⟨h'.1.2, h'.2⟩
theorem atom_back {l : List Nat} {d : PyData} (h : readAtom l = some d) : lawW d = some l := by
  unfold readAtom signOf at h
  by_cases q0 : l = [43]
  · rw [if_pos q0] at h
    cases h
    rw [lawW, q0]
    rfl
  by_cases q1 : l = [45]
  · rw [if_neg q0, if_pos q1] at h
    cases h
    rw [lawW, q1]
    rfl
  by_cases q2 : l = [46]
  · rw [if_neg q0, if_neg q1, if_pos q2] at h
    cases h
    rw [lawW, q2]
    rfl
  rw [if_neg q0, if_neg q1, if_neg q2] at h
  by_cases q3 : wordL l = true
  · have h' : some (PyData.str (S l)) = some d := by simpa [q3] using h
    cases h'
    rw [lawW, S_cps, if_pos q3]
  · have h' : (readWhole l).map PyData.int = some d := by simpa [q3] using h
    obtain ⟨i, hi, rfl⟩ := Option.map_eq_some_iff.mp h'
    unfold readWhole at hi
    by_cases ok : wholeOk l = true
    · rw [if_pos ok] at hi
      cases hi
      rw [lawW, istr_whole ok]
    · rw [if_neg ok] at hi
      cases hi
def W' (d : PyData) : List Nat := (lawW d).getD []
def hasW (d : PyData) : Prop := lawW d = some (W' d)
theorem hasW_of {d : PyData} {t : List Nat} (h : lawW d = some t) : hasW d ∧ W' d = t := by
  unfold hasW W'
  rw [h]
  exact ⟨rfl, rfl⟩
def Iw : List PyData → List Nat
  | [] => []
  | x :: r => W' x ++ 44 :: Iw r
def Pw : List (List PyData) → List Nat
  | [] => []
  | t :: r => Pw r ++ 91 :: Iw t
def Vw : Option PyData → List Nat
  | none => []
  | some v => W' v
theorem Iw_snoc : ∀ (t : List PyData) (v : PyData), Iw (t ++ [v]) = Iw t ++ (W' v ++ [44])
  | [], v => rfl
  | x :: r, v => by
    show W' x ++ 44 :: Iw (r ++ [v]) = (W' x ++ 44 :: Iw r) ++ (W' v ++ [44])
    rw [Iw_snoc r v]
    simp
theorem sep_snoc : ∀ (t : List PyData) (v : PyData) (f : Bool), (∀ x ∈ t, hasW x) → hasW v → lawSep f (t ++ [v]) = some ((if f then [] else [44]) ++ (Iw t ++ W' v))
  | [], v, f, _, hv => by
    show lawSep f [v] = _
    rw [lawSep_cons, show lawW v = some (W' v) from hv, lawSep]
    simp [Iw]
  | x :: r, v, f, h, hv => by
    show lawSep f (x :: (r ++ [v])) = _
    rw [lawSep_cons, show lawW x = some (W' x) from h x (List.mem_cons_self ..), sep_snoc r v false (fun y hy => h y (List.mem_cons_of_mem _ hy)) hv]
    simp [Iw]
structure TxI (l : List Nat) (m : LS) : Prop where
  tx : l = Pw m.rows ++ (Vw m.val ++ m.token)
  rw_ : ∀ t ∈ m.rows, ∀ x ∈ t, hasW x
  vw : ∀ v, m.val = some v → hasW v
theorem TxI.flush {l : List Nat} {m m' : LS} (h : TxI l m) (e : lFlush m = some m') : TxI l m' := by
  unfold lFlush at e
  by_cases q : m.token = []
  · rw [if_pos q] at e
    cases e
    exact h
  · rw [if_neg q] at e
    cases q1 : readAtom m.token with
    | none => rw [q1] at e; cases e
    | some a =>
      cases q2 : m.val with
      | some v => rw [q1, q2] at e; cases e
      | none =>
        rw [q1, q2] at e
        cases e
        obtain ⟨w1, w2⟩ := hasW_of (atom_back q1)
        refine ⟨?_, h.rw_, fun v hv => by cases hv; exact w1⟩
        have t := h.tx
        rw [q2] at t
        show l = Pw m.rows ++ (W' a ++ [])
        rw [w2, List.append_nil]
        exact t
theorem TxI.sep {l : List Nat} {m m' : LS} {c : Nat} (h : TxI l m) (h0 : m.token = []) (hc : sep c = true) (e : lSep m c = some m') : TxI (l ++ [c]) m' := by
  obtain ⟨rows, v, tok⟩ := m
  have t := h.tx
  have h0' : tok = [] := h0
  subst h0'
  rw [List.append_nil] at t
  unfold lSep at e
  by_cases c1 : c = 91
  · rw [if_pos c1] at e
    cases v with
    | some w => cases e
    | none =>
      cases e
      refine ⟨?_, fun u hu x hx => ?_, fun v hv => nomatch hv⟩
      · rw [t, c1]
        show Pw rows ++ [] ++ [91] = (Pw rows ++ 91 :: []) ++ ([] ++ [])
        simp
      · rcases List.mem_cons.mp hu with z | z
        · rw [z] at hx; cases hx
        · exact h.rw_ u z x hx
  rw [if_neg c1] at e
  by_cases c2 : c = 44
  · rw [if_pos c2] at e
    cases v with
    | none => cases e
    | some w =>
      cases rows with
      | nil => cases e
      | cons u r =>
        cases e
        refine ⟨?_, fun y hy x hx => ?_, fun v hv => nomatch hv⟩
        · rw [t, c2]
          show (Pw r ++ 91 :: Iw u) ++ W' w ++ [44] = (Pw r ++ 91 :: Iw (u ++ [w])) ++ ([] ++ [])
          rw [Iw_snoc]
          simp
        · rcases List.mem_cons.mp hy with z | z
          · rw [z] at hx
            rcases List.mem_append.mp hx with z2 | z2
            · exact h.rw_ u (List.mem_cons_self ..) x z2
            · rw [List.mem_singleton.mp z2]
              exact h.vw w rfl
          · exact h.rw_ y (List.mem_cons_of_mem _ z) x hx
  rw [if_neg c2] at e
  have c3 : c = 93 := by
    unfold K53.sep at hc
    simp only [Bool.or_eq_true, decide_eq_true_eq] at hc
    omega
  rw [if_pos c3] at e
  cases rows with
  | nil => cases v <;> cases e
  | cons u r =>
    have hu : ∀ x ∈ u, hasW x := h.rw_ u (List.mem_cons_self ..)
    have hr : ∀ t ∈ r, ∀ x ∈ t, hasW x := fun y hy x hx => h.rw_ y (List.mem_cons_of_mem _ hy) x hx
    cases v with
    | none =>
      have e' : (if u = [] then some (LS.mk r (some (.tuple [])) []) else none) = some m' := e
      by_cases q : u = []
      · rw [if_pos q] at e'
        cases e'
        have w : lawW (.tuple []) = some [91, 93] := by rw [lawW, lawSep]; rfl
        obtain ⟨w1, w2⟩ := hasW_of w
        refine ⟨?_, hr, fun v hv => by cases hv; exact w1⟩
        rw [t, c3, q]
        show (Pw r ++ 91 :: []) ++ [] ++ [93] = Pw r ++ (W' (.tuple []) ++ [])
        rw [w2]
        simp
      · rw [if_neg q] at e'
        cases e'
    | some v =>
      cases e
      have w : lawW (.tuple (u ++ [v])) = some (91 :: ((Iw u ++ W' v) ++ [93])) := by
        rw [lawW, sep_snoc u v true hu (h.vw v rfl)]
        rfl
      obtain ⟨w1, w2⟩ := hasW_of w
      refine ⟨?_, hr, fun v hv => by cases hv; exact w1⟩
      rw [t, c3]
      show (Pw r ++ 91 :: Iw u) ++ W' v ++ [93] = Pw r ++ (W' (.tuple (u ++ [v])) ++ [])
      rw [w2]
      simp
theorem TxI.run : ∀ (n : Nat) (l : List Nat) (m : LS), l.length = n → ¬ 59 ∈ l → lRun m0 l = some m → TxI l m
  | 0, l, m, hl, _, h => by
    rw [List.eq_nil_of_length_eq_zero hl] at h ⊢
    cases h
    exact ⟨rfl, (fun t h => nomatch h), fun v h => nomatch h⟩
  | n + 1, l, m, hl, h59, h => by
    have ne : l ≠ [] := by intro z; rw [z] at hl; simp at hl
    have e := List.dropLast_concat_getLast ne
    generalize l.getLast ne = c at e
    have hd : l.dropLast.length = n := by rw [List.length_dropLast, hl]; rfl
    generalize l.dropLast = a at e hd
    subst e
    have c59 : c ≠ 59 := fun z => h59 (by rw [z]; exact List.mem_append_right _ (List.mem_singleton.mpr rfl))
    rw [lRun_snoc] at h
    cases q : lRun m0 a with
    | none => rw [q] at h; cases h
    | some m1 =>
      rw [q] at h
      have ih := TxI.run n a m1 hd (fun z => h59 (List.mem_append_left _ z)) q
      have h' : lStep m1 c = some m := h
      unfold lStep at h'
      by_cases hs : K53.sep c = true
      · rw [if_pos (by rw [hs]; rfl)] at h'
        cases q2 : lFlush m1 with
        | none => rw [q2] at h'; cases h'
        | some m2 =>
          rw [q2] at h'
          exact (ih.flush q2).sep (lFlush_rows q2).2 hs h'
      · have hs' : K53.sep c = false := by revert hs; cases K53.sep c <;> simp
        rw [if_neg (by rw [hs', decide_eq_false c59]; decide)] at h'
        cases h'
        refine ⟨?_, ih.rw_, ih.vw⟩
        have t := ih.tx
        show a ++ [c] = Pw m1.rows ++ (Vw m1.val ++ (m1.token ++ [c]))
        have e2 : Pw m1.rows ++ (Vw m1.val ++ (m1.token ++ [c])) = (Pw m1.rows ++ (Vw m1.val ++ m1.token)) ++ [c] := by simp
        rw [e2, ← t]
theorem read_back {l : List Nat} {d : PyData} (h59 : ¬ 59 ∈ l) (h : lawRead l = some d) : lawW d = some l := by
  unfold lawRead at h
  rw [lRun_snoc] at h
  cases q : lRun m0 l with
  | none => rw [show lRun ⟨[], none, []⟩ l = none from q] at h; cases h
  | some m =>
    rw [show lRun ⟨[], none, []⟩ l = some m from q] at h
    have h' : (lStep m 59).bind (lEnd l) = some d := h
    unfold lStep at h'
    rw [if_pos (by decide)] at h'
    have ti := TxI.run l.length l m rfl h59 q
    cases q2 : lFlush m with
    | none => rw [q2] at h'; cases h'
    | some m1 =>
      rw [q2] at h'
      have h2 : lEnd l m1 = some d := h'
      have t1 := ti.flush q2
      have k0 := (lFlush_rows q2).2
      unfold lEnd at h2
      by_cases z : m1.rows = [] ∧ ¬ 59 ∈ l
      · rw [if_pos z] at h2
        have t := t1.tx
        rw [z.1, h2, k0] at t
        have w := t1.vw d h2
        have e : l = W' d := by
          rw [t]
          show [] ++ (W' d ++ []) = _
          simp
        rw [e]
        exact w
      · rw [if_neg z] at h2
        cases h2
end K53

set_option autoImplicit false
set_option Elab.async false
set_option linter.all false
set_option maxRecDepth 100000
set_option maxHeartbeats 4000000
namespace K53
open PySem PySem.Spec PyProof.Rows L2 KX Evl
/-! ### what is written is read so -/
mutual
/-- ints of so many digits at most -/
def intB (N : Nat) : PyData → Prop
  | .tuple xs => intBA N xs
  | .int i => i.natAbs < 10 ^ N
  | _ => True
def intBA (N : Nat) : List PyData → Prop
  | [] => True
  | x :: r => intB N x ∧ intBA N r
end
/-- a sign of an atom's text -/
def atomSign (c : Nat) : Bool := small c || digit c || decide (c = 43) || decide (c = 45) || decide (c = 46)
theorem atomSign_no {c : Nat} (h : atomSign c = true) : sep c = false ∧ c ≠ 59 := by
  simp only [atomSign, small, digit, Bool.or_eq_true, Bool.and_eq_true, decide_eq_true_eq] at h
  refine ⟨?_, by omega⟩
  unfold sep
  simp only [Bool.or_eq_false_iff, decide_eq_false_iff_not]
  omega
theorem istr_signs (i : Int) : ∀ c ∈ istr i, atomSign c = true := by
  obtain ⟨n, rfl | rfl⟩ := Int.eq_nat_or_neg i
  · rw [istr_nat]
    intro c hc
    have := TL.numL_digits n c hc
    simp [atomSign, digit, this.1, this.2]
  · by_cases h : n = 0
    · subst h
      show ∀ c ∈ istr ((0 : Nat) : Int), _
      rw [istr_nat]
      intro c hc
      have := TL.numL_digits 0 c hc
      simp [atomSign, digit, this.1, this.2]
    · rw [istr_neg (by omega)]
      intro c hc
      rcases List.mem_cons.mp hc with e | e
      · rw [e]; rfl
      · have := TL.numL_digits n c e
        simp [atomSign, digit, this.1, this.2]
theorem istr_head (i : Int) : ∃ c r, istr i = c :: r ∧ (digit c = true ∨ (c = 45 ∧ r ≠ [])) := by
  obtain ⟨n, rfl | rfl⟩ := Int.eq_nat_or_neg i
  · rw [istr_nat]
    cases e : TL.numL n with
    | nil => exact absurd e (TL.numL_ne n)
    | cons c r =>
      have := TL.numL_digits n c (by rw [e]; exact List.mem_cons_self ..)
      exact ⟨c, r, rfl, .inl (by simp [digit, this.1, this.2])⟩
  · by_cases h : n = 0
    · subst h
      show ∃ c r, istr ((0 : Nat) : Int) = c :: r ∧ _
      rw [istr_nat]
      exact ⟨48, [], rfl, .inl rfl⟩
    · rw [istr_neg (by omega)]
      exact ⟨45, _, rfl, .inr ⟨rfl, TL.numL_ne n⟩⟩
def isAtom : PyData → Bool
  | .tuple _ => false
  | _ => true
/-- an atom's text is read as the atom -/
theorem atom_read {d : PyData} {t : List Nat} (ha : isAtom d = true) (h : lawW d = some t) (hi : intB 4000 d) : readAtom t = some d ∧ t ≠ [] ∧ ∀ c ∈ t, atomSign c = true := by
  cases d with
  | tuple xs => exact nomatch ha
  | none => rw [lawW] at h; cases h
  | list xs => rw [lawW] at h; cases h
  | dict xs => rw [lawW] at h; cases h
  | bool b =>
    rw [lawW] at h
    cases h
    cases b
    · exact ⟨rfl, by decide, by decide⟩
    · exact ⟨rfl, by decide, by decide⟩
  | str x =>
    rw [lawW] at h
    by_cases q : wordL x.cps.toList = true
    · rw [if_pos q] at h
      cases h
      obtain ⟨c, r, e, sc, al⟩ := wordL_cons q
      have c97 : 97 ≤ c := by simp only [small, Bool.and_eq_true, decide_eq_true_eq] at sc; exact sc.1
      refine ⟨?_, by rw [e]; simp, fun y hy => ?_⟩
      · unfold readAtom signOf
        rw [if_neg (by rw [e]; intro z; have := (List.cons.inj z).1; omega), if_neg (by rw [e]; intro z; have := (List.cons.inj z).1; omega), if_neg (by rw [e]; intro z; have := (List.cons.inj z).1; omega)]
        show (if wordL x.cps.toList = true then some (PyData.str (S x.cps.toList)) else _) = _
        rw [if_pos q, S_of]
      · have := List.all_eq_true.mp al y hy
        unfold atomSign
        rw [this]
        rfl
    · rw [if_neg q] at h
      by_cases q2 : x.cps.toList = []
      · rw [if_pos q2] at h
        cases h
        have ex : x = S [] := by rw [← S_of x, q2]
        rw [ex]
        exact ⟨rfl, by decide, by decide⟩
      · rw [if_neg q2] at h
        cases h
  | int i =>
    rw [lawW] at h
    cases h
    obtain ⟨c, r, e, hc⟩ := istr_head i
    refine ⟨?_, by rw [e]; simp, istr_signs i⟩
    have nw : ¬ wordL (istr i) = true := fun q => by
      obtain ⟨c', r', e', sc, _⟩ := wordL_cons q
      rw [e] at e'
      have := (List.cons.inj e').1
      subst this
      simp only [small, digit, Bool.and_eq_true, decide_eq_true_eq] at sc hc
      omega
    have n3 : ∀ k : Nat, k = 43 ∨ k = 45 ∨ k = 46 → ¬ istr i = [k] := fun k hk z => by
      rw [e] at z
      have z1 := (List.cons.inj z).1
      have z2 := (List.cons.inj z).2
      rcases hc with q | q
      · simp only [digit, Bool.and_eq_true, decide_eq_true_eq] at q
        omega
      · exact q.2 z2
    unfold readAtom signOf
    rw [if_neg (n3 43 (by omega)), if_neg (n3 45 (by omega)), if_neg (n3 46 (by omega))]
    show (if wordL (istr i) = true then _ else (readWhole (istr i)).map PyData.int) = _
    rw [if_neg nw, whole_istr hi]
    rfl
theorem lRun_app : ∀ (a b : List Nat) (m : LS), lRun m (a ++ b) = (lRun m a).bind fun m' => lRun m' b
  | [], b, m => rfl
  | c :: r, b, m => by
    show (lStep m c).bind _ = ((lStep m c).bind _).bind _
    cases lStep m c with
    | none => rfl
    | some m' => exact lRun_app r b m'
theorem lRun_atom : ∀ (t : List Nat) (rows : List (List PyData)) (v : Option PyData) (tok : List Nat), (∀ c ∈ t, atomSign c = true) → lRun ⟨rows, v, tok⟩ t = some ⟨rows, v, tok ++ t⟩
  | [], rows, v, tok, _ => by rw [List.append_nil]; rfl
  | c :: r, rows, v, tok, h => by
    obtain ⟨h1, h2⟩ := atomSign_no (h c (List.mem_cons_self ..))
    have e : lStep ⟨rows, v, tok⟩ c = some ⟨rows, v, tok ++ [c]⟩ := by
      unfold lStep
      rw [if_neg (by rw [h1, decide_eq_false h2]; decide)]
    show (lStep ⟨rows, v, tok⟩ c).bind _ = _
    rw [e]
    show lRun ⟨rows, v, tok ++ [c]⟩ r = _
    rw [lRun_atom r rows v (tok ++ [c]) fun x hx => h x (List.mem_cons_of_mem _ hx)]
    simp
def Rd1 (d : PyData) : Prop := ∀ t, lawW d = some t → intB 4000 d → ∀ rows, ∃ m', lRun ⟨rows, none, []⟩ t = some m' ∧ lFlush m' = some ⟨rows, some d, []⟩
def Rd2 (xs : List PyData) : Prop := intBA 4000 xs →
  (∀ r, lawSep false xs = some r → ∀ ys v rows m, lFlush m = some ⟨ys :: rows, some v, []⟩ → lRun m (r ++ [93]) = some ⟨rows, some (.tuple (ys ++ [v] ++ xs)), []⟩) ∧
  (∀ r, lawSep true xs = some r → ∀ rows, lRun ⟨[] :: rows, none, []⟩ (r ++ [93]) = some ⟨rows, some (.tuple xs), []⟩)
theorem rd_atom {d : PyData} (ha : isAtom d = true) : Rd1 d := fun t h hi rows => by
  obtain ⟨h1, h2, h3⟩ := atom_read ha h hi
  refine ⟨_, lRun_atom t rows none [] h3, ?_⟩
  show lFlush ⟨rows, none, t⟩ = _
  unfold lFlush
  rw [if_neg h2, h1]
theorem rd_all (d : PyData) : Rd1 d := by
  refine PyData.rec (motive_1 := Rd1) (motive_2 := Rd2) (motive_3 := fun _ => True) (motive_4 := fun _ => True) ?_ ?_ ?_ ?_ ?_ ?_ ?_ ?_ ?_ ?_ ?_ ?_ d
  · exact rd_atom rfl
  · exact fun b => rd_atom rfl
  · exact fun i => rd_atom rfl
  · exact fun x => rd_atom rfl
  · exact fun xs _ => rd_atom rfl
  · intro xs ih t h hi rows
    rw [lawW, Option.map_eq_some_iff] at h
    obtain ⟨r, hr, rfl⟩ := h
    have hi' : intBA 4000 xs := hi
    refine ⟨⟨rows, some (.tuple xs), []⟩, ?_, rfl⟩
    show (lStep ⟨rows, none, []⟩ 91).bind (fun m => lRun m (r ++ [93])) = _
    exact (ih hi').2 r hr rows
  · exact fun xs _ => rd_atom rfl
  · intro _
    refine ⟨fun r h ys v rows m hm => ?_, fun r h rows => ?_⟩
    · rw [lawSep] at h
      cases h
      show (lStep m 93).bind (fun m => some m) = _
      unfold lStep
      rw [if_pos (by decide), hm, List.append_nil]
      rfl
    · rw [lawSep] at h
      cases h
      rfl
  · intro x xs i1 i2 hi
    have hi' : intB 4000 x ∧ intBA 4000 xs := hi
    have tl := (i2 hi'.2).1
    refine ⟨fun r h ys v rows m hm => ?_, fun r h rows => ?_⟩
    · rw [lawSep_cons] at h
      cases e : lawW x with
      | none => rw [e] at h; cases h
      | some a =>
        cases e2 : lawSep false xs with
        | none => rw [e, e2] at h; cases h
        | some b =>
          rw [e, e2] at h
          cases h
          obtain ⟨m1, h1, h2⟩ := i1 a e hi'.1 ((ys ++ [v]) :: rows)
          have s1 : lStep m 44 = some ⟨(ys ++ [v]) :: rows, none, []⟩ := by
            unfold lStep
            rw [if_pos (by decide), hm]
            rfl
          show lRun m ([44] ++ (a ++ b) ++ [93]) = _
          have ea : [44] ++ (a ++ b) ++ [93] = 44 :: (a ++ (b ++ [93])) := by simp
          rw [ea]
          show (lStep m 44).bind _ = _
          rw [s1]
          show lRun ⟨(ys ++ [v]) :: rows, none, []⟩ (a ++ (b ++ [93])) = _
          rw [lRun_app, h1]
          show lRun m1 (b ++ [93]) = _
          rw [tl b e2 (ys ++ [v]) x rows m1 h2]
          simp
    · rw [lawSep_cons] at h
      cases e : lawW x with
      | none => rw [e] at h; cases h
      | some a =>
        cases e2 : lawSep false xs with
        | none => rw [e, e2] at h; cases h
        | some b =>
          rw [e, e2] at h
          cases h
          obtain ⟨m1, h1, h2⟩ := i1 a e hi'.1 ([] :: rows)
          show lRun ⟨[] :: rows, none, []⟩ ([] ++ (a ++ b) ++ [93]) = _
          have ea : [] ++ (a ++ b) ++ [93] = a ++ (b ++ [93]) := by simp
          rw [ea, lRun_app, h1]
          show lRun m1 (b ++ [93]) = _
          rw [tl b e2 [] x rows m1 h2]
          simp
  · trivial
  · intros; trivial
  · intros; trivial
/-- the signs of a text -/
theorem lawW_signs {d : PyData} : ∀ {t : List Nat}, lawW d = some t → ∀ c ∈ t, sep c = true ∨ atomSign c = true := by
  refine PyData.rec (motive_1 := fun d => ∀ {t : List Nat}, lawW d = some t → ∀ c ∈ t, sep c = true ∨ atomSign c = true) (motive_2 := fun xs => ∀ {f : Bool} {t : List Nat}, lawSep f xs = some t → ∀ c ∈ t, sep c = true ∨ atomSign c = true) (motive_3 := fun _ => True) (motive_4 := fun _ => True) ?_ ?_ ?_ ?_ ?_ ?_ ?_ ?_ ?_ ?_ ?_ ?_ d
  · intro t h; rw [lawW] at h; cases h
  · intro b t h c hc
    rw [lawW] at h
    cases h
    cases b
    · rw [List.mem_singleton.mp hc]; exact .inr rfl
    · rw [List.mem_singleton.mp hc]; exact .inr rfl
  · intro i t h c hc
    rw [lawW] at h
    cases h
    exact .inr (istr_signs i c hc)
  · intro x t h c hc
    rw [lawW] at h
    by_cases q : wordL x.cps.toList = true
    · rw [if_pos q] at h
      cases h
      obtain ⟨c', r, e, sc, al⟩ := wordL_cons q
      have := List.all_eq_true.mp al c hc
      unfold atomSign
      rw [this]
      exact .inr rfl
    · rw [if_neg q] at h
      by_cases q2 : x.cps.toList = []
      · rw [if_pos q2] at h
        cases h
        rw [List.mem_singleton.mp hc]
        exact .inr rfl
      · rw [if_neg q2] at h
        cases h
  · intro xs _ t h; rw [lawW] at h; cases h
  · intro xs ih t h c hc
    rw [lawW, Option.map_eq_some_iff] at h
    obtain ⟨r, hr, rfl⟩ := h
    rcases List.mem_cons.mp hc with e | hc
    · rw [e]; exact .inl rfl
    rcases List.mem_append.mp hc with e | e
    · exact ih hr c e
    · rw [List.mem_singleton.mp e]; exact .inl rfl
  · intro xs _ t h; rw [lawW] at h; cases h
  · intro f t h c hc
    rw [lawSep] at h
    cases h
    cases hc
  · intro x xs i1 i2 f t h c hc
    rw [lawSep_cons] at h
    cases e : lawW x with
    | none => rw [e] at h; cases h
    | some a =>
      cases e2 : lawSep false xs with
      | none => rw [e, e2] at h; cases h
      | some b =>
        rw [e, e2] at h
        cases h
        rcases List.mem_append.mp hc with z | z
        · cases f with
          | true => cases z
          | false => rw [List.mem_singleton.mp z]; exact .inl rfl
        rcases List.mem_append.mp z with z | z
        · exact i1 e c z
        · exact i2 e2 c z
  · trivial
  · intros; trivial
  · intros; trivial
theorem lawW_59 {d : PyData} {t : List Nat} (h : lawW d = some t) : ¬ 59 ∈ t := fun m => by
  rcases lawW_signs h 59 m with q | q
  · exact nomatch q
  · exact nomatch q
/-- THE ROUND TRIP -/
theorem round {d : PyData} {t : List Nat} (h : lawW d = some t) (hi : intB 4000 d) : lawRead t = some d := by
  obtain ⟨m, h1, h2⟩ := rd_all d t h hi []
  unfold lawRead
  rw [lRun_snoc, show lRun ⟨[], none, []⟩ t = some m from h1]
  show (lStep m 59).bind (lEnd t) = _
  unfold lStep
  rw [if_pos (by decide), h2]
  show lEnd t ⟨[], some d, []⟩ = _
  unfold lEnd
  rw [if_pos ⟨rfl, lawW_59 h⟩]
end K53

set_option autoImplicit false
set_option Elab.async false
set_option linter.all false
set_option maxRecDepth 100000
set_option maxHeartbeats 4000000
namespace K53
open PySem PySem.Spec PyProof.Rows L2 KX Evl
/-! ### bounds -/
/-- the token's length behind so many signs; the longest token -/
def tkl : Nat → List Nat → Nat
  | n, [] => n
  | n, c :: r => tkl (if sep c = true then 0 else n + 1) r
def mx : Nat → List Nat → Nat
  | n, [] => n
  | n, c :: r => max n (mx (if sep c = true then 0 else n + 1) r)
theorem mx_ge : ∀ (n : Nat) (l : List Nat), n ≤ mx n l
  | n, [] => Nat.le_refl _
  | n, c :: r => Nat.le_max_left _ _
theorem tkl_le : ∀ (n : Nat) (l : List Nat), tkl n l ≤ mx n l
  | n, [] => Nat.le_refl _
  | n, c :: r => Nat.le_trans (tkl_le _ r) (Nat.le_max_right _ _)
theorem mx_app : ∀ (n : Nat) (a b : List Nat), mx n (a ++ b) = max (mx n a) (mx (tkl n a) b)
  | n, [], b => by
    show mx n b = max n (mx n b)
    have := mx_ge n b
    omega
  | n, c :: r, b => by
    show max n (mx _ (r ++ b)) = max (max n (mx _ r)) (mx _ b)
    rw [mx_app _ r b]
    exact (Nat.max_assoc _ _ _).symm
theorem tkl_app : ∀ (n : Nat) (a b : List Nat), tkl n (a ++ b) = tkl (tkl n a) b
  | n, [], b => rfl
  | n, c :: r, b => tkl_app _ r b
theorem mx_shift : ∀ (n k : Nat) (l : List Nat), mx (n + k) l ≤ n + mx k l
  | n, k, [] => Nat.le_refl _
  | n, k, c :: r => by
    show max (n + k) (mx (if sep c = true then 0 else n + k + 1) r) ≤ n + max k (mx (if sep c = true then 0 else k + 1) r)
    by_cases s : sep c = true
    · rw [if_pos s, if_pos s]
      omega
    · rw [if_neg s, if_neg s]
      have := mx_shift n (k + 1) r
      rw [← Nat.add_assoc] at this
      omega
theorem mx_mono : ∀ (n k : Nat) (l : List Nat), mx k l ≤ mx (n + k) l
  | n, k, [] => by show k ≤ n + k; omega
  | n, k, c :: r => by
    show max k (mx (if sep c = true then 0 else k + 1) r) ≤ max (n + k) (mx (if sep c = true then 0 else n + k + 1) r)
    by_cases s : sep c = true
    · rw [if_pos s, if_pos s]
      omega
    · rw [if_neg s, if_neg s]
      have := mx_mono n (k + 1) r
      rw [← Nat.add_assoc] at this
      omega
theorem mx_zero (n : Nat) (l : List Nat) : mx 0 l ≤ mx n l := mx_mono n 0 l
theorem mx_nosep : ∀ (n : Nat) (l : List Nat), nosep l → mx n l = n + l.length
  | n, [], _ => rfl
  | n, c :: r, h => by
    show max n (mx (if sep c = true then 0 else n + 1) r) = n + (r.length + 1)
    rw [if_neg (by rw [h c (List.mem_cons_self ..)]; decide), mx_nosep (n + 1) r fun x hx => h x (List.mem_cons_of_mem _ hx)]
    omega
theorem tkl_run : ∀ (l : List Nat) (p : List (List Nat)) (t : List Nat), (l.foldl pStep (p, t)).2.length = tkl t.length l
  | [], p, t => rfl
  | c :: r, p, t => by
    show (r.foldl pStep (pStep (p, t) c)).2.length = tkl (if sep c = true then 0 else t.length + 1) r
    unfold pStep
    by_cases s : sep c = true
    · rw [if_pos s, if_pos s]
      exact tkl_run r _ []
    · rw [if_neg s, if_neg s]
      have := tkl_run r p (t ++ [c])
      rw [List.length_append] at this
      exact this
theorem gap_of {l : List Nat} (h : mx 0 l ≤ 4000) : gapOk l := fun i => by
  have e : (pRun (l.take i)).2.length = tkl 0 (l.take i) := tkl_run (l.take i) [] []
  rw [e]
  have q : mx 0 l = max (mx 0 (l.take i)) (mx (tkl 0 (l.take i)) (l.drop i)) := by rw [← mx_app, List.take_append_drop]
  have := tkl_le 0 (l.take i)
  omega
/-- an edit -/
theorem mx_edit {t m : List Nat} {i k : Nat} (hm : m.length ≤ 1) (h : mx 0 t ≤ 41) : mx 0 (t.take i ++ (m ++ t.drop k)) ≤ 83 := by
  have q1 : mx 0 t = max (mx 0 (t.take i)) (mx (tkl 0 (t.take i)) (t.drop i)) := by rw [← mx_app, List.take_append_drop]
  have q2 : mx 0 t = max (mx 0 (t.take k)) (mx (tkl 0 (t.take k)) (t.drop k)) := by rw [← mx_app, List.take_append_drop]
  have q3 := mx_zero (tkl 0 (t.take k)) (t.drop k)
  have q4 := tkl_le 0 (t.take i)
  rw [mx_app]
  have q5 : mx (tkl 0 (t.take i)) (m ++ t.drop k) ≤ 83 := by
    rw [mx_app]
    have b1 : mx (tkl 0 (t.take i)) m ≤ tkl 0 (t.take i) + 1 := by
      match m, hm with
      | [], _ => exact Nat.le_succ _
      | [c], _ =>
        show max (tkl 0 (t.take i)) (if sep c = true then 0 else tkl 0 (t.take i) + 1) ≤ _
        split <;> omega
    have b2 := tkl_le (tkl 0 (t.take i)) m
    have b3 := mx_shift (tkl (tkl 0 (t.take i)) m) 0 (t.drop k)
    rw [Nat.add_zero] at b3
    omega
  omega
theorem cnt_app (a b : List Nat) : cnt (a ++ b) = cnt a + cnt b := List.count_append ..
theorem cnt_edit {t m : List Nat} {i k : Nat} (hm : m.length ≤ 1) (hk : i ≤ k) : cnt (t.take i ++ (m ++ t.drop k)) ≤ cnt t + 1 := by
  have e : cnt t = cnt (t.take i) + cnt (t.drop i) := by rw [← cnt_app, List.take_append_drop]
  have e2 : cnt (t.drop k) ≤ cnt (t.drop i) := by
    have q : t.drop k = (t.drop i).drop (k - i) := by rw [List.drop_drop]; congr 1; omega
    rw [q]
    exact List.Sublist.count_le _ (List.drop_sublist _ _)
  have e3 : cnt m ≤ 1 := Nat.le_trans List.count_le_length hm
  rw [cnt_app, cnt_app]
  omega
theorem numL_big (n : Nat) : n < 10 ^ (TL.numL n).length := by
  induction n using Nat.strongRecOn with
  | _ n ih =>
    by_cases h : n < 10
    · rw [TL.numL_lt h]
      show n < 10 ^ 1
      omega
    · rw [TL.numL_step (by omega), List.length_append]
      have i := ih (n / 10) (by omega)
      show n < 10 ^ ((TL.numL (n / 10)).length + 1)
      rw [Nat.pow_succ]
      omega
theorem istr_big (i : Int) : i.natAbs < 10 ^ (istr i).length := by
  obtain ⟨n, rfl | rfl⟩ := Int.eq_nat_or_neg i
  · rw [istr_nat]
    simpa using numL_big n
  · by_cases h : n = 0
    · subst h
      exact Nat.pow_pos (by decide)
    · rw [istr_neg (by omega)]
      have q := numL_big n
      have e : (-(n : Int)).natAbs = n := by omega
      rw [e]
      exact Nat.lt_trans q (Nat.pow_lt_pow_right (by decide) (Nat.lt_succ_self _))
theorem intB_mono {N M : Nat} (h : N ≤ M) {d : PyData} : intB N d → intB M d := by
  refine PyData.rec (motive_1 := fun d => intB N d → intB M d) (motive_2 := fun xs => intBA N xs → intBA M xs) (motive_3 := fun _ => True) (motive_4 := fun _ => True) ?_ ?_ ?_ ?_ ?_ ?_ ?_ ?_ ?_ ?_ ?_ ?_ d
  · exact fun q => q
  · exact fun _ q => q
  · exact fun i (q : i.natAbs < 10 ^ N) => (Nat.lt_of_lt_of_le q (Nat.pow_le_pow_right (by decide) h) : i.natAbs < 10 ^ M)
  · exact fun _ q => q
  · exact fun _ _ q => q
  · exact fun xs ih (q : intBA N xs) => ih q
  · exact fun _ _ q => q
  · exact fun q => q
  · exact fun x r i1 i2 (q : intB N x ∧ intBA N r) => (⟨i1 q.1, i2 q.2⟩ : intB M x ∧ intBA M r)
  · trivial
  · intros; trivial
  · intros; trivial
/-- of a text's datum -/
structure Of (d : PyData) (t : List Nat) : Prop where
  tb_ : tb d ≤ 2 * t.length
  ws : wsize d ≤ 2 * t.length
  sa : shortAll d
  dp : d.depth ≤ cnt t
  lay : d.canLay0 = true
  sh : d.shown.length ≤ 12 * tb d
  ib : ∀ N, mx 0 t ≤ N → intB N d
  le1 : 1 ≤ t.length
structure OfA (xs : List PyData) (t : List Nat) : Prop where
  tb_ : tbA xs ≤ 2 * t.length + 1
  ws : wsizeA xs ≤ 2 * t.length + 1
  sa : shortAllA xs
  dp : PyData.depthAll xs ≤ cnt t
  lay : PyData.canLayAll0 xs = true
  sh : ((PyData.shownAll xs).map (·.length)).sum + 2 * xs.length ≤ 12 * tbA xs
theorem strL (b : String) : (Str.ofString b).length = (Str.ofString b).cps.toList.length := len_cps _
theorem word_small {x : Str} (h : wordL x.cps.toList = true) : x.length ≤ 12 ∧ ∀ c ∈ x.cps.toList, c < 128 := by
  obtain ⟨c, r, e, sc, al⟩ := wordL_cons h
  refine ⟨?_, fun y hy => ?_⟩
  · unfold wordL at h
    rw [len_cps]
    revert h
    cases q : decide (x.cps.toList.length ≤ 12) with
    | true => exact fun _ => of_decide_eq_true q
    | false => simp
  · have := List.all_eq_true.mp al y hy
    simp only [small, digit, Bool.or_eq_true, Bool.and_eq_true, decide_eq_true_eq] at this
    omega
theorem str_of_text (x : Str) (h : x.length ≤ 12) (hs : ∀ c ∈ x.cps.toList, c < 128) : (PyData.str x).canLay0 = true ∧ (PyData.str x).shown.length ≤ 12 * tb (.str x) := by
  refine ⟨?_, ?_⟩
  · show x.cps.all (· < 0x110000) = true
    rw [← Array.all_toList]
    refine List.all_eq_true.mpr fun c hc => decide_eq_true ?_
    have := hs c hc
    omega
  · rw [PyData.shown_str]
    have q := StrLaws.reprText_len x fun c hc => by have := hs c hc; omega
    simp only [tb]
    omega
theorem app_len (x y : Str) : (x ++ y).length = x.length + y.length := by
  rw [len_cps, len_cps, len_cps]
  have q := congrArg List.length (TL.tl_append x y)
  rw [List.length_append] at q
  exact q
theorem join2 : ∀ (ts : List Str), (Str.join ", " ts).length ≤ (ts.map (·.length)).sum + 2 * ts.length
  | [] => Nat.le_refl _
  | [x] => by
    show x.length ≤ _
    simp
  | x :: y :: r => by
    have ih := join2 (y :: r)
    show (x ++ ", " ++ Str.join ", " (y :: r)).length ≤ _
    have e : (x ++ ", " ++ Str.join ", " (y :: r)).length = x.length + 2 + (Str.join ", " (y :: r)).length := by
      rw [app_len, app_len]
      rfl
    rw [e]
    simp only [List.map_cons, List.sum_cons, List.length_cons] at ih ⊢
    omega
theorem of_text : ∀ (d : PyData) (t : List Nat), lawW d = some t → Of d t := by
  intro d
  refine PyData.rec (motive_1 := fun d => ∀ t, lawW d = some t → Of d t) (motive_2 := fun xs => ∀ (f : Bool) t, lawSep f xs = some t → OfA xs t ∧ (f = false → tbA xs ≤ 2 * t.length ∧ wsizeA xs ≤ 2 * t.length) ∧ ∀ N n, (f = true → n = 0) → mx n t ≤ N → intBA N xs) (motive_3 := fun _ => True) (motive_4 := fun _ => True) ?_ ?_ ?_ ?_ ?_ ?_ ?_ ?_ ?_ ?_ ?_ ?_ d
  · intro t h; rw [lawW] at h; cases h
  · intro b t h
    rw [lawW] at h
    cases h
    cases b
    · exact ⟨by decide, by decide, trivial, by decide, rfl, by decide +kernel, fun _ _ => trivial, by decide⟩
    · exact ⟨by decide, by decide, trivial, by decide, rfl, by decide +kernel, fun _ _ => trivial, by decide⟩
  · intro i t h
    rw [lawW] at h
    cases h
    have l1 : 1 ≤ (istr i).length := by
      obtain ⟨c, r, e, _⟩ := istr_head i
      rw [e]
      exact Nat.succ_le_succ (Nat.zero_le _)
    have ns : nosep (istr i) := fun c hc => (atomSign_no (istr_signs i c hc)).1
    refine ⟨?_, ?_, trivial, Nat.zero_le _, rfl, ?_, fun N hN => ?_, l1⟩
    · simp only [tb]; omega
    · show 1 ≤ _; omega
    · rw [PyData.shown_int, len_cps]
      simp only [tb]
      show (istr i).length ≤ _
      omega
    · rw [mx_nosep 0 _ ns] at hN
      exact Nat.lt_of_lt_of_le (istr_big i) (Nat.pow_le_pow_right (by decide) (by omega))
  · intro x t h
    rw [lawW] at h
    by_cases q : wordL x.cps.toList = true
    · rw [if_pos q] at h
      cases h
      obtain ⟨w1, w2⟩ := word_small q
      obtain ⟨s1, s2⟩ := str_of_text x w1 w2
      have l1 : 1 ≤ x.cps.toList.length := by
        obtain ⟨c, r, e, _⟩ := wordL_cons q
        rw [e]
        exact Nat.succ_le_succ (Nat.zero_le _)
      have len := len_cps x
      refine ⟨?_, ?_, ?_, Nat.zero_le _, s1, s2, fun _ _ => trivial, l1⟩
      · simp only [tb]; omega
      · show 1 ≤ _; omega
      · show x.length ≤ 100000; omega
    · rw [if_neg q] at h
      by_cases q2 : x.cps.toList = []
      · rw [if_pos q2] at h
        cases h
        have len := len_cps x
        rw [q2] at len
        obtain ⟨s1, s2⟩ := str_of_text x (by rw [len]; decide) (by rw [q2]; intro c hc; cases hc)
        refine ⟨?_, by show 1 ≤ 2; decide, ?_, Nat.zero_le _, s1, s2, fun _ _ => trivial, by show 1 ≤ 1; decide⟩
        · simp only [tb]
          show _ ≤ 2
          rw [len]
          decide
        · show x.length ≤ 100000
          rw [len]
          decide
      · rw [if_neg q2] at h
        cases h
  · intro xs _ t h; rw [lawW] at h; cases h
  · intro xs ih t h
    rw [lawW, Option.map_eq_some_iff] at h
    obtain ⟨r, hr, rfl⟩ := h
    obtain ⟨o, o2, o3⟩ := ih true r hr
    have lt : (91 :: (r ++ [93])).length = r.length + 2 := by simp
    refine ⟨?_, ?_, o.sa, ?_, by simpa only [PyData.canLay0] using o.lay, ?_, fun N hN => ?_, by rw [lt]; omega⟩
    · rw [lt]
      simp only [tb]
      have := o.tb_
      omega
    · rw [lt]
      simp only [wsize]
      have := o.ws
      omega
    · have e : cnt (91 :: (r ++ [93])) = cnt r + 1 := by
        unfold cnt
        rw [List.count_cons, List.count_append]
        simp
      rw [e]
      simp only [PyData.depth]
      have := o.dp
      omega
    · rw [PyData.shown_tuple, app_len, app_len]
      have j := join2 (PyData.shownAll xs)
      rw [PyData.shownAll_length] at j
      have s := o.sh
      have b1 : (("(" : String) : Str).length = 1 := by decide +kernel
      have b2 : (((if xs.length == 1 then ",)" else ")" : String) : Str)).length ≤ 2 := by
        split <;> decide +kernel
      simp only [tb]
      omega
    · have e : mx 0 (91 :: (r ++ [93])) = max 0 (mx 0 (r ++ [93])) := rfl
      rw [e, mx_app] at hN
      exact o3 N 0 (fun _ => rfl) (by omega)
  · intro xs _ t h; rw [lawW] at h; cases h
  · intro f t h
    rw [lawSep] at h
    cases h
    exact ⟨⟨by decide, by decide, trivial, Nat.le_refl _, by simp only [PyData.canLayAll0], by simp [PyData.shownAll, tbA]⟩, fun _ => ⟨by show 0 ≤ _; omega, by show 0 ≤ _; omega⟩, fun _ _ _ _ => trivial⟩
  · intro x xs i1 i2 f t h
    rw [lawSep_cons] at h
    cases e : lawW x with
    | none => rw [e] at h; cases h
    | some a =>
      cases e2 : lawSep false xs with
      | none => rw [e, e2] at h; cases h
      | some b =>
        rw [e, e2] at h
        cases h
        have o1 := i1 a e
        obtain ⟨o2, o4, o3⟩ := i2 false b e2
        obtain ⟨q1, q2⟩ := o4 rfl
        have p1 := o1.tb_
        have p2 := o1.ws
        have p3 := o1.dp
        have p4 := o2.dp
        have p5 := o1.sh
        have p6 := o2.sh
        have la : ((if f then [] else [44]) ++ (a ++ b)).length = (if f then 0 else 1) + (a.length + b.length) := by cases f <;> simp <;> omega
        have ca : cnt ((if f then [] else [44]) ++ (a ++ b)) = cnt a + cnt b := by cases f <;> simp [cnt]
        have ma : ∀ n, (f = true → n = 0) → mx 0 (a ++ b) ≤ mx n ((if f then [] else [44]) ++ (a ++ b)) := fun n hn => by
          cases f with
          | true => rw [hn rfl]; exact Nat.le_refl _
          | false => exact Nat.le_max_right _ _
        refine ⟨⟨?_, ?_, ⟨o1.sa, o2.sa⟩, ?_, ?_, ?_⟩, fun hf => ?_, fun N n hn hN => ?_⟩
        · rw [la]
          simp only [tbA]
          omega
        · rw [la]
          simp only [wsizeA]
          omega
        · rw [ca]
          simp only [PyData.depthAll]
          omega
        · simp only [PyData.canLayAll0, o1.lay, o2.lay, Bool.and_self]
        · simp only [PyData.shownAll, List.map_cons, List.sum_cons, List.length_cons, tbA]
          omega
        · rw [la, hf]
          simp only [tbA, wsizeA]
          refine ⟨?_, ?_⟩
          · show _ ≤ 2 * (1 + _)
            omega
          · show _ ≤ 2 * (1 + _)
            omega
        · have m1 := ma n hn
          have hN' : mx n ((if f then [] else [44]) ++ (a ++ b)) ≤ N := hN
          rw [mx_app] at m1
          exact ⟨o1.ib N (by omega), o3 N (tkl 0 a) (fun z => nomatch z) (by omega)⟩
  · trivial
  · intros; trivial
  · intros; trivial
end K53

set_option autoImplicit false
set_option Elab.async false
set_option linter.all false
set_option maxRecDepth 100000
set_option maxHeartbeats 4000000
set_option exponentiation.threshold 20000
namespace K53
open PySem PySem.Spec PyProof.Rows L2 KX Evl
/-! ### what the law asks of a datum and of an edited text -/
theorem pow500 : 10 ^ 500 ≤ 2 ^ 1920 := by decide +kernel
theorem lawSep_split {f : Bool} {x : PyData} {r : List PyData} {t : List Nat} (h : lawSep f (x :: r) = some t) : ∃ a b, lawW x = some a ∧ lawSep false r = some b ∧ t = (if f then [] else [44]) ++ (a ++ b) := by
  rw [lawSep_cons] at h
  cases e : lawW x with
  | none => rw [e] at h; cases h
  | some a =>
    cases e2 : lawSep false r with
    | none => rw [e, e2] at h; cases h
    | some b =>
      rw [e, e2] at h
      cases h
      exact ⟨a, b, rfl, rfl, rfl⟩
/-- facts that hold of data with a text, from parts -/
theorem text_rec {P : PyData → Prop} {Q : List PyData → Prop} (hb : ∀ b, P (.bool b)) (hi : ∀ i, P (.int i)) (hs : ∀ x t, lawW (.str x) = some t → P (.str x)) (ht : ∀ xs, Q xs → P (.tuple xs)) (hn : Q []) (hc : ∀ x r, P x → Q r → Q (x :: r)) :
    ∀ (d : PyData) (t : List Nat), lawW d = some t → P d := by
  intro d
  refine PyData.rec (motive_1 := fun d => ∀ t, lawW d = some t → P d) (motive_2 := fun xs => ∀ f t, lawSep f xs = some t → Q xs) (motive_3 := fun _ => True) (motive_4 := fun _ => True) ?_ ?_ ?_ ?_ ?_ ?_ ?_ ?_ ?_ ?_ ?_ ?_ d
  · intro t h; rw [lawW] at h; cases h
  · exact fun b _ _ => hb b
  · exact fun i _ _ => hi i
  · exact fun x t h => hs x t h
  · intro xs _ t h; rw [lawW] at h; cases h
  · intro xs ih t h
    rw [lawW, Option.map_eq_some_iff] at h
    obtain ⟨r, hr, rfl⟩ := h
    exact ht xs (ih true r hr)
  · intro xs _ t h; rw [lawW] at h; cases h
  · exact fun _ _ _ => hn
  · intro x r i1 i2 f t h
    obtain ⟨a, b, h1, h2, _⟩ := lawSep_split h
    exact hc x r (i1 a h1) (i2 false b h2)
  · trivial
  · intros; trivial
  · intros; trivial
theorem showable_of {d : PyData} {t : List Nat} (h : lawW d = some t) (hi : intB 500 d) : d.showable = true := by
  refine text_rec (P := fun d => intB 500 d → d.showable = true) (Q := fun xs => intBA 500 xs → PyData.showableAll xs = true) ?_ ?_ ?_ ?_ ?_ ?_ d t h hi
  · intros; simp only [PyData.showable]
  · intro i (h : i.natAbs < 10 ^ 500)
    simp only [PyData.showable]
    refine decide_eq_true ?_
    by_cases z : i.natAbs = 0
    · rw [z]; decide
    · exact (Nat.log2_lt z).mpr (Nat.lt_of_lt_of_le h pow500)
  · intros; simp only [PyData.showable]
  · intro xs ih (hi : intBA 500 xs)
    simp only [PyData.showable]
    exact ih hi
  · intros; simp only [PyData.showableAll]
  · intro x r i1 i2 (hi : intB 500 x ∧ intBA 500 r)
    simp only [PyData.showableAll, i1 hi.1, i2 hi.2, Bool.and_self]
theorem noList_of {d : PyData} {t : List Nat} (h : lawW d = some t) : noList d = true := by
  refine text_rec (P := fun d => noList d = true) (Q := fun xs => noListA xs = true) ?_ ?_ ?_ ?_ ?_ ?_ d t h
  · intros; rfl
  · intros; rfl
  · intros; rfl
  · exact fun xs ih => ih
  · rfl
  · intro x r i1 i2
    show (noList x && noListA r) = true
    rw [i1, i2]
    rfl
theorem wOk_of {d : PyData} {t : List Nat} (h : lawW d = some t) (hi : intB 4300 d) : ∀ lev, d.depth ≤ lev → wOk lev d := by
  refine text_rec (P := fun d => intB 4300 d → ∀ lev, d.depth ≤ lev → wOk lev d) (Q := fun xs => intBA 4300 xs → ∀ lev, PyData.depthAll xs ≤ lev → wOkA lev xs) ?_ ?_ ?_ ?_ ?_ ?_ d t h hi
  · intros; trivial
  · exact fun i h lev _ => h
  · intro x t h _ lev _
    have o := of_text (.str x) t h
    exact o.sa
  · intro xs ih (hi : intBA 4300 xs) lev hl
    simp only [PyData.depth] at hl
    exact ⟨by omega, ih hi (lev - 1) (by omega)⟩
  · intros; trivial
  · intro x r i1 i2 (hi : intB 4300 x ∧ intBA 4300 r) lev hl
    simp only [PyData.depthAll] at hl
    exact ⟨i1 hi.1 lev (by omega), i2 hi.2 lev (by omega)⟩
theorem big125 : big 125 = 10 ^ 4000 := by unfold big; rfl
/-- the program writes what the law writes -/
theorem wText_law {d : PyData} {t : List Nat} (h : lawW d = some t) (hi : intB 4000 d) : ∀ j, d.depth + j ≤ 1001 → wText j d = lawW d := by
  refine text_rec (P := fun d => intB 4000 d → ∀ j, d.depth + j ≤ 1001 → wText j d = lawW d) (Q := fun xs => intBA 4000 xs → ∀ j f, PyData.depthAll xs + j ≤ 1001 → wSep f j xs = lawSep f xs) ?_ ?_ ?_ ?_ ?_ ?_ d t h hi
  · intro b _ j _
    rw [lawW, wText]
    cases b <;> rfl
  · intro i (hi : i.natAbs < 10 ^ 4000) j _
    rw [lawW, wText]
    have e : isShort (.int i) = true := decide_eq_true (by rw [big125]; exact hi)
    show (if isShort (.int i) then some ((toString i : String) : Str) else none).map _ = _
    rw [if_pos e]
    rfl
  · intro x t h _ j _
    rw [lawW, wText]
    show (if isWord (.str x) then some x else if x = "" then some "." else none).map (fun z : Str => z.cps.toList) = _
    by_cases q : wordL x.cps.toList = true
    · rw [if_pos (show isWord (.str x) = true from q), if_pos q]
      rfl
    · rw [if_neg (show ¬ isWord (.str x) = true from q), if_neg q]
      by_cases q2 : x.cps.toList = []
      · have e : x = "" := by rw [← S_of x, q2]; rfl
        rw [if_pos e, if_pos q2]
        rfl
      · have e : ¬ x = "" := fun z => q2 (by rw [z]; rfl)
        rw [if_neg e, if_neg q2]
        rfl
  · intro xs ih (hi : intBA 4000 xs) j hj
    simp only [PyData.depth] at hj
    rw [lawW, wText_tup, if_pos (by omega), ih hi (j + 1) true (by omega)]
  · intro _ j f _
    rw [lawSep, wSep]
  · intro x r i1 i2 (hi : intB 4000 x ∧ intBA 4000 r) j f hj
    simp only [PyData.depthAll] at hj
    rw [lawSep_cons, wSep_cons, i1 hi.1 j (by omega), i2 hi.2 j false (by omega)]
def Lb : Nat → Nat | 0 => 41 | l + 1 => 3 * Lb l + 5
def Cb : Nat → Nat | 0 => 0 | l + 1 => 3 * Cb l + 1
def Zb : Nat → Nat | 0 => 1 | l + 1 => 3 * Zb l + 5
theorem Lb_mono : ∀ l, 41 ≤ Lb l
  | 0 => Nat.le_refl _
  | l + 1 => by have := Lb_mono l; simp only [Lb]; omega
theorem Zb_mono : ∀ l, 1 ≤ Zb l
  | 0 => Nat.le_refl _
  | l + 1 => by have := Zb_mono l; simp only [Zb]; omega
structure Gd (d : PyData) (lev : Nat) : Prop where
  ex : ∃ t, lawW d = some t ∧ t.length ≤ Lb lev ∧ cnt t ≤ Cb lev ∧ mx 0 t ≤ 41
  ws : wsize d ≤ Zb lev
structure GdA (xs : List PyData) (lev : Nat) : Prop where
  ex : ∀ f : Bool, ∃ t, lawSep f xs = some t ∧ t.length ≤ xs.length * (Lb lev + 1) ∧ cnt t ≤ xs.length * Cb lev ∧ ∀ n, n ≤ 41 → (f = true → n = 0) → mx n t ≤ 41
  ws : wsizeA xs ≤ xs.length * (Zb lev + 1)
theorem str_gd : ∀ x ∈ [S [97, 98, 122, 57], S [98, 122, 57], S [122, 57], S [97, 50, 51, 52, 53, 54, 55, 56, 57, 48, 49, 50], S []], ∃ t, lawW (.str x) = some t ∧ t.length ≤ 41 ∧ cnt t = 0 ∧ mx 0 t ≤ 41 := by
  intro x hx
  simp only [List.mem_cons, List.not_mem_nil, or_false] at hx
  rcases hx with rfl | rfl | rfl | rfl | rfl
  · exact ⟨[97, 98, 122, 57], by rw [lawW]; rfl, by decide, by decide, by decide⟩
  · exact ⟨[98, 122, 57], by rw [lawW]; rfl, by decide, by decide, by decide⟩
  · exact ⟨[122, 57], by rw [lawW]; rfl, by decide, by decide, by decide⟩
  · exact ⟨[97, 50, 51, 52, 53, 54, 55, 56, 57, 48, 49, 50], by rw [lawW]; rfl, by decide, by decide, by decide⟩
  · exact ⟨[46], by rw [lawW]; rfl, by decide, by decide, by decide⟩
theorem nosep_cnt {l : List Nat} (h : nosep l) : cnt l = 0 := by
  unfold cnt
  refine List.count_eq_zero.mpr fun m => ?_
  have := h 91 m
  exact nomatch this
theorem int_gd : ∀ i ∈ [0, -1, 7, i40, i20, 1000], (istr i).length ≤ 41 := by
  intro i hi
  simp only [List.mem_cons, List.not_mem_nil, or_false] at hi
  rcases hi with rfl | rfl | rfl | rfl | rfl | rfl <;> decide +kernel
theorem good_gd : ∀ {d : PyData} {lev : Nat}, goodD lev d → Gd d lev := by
  intro d
  refine PyData.rec (motive_1 := fun d => ∀ {lev : Nat}, goodD lev d → Gd d lev) (motive_2 := fun xs => ∀ {lev : Nat}, goodA lev xs → GdA xs lev) (motive_3 := fun _ => True) (motive_4 := fun _ => True) ?_ ?_ ?_ ?_ ?_ ?_ ?_ ?_ ?_ ?_ ?_ ?_ d
  · intro lev h; exact h.elim
  · intro b lev h
    have := Lb_mono lev
    refine ⟨⟨_, by rw [lawW], ?_, ?_, ?_⟩, Zb_mono lev⟩
    · cases b <;> (show 1 ≤ _; omega)
    · cases b <;> exact Nat.zero_le _
    · cases b <;> decide
  · intro i lev h
    have := Lb_mono lev
    have l41 := int_gd i h
    have ns : nosep (istr i) := fun c hc => (atomSign_no (istr_signs i c hc)).1
    refine ⟨⟨_, by rw [lawW], ?_, ?_, ?_⟩, Zb_mono lev⟩
    · omega
    · rw [nosep_cnt ns]; exact Nat.zero_le _
    · rw [mx_nosep 0 _ ns]; omega
  · intro x lev h
    have := Lb_mono lev
    obtain ⟨t, h1, h2, h3, h4⟩ := str_gd x h
    exact ⟨⟨t, h1, by omega, by omega, h4⟩, Zb_mono lev⟩
  · intro xs _ lev h; exact h.elim
  · intro xs ih lev h
    obtain ⟨l0, l3, ha⟩ : 0 < lev ∧ xs.length ≤ 3 ∧ goodA (lev - 1) xs := h
    obtain ⟨l, rfl⟩ : ∃ l, lev = l + 1 := ⟨lev - 1, by omega⟩
    have g := ih ha
    have e1 : l + 1 - 1 = l := rfl
    rw [e1] at g
    obtain ⟨t, h1, h2, h3, h4⟩ := g.ex true
    have b1 : xs.length * (Lb l + 1) ≤ 3 * (Lb l + 1) := Nat.mul_le_mul_right _ l3
    have b2 : xs.length * Cb l ≤ 3 * Cb l := Nat.mul_le_mul_right _ l3
    have b3 : xs.length * (Zb l + 1) ≤ 3 * (Zb l + 1) := Nat.mul_le_mul_right _ l3
    have gw := g.ws
    refine ⟨⟨91 :: (t ++ [93]), by rw [lawW, h1]; rfl, ?_, ?_, ?_⟩, ?_⟩
    · simp only [Lb, List.length_cons, List.length_append, List.length_nil]
      omega
    · have e : cnt (91 :: (t ++ [93])) = cnt t + 1 := by
        unfold cnt
        rw [List.count_cons, List.count_append]
        simp
      rw [e]
      simp only [Cb]
      omega
    · have e : mx 0 (91 :: (t ++ [93])) = max 0 (mx 0 (t ++ [93])) := rfl
      have q := h4 0 (by decide) (fun _ => rfl)
      have q2 := tkl_le 0 t
      rw [e, mx_app]
      have q3 : mx (tkl 0 t) [93] = max (tkl 0 t) 0 := rfl
      omega
    · simp only [wsize, Zb]
      omega
  · intro xs _ lev h; exact h.elim
  · intro lev h
    exact ⟨fun f => ⟨[], by rw [lawSep], Nat.zero_le _, Nat.zero_le _, fun n hn _ => hn⟩, Nat.zero_le _⟩
  · intro x r i1 i2 lev h
    obtain ⟨h1, h2⟩ : goodD lev x ∧ goodA lev r := h
    have g1 := i1 h1
    have g2 := i2 h2
    refine ⟨fun f => ?_, ?_⟩
    · obtain ⟨a, a1, a2, a3, a4⟩ := g1.ex
      obtain ⟨b, b1, b2, b3, b4⟩ := g2.ex false
      refine ⟨(if f then [] else [44]) ++ (a ++ b), by rw [lawSep_cons, a1, b1]; rfl, ?_, ?_, fun n hn hf => ?_⟩
      · have e : (x :: r).length * (Lb lev + 1) = r.length * (Lb lev + 1) + (Lb lev + 1) := Nat.succ_mul _ _
        rw [e]
        cases f <;> simp <;> omega
      · have e : (x :: r).length * Cb lev = r.length * Cb lev + Cb lev := Nat.succ_mul _ _
        rw [e, cnt_app, cnt_app]
        cases f <;> simp [cnt] at * <;> omega
      · have ab : mx 0 (a ++ b) ≤ 41 := by
          rw [mx_app]
          have q := b4 (tkl 0 a) (Nat.le_trans (tkl_le 0 a) a4) (fun z => nomatch z)
          omega
        cases f with
        | true => rw [hf rfl]; exact ab
        | false =>
          show max n (mx 0 (a ++ b)) ≤ 41
          omega
    · have e : (x :: r).length * (Zb lev + 1) = r.length * (Zb lev + 1) + (Zb lev + 1) := Nat.succ_mul _ _
      have q1 := g1.ws
      have q2 := g2.ws
      rw [e]
      simp only [wsizeA]
      omega
  · trivial
  · intros; trivial
  · intros; trivial
/-- what rRepr asks -/
structure Rp (d : PyData) : Prop where
  s : d.showable = true
  l : d.shown.length ≤ sizeLine
  d : d.depth ≤ 9000
theorem rp_none : Rp .none := ⟨by simp only [PyData.showable], by decide +kernel, Nat.zero_le _⟩
theorem rp_one {d : PyData} {t : List Nat} (h : lawW d = some t) (hi : intB 500 d) (hl : t.length ≤ 20000) (hc : cnt t ≤ 1000) : Rp (.list [d]) := by
  have o := of_text d t h
  refine ⟨by simp only [PyData.showable, PyData.showableAll, showable_of h hi, Bool.and_self], ?_, ?_⟩
  · rw [PyData.shown_list, app_len, app_len]
    have e : (Str.join ", " (PyData.shownAll [d])).length = d.shown.length := by simp only [PyData.shownAll]; rfl
    rw [e]
    have b1 : (("[" : String) : Str).length = 1 := by decide +kernel
    have b2 : (("]" : String) : Str).length = 1 := by decide +kernel
    rw [b1, b2]
    have q1 := o.sh
    have q2 := o.tb_
    show _ ≤ 2 ^ 24
    omega
  · simp only [PyData.depth, PyData.depthAll]
    have := o.dp
    omega
/-- of a drawn datum -/
structure D5 (d : PyData) (t : List Nat) : Prop where
  w : lawW d = some t
  len : t.length ≤ 10568
  c : cnt t ≤ 121
  m : mx 0 t ≤ 41
  wr : writeData d = some t
  wp : WPre d
  rd : readText t = some d
  ok : wOk 130 d
  tb_ : tb d ≤ 1000000
  rp : Rp (.list [d])
  nl : noList d = true
theorem good5 {d : PyData} (g : goodD 5 d) : ∃ t, D5 d t := by
  have gd := good_gd g
  obtain ⟨t, h1, h2, h3, h4⟩ := gd.ex
  have o := of_text d t h1
  have z := gd.ws
  have h2' : t.length ≤ 10568 := h2
  have h3' : cnt t ≤ 121 := h3
  have z' : wsize d ≤ 20000 := Nat.le_trans z (by decide)
  have dp := o.dp
  have wr : writeData d = some t := (wText_law h1 (o.ib 4000 (by omega)) 1 (by omega)).trans h1
  refine ⟨t, h1, h2', h3', h4, wr, ⟨z', o.sa, fun r hr => ?_⟩, ?_, wOk_of h1 (o.ib 4300 (by omega)) 130 (by omega), ?_, rp_one h1 (o.ib 500 (by omega)) (by omega) (by omega), noList_of h1⟩
  · rw [wr] at hr
    cases hr
    omega
  · rw [readers (lawW_59 h1) (by omega)]
    exact round h1 (o.ib 4000 (by omega))
  · have := o.tb_
    omega
/-- of an edited text -/
structure O5 (o : List Nat) : Prop where
  len : o.length ≤ 10569
  gap : gapOk o
  rd : readText o = lawRead o
  w : ∀ r, lawRead o = some r → lawW r = some o ∧ wOk 130 r ∧ tb r ≤ 1000000 ∧ Rp (.list [r])
theorem edit5 {d : PyData} {t m : List Nat} {i k : Nat} (h : D5 d t) (hm : m.length ≤ 1) (h59 : ¬ 59 ∈ m) (hi : i ≤ k) (hl : (t.take i ++ (m ++ t.drop k)).length ≤ t.length + 1) : O5 (t.take i ++ (m ++ t.drop k)) := by
  have mxo := mx_edit (i := i) (k := k) hm h.m
  have cno := cnt_edit (t := t) hm hi
  have l1 := h.len
  have l2 := h.c
  have n59 : ¬ 59 ∈ t.take i ++ (m ++ t.drop k) := fun z => by
    have w := lawW_59 h.w
    rcases List.mem_append.mp z with z | z
    · exact w (List.mem_of_mem_take z)
    rcases List.mem_append.mp z with z | z
    · exact h59 z
    · exact w (List.mem_of_mem_drop z)
  refine ⟨by omega, gap_of (by omega), readers n59 (by omega), fun r hr => ?_⟩
  have w := read_back n59 hr
  have o := of_text r _ w
  have dp := o.dp
  refine ⟨w, wOk_of w (o.ib 4300 (by omega)) 130 (by omega), ?_, rp_one w (o.ib 500 (by omega)) (by omega) (by omega)⟩
  have := o.tb_
  omega
end K53

set_option autoImplicit false
set_option Elab.async false
set_option linter.all false
set_option maxRecDepth 100000
set_option maxHeartbeats 4000000
set_option exponentiation.threshold 20000
namespace K53
open PySem PySem.Spec PyProof.Rows L2 KX Evl
/-! ### the law's fixed values -/
theorem mul_S (c n : Nat) (h : 2 ≤ n) : Txt.mul (S [c]) (n : Int) = S (List.replicate n c) := by
  unfold Txt.mul
  have h1 : ¬ ((n : Int) < 1) := by omega
  have h2 : ((n : Int) == 1 || (S [c]).length == 0) = false := by
    have e : (S [c]).length = 1 := S_len _
    have n1 : (n : Int) ≠ 1 := by omega
    rw [e]
    simp [n1]
  rw [if_neg h1, h2]
  have fold : ∀ (k : Nat) (acc : Array Nat), ((List.replicate k (#[c] : Array Nat)).foldl (· ++ ·) acc).toList = acc.toList ++ List.replicate k c := by
    intro k
    induction k with
    | zero => intro acc; simp
    | succ k ih =>
      intro acc
      rw [List.replicate_succ, List.foldl_cons, ih, List.replicate_succ]
      simp
  refine Str.ext' (Array.toList_inj.mp ?_)
  show ((List.replicate (n : Int).toNat (#[c] : Array Nat)).foldl (· ++ ·) #[]).toList = List.replicate n c
  rw [fold]
  simp
def bads : List PyData := [.none, .str "A", .str "+", .str "a b", .str "9a", .str "abcdefghijklm", .list [.int 1], .tuple [.int 1, .none], .tuple [.tuple [.none]], .list [.str "a"], .tuple [.str "a", .list []], .str "]", .tuple [.str "]"]]
theorem atom_none {x : Str} (h : wordL x.cps.toList = false) (h2 : (x.cps.toList == []) = false) (j : Nat) : wText j (.str x) = none := by
  rw [wText]
  show (if isWord (.str x) then some x else if x = "" then some "." else none).map (fun z : Str => z.cps.toList) = _
  have e : ¬ x = "" := fun z => by rw [z] at h2; exact nomatch h2
  rw [if_neg (show ¬ isWord (.str x) = true by show ¬ wordL x.cps.toList = true; rw [h]; decide), if_neg e]
  rfl
theorem bads_none : ∀ d ∈ bads, writeData d = none := by
  intro d hd
  simp only [bads, List.mem_cons, List.not_mem_nil, or_false] at hd
  unfold writeData
  rcases hd with rfl | rfl | rfl | rfl | rfl | rfl | rfl | rfl | rfl | rfl | rfl | rfl | rfl
  · rw [wText]
  · exact atom_none (by decide +kernel) (by decide +kernel) 1
  · exact atom_none (by decide +kernel) (by decide +kernel) 1
  · exact atom_none (by decide +kernel) (by decide +kernel) 1
  · exact atom_none (by decide +kernel) (by decide +kernel) 1
  · exact atom_none (by decide +kernel) (by decide +kernel) 1
  · rw [wText]
  · rw [wText_tup, if_pos (by decide), wSep_cons, wSep_cons, show wText (1 + 1) .none = none by rw [wText]]
    cases wText (1 + 1) (.int 1) <;> rfl
  · rw [wText_tup, if_pos (by decide), wSep_cons, wText_tup, if_pos (by decide), wSep_cons, show wText (1 + 1 + 1) .none = none by rw [wText]]
    rfl
  · rw [wText]
  · rw [wText_tup, if_pos (by decide), wSep_cons, wSep_cons, show wText (1 + 1) (.list []) = none by rw [wText]]
    cases wText (1 + 1) (.str "a") <;> rfl
  · exact atom_none (by decide +kernel) (by decide +kernel) 1
  · rw [wText_tup, if_pos (by decide), wSep_cons, atom_none (x := "]") (by decide +kernel) (by decide +kernel)]
    rfl
theorem bads_pre : ∀ d ∈ bads, WPre d := by
  intro d hd
  refine ⟨?_, ?_, fun r hr => by rw [bads_none d hd] at hr; cases hr⟩
  · simp only [bads, List.mem_cons, List.not_mem_nil, or_false] at hd
    rcases hd with rfl | rfl | rfl | rfl | rfl | rfl | rfl | rfl | rfl | rfl | rfl | rfl | rfl <;> simp [wsize, wsizeA]
  · simp only [bads, List.mem_cons, List.not_mem_nil, or_false] at hd
    rcases hd with rfl | rfl | rfl | rfl | rfl | rfl | rfl | rfl | rfl | rfl | rfl | rfl | rfl <;> simp [shortAll, shortAllA] <;> decide +kernel
def noreads : List PyData := [.none, .int 5, .tuple [.int 1], .str "", .str "[a][b]", .str "a,b", .str "[a"]
theorem noreads_none : ∀ d ∈ noreads, readData d = none := by
  intro d hd
  simp only [noreads, List.mem_cons, List.not_mem_nil, or_false] at hd
  rcases hd with rfl | rfl | rfl | rfl | rfl | rfl | rfl
  · rfl
  · rfl
  · rfl
  · decide +kernel
  · decide +kernel
  · decide +kernel
  · decide +kernel
end K53

set_option autoImplicit false
set_option Elab.async false
set_option linter.all false
set_option maxRecDepth 100000
set_option maxHeartbeats 4000000
set_option exponentiation.threshold 20000
namespace K53
open PySem PySem.Spec PyProof.Rows L2 KX Evl
theorem noreads_pre : ∀ d ∈ noreads, ReadPre d := by
  intro d hd
  simp only [noreads, List.mem_cons, List.not_mem_nil, or_false] at hd
  rcases hd with rfl | rfl | rfl | rfl | rfl | rfl | rfl
  · trivial
  · trivial
  · trivial
  all_goals (show _ ≤ 40000; decide +kernel)
/-! ### the long number -/
def nines (n : Nat) : List Nat := List.replicate n 57
theorem nines_val : ∀ n : Nat, NumText.digitsVal (nines n) + 1 = 10 ^ n
  | 0 => rfl
  | n + 1 => by
    have e : nines (n + 1) = nines n ++ [57] := List.replicate_succ'
    have ih := nines_val n
    rw [e, NumText.digitsVal_snoc, Nat.pow_succ]
    omega
@[irreducible] def N4 : Nat := NumText.digitsVal (nines 4000)
theorem N4_val : N4 + 1 = 10 ^ 4000 := by unfold N4; exact nines_val 4000
theorem nines_dig (n : Nat) : NumText.AllDigits (nines n) := fun c hc => by rw [List.eq_of_mem_replicate hc]; omega
theorem nines_ne : nines 4000 ≠ [] := fun e => by
  have := congrArg List.length e
  unfold nines at this
  rw [List.length_replicate] at this
  cases this
theorem nines_head : (nines 4000).take 1 = [57] := rfl
theorem istr_N4 : istr (N4 : Int) = nines 4000 := by
  rw [istr_nat]
  unfold N4
  exact numL_back (nines_dig 4000) nines_ne fun z => by rw [nines_head] at z; cases z
theorem N4_pos : 0 < N4 := by
  have q := N4_val
  have h : 2 ≤ 10 ^ 4000 := Nat.le_trans (show 2 ≤ 10 ^ 1 by decide) (Nat.pow_le_pow_right (by decide) (by decide))
  omega
theorem long_text : intText? (S (nines 4000)) = some (N4 : Int) ∧ ∀ c ∈ (S (nines 4000)).cps.toList, c ≠ 0 ∧ c < 128 := by
  refine ⟨?_, fun c hc => ?_⟩
  · unfold N4
    refine intText_digits (x := S (nines 4000)) (nines_dig 4000) nines_ne ?_
    rw [S_len]
    unfold nines
    rw [List.length_replicate]
    decide
  · have := nines_dig 4000 c hc
    omega
theorem long_w : writeData (.int (N4 : Int)) = some (nines 4000) := by
  have hi : intB 4000 (.int (N4 : Int)) := by
    show (N4 : Int).natAbs < 10 ^ 4000
    have q := N4_val
    omega
  have h : lawW (.int (N4 : Int)) = some (nines 4000) := by rw [lawW, istr_N4]
  exact (wText_law h hi 1 (by decide)).trans h
theorem nines_len : (nines 4000).length = 4000 := List.length_replicate
theorem long_wp : WPre (.int (N4 : Int)) := ⟨by show 1 ≤ 20000; decide, trivial, fun r hr => by
  rw [long_w] at hr
  cases hr
  rw [nines_len]
  decide⟩
theorem long_over : writeData (.int ((N4 : Int) + 1)) = none := by
  unfold writeData
  rw [wText]
  have e : isShort (.int ((N4 : Int) + 1)) = false := by
    refine decide_eq_false fun z => ?_
    rw [big125] at z
    have q := N4_val
    omega
  show (if isShort (.int ((N4 : Int) + 1)) then some _ else none).map _ = none
  rw [if_neg (by rw [e]; decide)]
  rfl
theorem long_over_p : WPre (.int ((N4 : Int) + 1)) := ⟨by show 1 ≤ 20000; decide, trivial, fun r hr => by rw [long_over] at hr; cases hr⟩
theorem nosep_nines (l : List Nat) (h : ∀ c ∈ l, atomSign c = true) : nosep l ∧ ¬ 59 ∈ l := ⟨fun c hc => (atomSign_no (h c hc)).1, fun m => (atomSign_no (h 59 m)).2 rfl⟩
theorem long_neg : readText (45 :: nines 4000) = some (.int (-(N4 : Int))) := by
  have hi : intB 4000 (.int (-(N4 : Int))) := by
    show (-(N4 : Int)).natAbs < 10 ^ 4000
    have q := N4_val
    omega
  have h : lawW (.int (-(N4 : Int))) = some (45 :: nines 4000) := by
    rw [lawW, istr_neg N4_pos, ← istr_nat, istr_N4]
  have sg := lawW_59 h
  have c0 : cnt (45 :: nines 4000) = 0 := nosep_cnt (nosep_nines _ fun c hc => by
    rcases List.mem_cons.mp hc with e | e
    · rw [e]; rfl
    · rw [List.eq_of_mem_replicate e]; rfl).1
  rw [readers sg (by rw [c0]; decide)]
  exact round h hi
theorem long_zero : readText (nines 4000 ++ [48]) = none := by
  have sg : ∀ c ∈ nines 4000 ++ [48], atomSign c = true := fun c hc => by
    rcases List.mem_append.mp hc with e | e
    · rw [List.eq_of_mem_replicate e]; rfl
    · rw [List.mem_singleton.mp e]; rfl
  obtain ⟨ns, n59⟩ := nosep_nines _ sg
  rw [readers n59 (by rw [nosep_cnt ns]; decide)]
  unfold lawRead
  rw [lRun_snoc, lRun_atom _ [] none [] sg]
  show (lStep ⟨[], none, nines 4000 ++ [48]⟩ 59).bind _ = none
  unfold lStep
  rw [if_pos (by decide)]
  have hd : (nines 4000 ++ [48]).take 1 = [57] := rfl
  have ra : readAtom (nines 4000 ++ [48]) = none := by
    unfold readAtom signOf
    have n1 : ∀ k, k ≠ 57 → ¬ nines 4000 ++ [48] = [k] := fun k hk z => by
      rw [z] at hd
      exact hk (List.cons.inj hd).1
    rw [if_neg (n1 43 (by decide)), if_neg (n1 45 (by decide)), if_neg (n1 46 (by decide))]
    have nw : ¬ wordL (nines 4000 ++ [48]) = true := fun q => by
      obtain ⟨c, r, e, sc, _⟩ := wordL_cons q
      rw [e] at hd
      have := (List.cons.inj hd).1
      subst this
      exact nomatch sc
    show (if wordL (nines 4000 ++ [48]) = true then _ else (readWhole (nines 4000 ++ [48])).map PyData.int) = none
    rw [if_neg nw]
    unfold readWhole
    have eb : bodyL (nines 4000 ++ [48]) = nines 4000 ++ [48] := by
      unfold bodyL
      rw [if_neg (by rw [hd]; decide)]
    have nk : ¬ wholeOk (nines 4000 ++ [48]) = true := fun q => by
      unfold wholeOk at q
      rw [eb] at q
      simp only [Bool.and_eq_true, decide_eq_true_eq] at q
      have := q.1.1.2
      rw [List.length_append, nines_len] at this
      exact absurd this (by decide)
    rw [if_neg nk]
    rfl
  have ne : ¬ nines 4000 ++ [48] = [] := fun z => by rw [z] at hd; cases hd
  have fl : lFlush ⟨[], none, nines 4000 ++ [48]⟩ = none := by
    unfold lFlush
    rw [if_neg ne, ra]
  rw [fl]
  rfl
/-! ### the deep tuples -/
def deepD : Nat → PyData
  | 0 => .tuple []
  | n + 1 => .tuple [deepD n]
def brk (n : Nat) : List Nat := List.replicate n 91 ++ List.replicate n 93
theorem deep_w : ∀ n, lawW (deepD n) = some (brk (n + 1))
  | 0 => by
    unfold deepD
    rw [lawW, lawSep]
    rfl
  | n + 1 => by
    unfold deepD
    rw [lawW, lawSep_cons, deep_w n, lawSep]
    show some (91 :: ([] ++ (brk (n + 1) ++ []) ++ [93])) = some (brk (n + 2))
    unfold brk
    congr 1
    rw [List.replicate_succ (n := n + 1) (a := 91), List.replicate_succ' (n := n + 1) (a := 93)]
    simp
theorem deep_depth : ∀ n, (deepD n).depth = n + 1
  | 0 => by unfold deepD; simp only [PyData.depth, PyData.depthAll]
  | n + 1 => by
    unfold deepD
    simp only [PyData.depth, PyData.depthAll, deep_depth n]
    omega
theorem deep_int : ∀ n, intB 4000 (deepD n)
  | 0 => trivial
  | n + 1 => (⟨deep_int n, trivial⟩ : intB 4000 (deepD n) ∧ intBA 4000 [])
theorem deep_size : ∀ n, wsize (deepD n) = 3 * n + 2
  | 0 => by unfold deepD; simp only [wsize, wsizeA]
  | n + 1 => by
    unfold deepD
    simp only [wsize, wsizeA, deep_size n]
    omega
theorem deep_short : ∀ n, shortAll (deepD n)
  | 0 => trivial
  | n + 1 => (⟨deep_short n, trivial⟩ : shortAll (deepD n) ∧ shortAllA [])
theorem deep_none : ∀ n j, 1001 ≤ n + j → wText j (deepD n) = none
  | 0, j, h => by
    unfold deepD
    rw [wText_tup, if_neg (by omega)]
  | n + 1, j, h => by
    unfold deepD
    rw [wText_tup]
    by_cases q : j ≤ 1000
    · rw [if_pos q, wSep_cons, deep_none n (j + 1) (by omega)]
      rfl
    · rw [if_neg q]
theorem deep_lay : ∀ n, (deepD n).canLay0 = true
  | 0 => by unfold deepD; simp only [PyData.canLay0, PyData.canLayAll0]
  | n + 1 => by unfold deepD; simp only [PyData.canLay0, PyData.canLayAll0, deep_lay n, Bool.and_self]
theorem deep_wr : writeData (deepD 999) = some (brk 1000) := (wText_law (deep_w 999) (deep_int 999) 1 (by rw [deep_depth]; decide)).trans (deep_w 999)
theorem brk_len (n : Nat) : (brk n).length = 2 * n := by
  unfold brk
  rw [List.length_append, List.length_replicate, List.length_replicate]
  omega
theorem deep_wp : WPre (deepD 999) := ⟨by rw [deep_size]; decide, deep_short 999, fun r hr => by
  rw [deep_wr] at hr
  cases hr
  rw [brk_len]
  decide⟩
theorem deep_over : writeData (deepD 1000) = none := deep_none 1000 1 (by decide)
theorem deep_over_p : WPre (deepD 1000) := ⟨by rw [deep_size]; decide, deep_short 1000, fun r hr => by rw [deep_over] at hr; cases hr⟩
theorem brk_cnt (n : Nat) : cnt (brk n) = n := by
  unfold brk cnt
  rw [List.count_append, List.count_replicate, List.count_replicate]
  simp
theorem brk_59 (n : Nat) : ¬ 59 ∈ brk n := fun m => by
  rcases List.mem_append.mp m with z | z
  · exact absurd (List.eq_of_mem_replicate z) (by decide)
  · exact absurd (List.eq_of_mem_replicate z) (by decide)
theorem brk_read : readText (brk 1000) = some (deepD 999) := by
  rw [readers (brk_59 1000) (by rw [brk_cnt]; decide)]
  exact round (deep_w 999) (deep_int 999)
theorem pRun_seps : ∀ l : List Nat, (∀ c ∈ l, sep c = true) → ∀ p, l.foldl pStep (p, []) = (p ++ l.map fun c => [c], [])
  | [], _, p => by simp
  | c :: r, h, p => by
    show r.foldl pStep (pStep (p, []) c) = _
    have e : pStep (p, []) c = (p ++ [[c]], []) := by
      unfold pStep
      rw [if_pos (h c (List.mem_cons_self ..)), if_pos rfl]
    rw [e, pRun_seps r (fun x hx => h x (List.mem_cons_of_mem _ hx))]
    simp
theorem rRun_opens : ∀ k, k ≤ 1000 → rRun s0 (List.replicate k [91]) = some ⟨List.replicate k [], true, []⟩
  | 0, _ => rfl
  | k + 1, h => by
    rw [List.replicate_succ', rRun_snoc, rRun_opens k (by omega)]
    show rOpen ⟨List.replicate k [], true, []⟩ = _
    unfold rOpen
    have e : (true && decide ((List.replicate k ([] : List PyData)).length < 1000)) = true := by
      rw [List.length_replicate]
      exact decide_eq_true (by omega)
    rw [if_pos e]
    rfl
theorem brk_over : readText (brk 1001) = none := by
  have hs : ∀ c ∈ brk 1001, sep c = true := fun c m => by
    rcases List.mem_append.mp m with z | z
    · rw [List.eq_of_mem_replicate z]; rfl
    · rw [List.eq_of_mem_replicate z]; rfl
  have pr : pRun (brk 1001) = ((brk 1001).map fun c => [c], []) := pRun_seps _ hs []
  have e : pieces (brk 1001) = List.replicate 1000 [91] ++ ([91] :: (List.replicate 1001 [93])) := by
    unfold pieces
    rw [pr]
    unfold brk
    rw [if_pos rfl, List.append_nil, List.map_append, List.map_replicate, List.map_replicate, List.replicate_succ' (n := 1000) (a := [91])]
    simp
  unfold readText
  have r1 : rRun s0 (List.replicate 1000 [91] ++ [[91]]) = none := by
    rw [rRun_snoc, rRun_opens 1000 (Nat.le_refl _)]
    show rOpen ⟨List.replicate 1000 [], true, []⟩ = none
    unfold rOpen
    have e : ¬ (true && decide ((List.replicate 1000 ([] : List PyData)).length < 1000)) = true := by
      rw [List.length_replicate]
      decide
    rw [if_neg e]
  have e2 : List.replicate 1000 [91] ++ ([91] :: (List.replicate 1001 [93])) = (List.replicate 1000 [91] ++ [[91]]) ++ List.replicate 1001 [93] := by simp
  rw [e, e2, show rRun ⟨[], true, []⟩ ((List.replicate 1000 [91] ++ [[91]]) ++ List.replicate 1001 [93]) = none from rRun_none _ _ _ r1]
  rfl
end K53

set_option autoImplicit false
set_option Elab.async false
set_option linter.all false
set_option maxRecDepth 100000
set_option maxHeartbeats 4000000
namespace K53
open PySem PySem.Spec PyProof.Rows L2 KX Evl
/-! ### evaluating data -/
section
variable {K : PySem.W.Frag} {σ : L2.St} {H : Hp}
/-- evaluates to some datum; to a new list of data -/
def EvDt (K : PySem.W.Frag) (te : TE) (σ : L2.St) (H : Hp) (d : PyData) : Prop := ∀ H1, Ex H H1 → ∀ Q : VK, (∀ v H2, Ex H1 H2 → Dp K H2 v d → Q v H2) → te σ H1 Q
def EvDs (K : PySem.W.Frag) (ta : TA) (σ : L2.St) (H : Hp) (ds : List PyData) : Prop := ∀ H1, Ex H H1 → ∀ Q : List V → Hp → Prop, (∀ vs H2, Ex H1 H2 → DpAll K H2 vs ds → Q vs H2) → ta σ H1 Q
def EvDl (K : PySem.W.Frag) (te : TE) (σ : L2.St) (H : Hp) (ds : List PyData) : Prop := ∀ H1, Ex H H1 → ∀ Q : VK, (∀ p vs H2, H1 p = none → Ex H1 H2 → H2 p = some (.lst vs) → DpAll K H2 vs ds → Q (.ref p) H2) → te σ H1 Q
theorem ed_v {te : TE} {v : V} {d : PyData} (h : Ev te σ H v) (hd : ∀ H2, Ex H H2 → Dp K H2 v d) : EvDt K te σ H d := fun H1 e Q q => h H1 e _ fun H2 e2 => q v H2 e2 (hd H2 (e.trans e2))
theorem ed_non : EvDt K (tC .non) σ H .none := ed_v ev_c fun _ _ => .non
theorem ed_int {i : Int} : EvDt K (tC (.int i)) σ H (.int i) := ed_v ev_c fun _ _ => .int i
theorem ed_str {x : Str} : EvDt K (tC (.str x)) σ H (.str x) := ed_v ev_c fun _ _ => .str x
theorem es_nil : EvDs K tNil σ H [] := fun H1 e Q q => q [] H1 (Ex.refl _) .nil
theorem es_cons {te : TE} {ta : TA} {d : PyData} {ds : List PyData} (h : EvDt K te σ H d) (hs : EvDs K ta σ H ds) : EvDs K (tCons te ta) σ H (d :: ds) := fun H1 e Q q =>
  h H1 e _ fun v H2 e2 dv => hs H2 (e.trans e2) _ fun vs H3 e3 dvs => q (v :: vs) H3 (e2.trans e3) (.cons (dp_mono e3 dv) dvs)
theorem edl {ta : TA} {ds : List PyData} (h : EvDs K ta σ H ds) (hl : ds.length ≤ 100000) : EvDl K (tLst ta) σ H ds := fun H1 e Q q =>
  h H1 e _ fun vs H2 e2 dvs => ⟨by rw [dpa_len dvs]; exact sz_of hl, fun p hp => q p vs _ (fresh_back e2 hp) (e2.trans (Ex.new hp)) upd_same (dpa_mono (Ex.new hp) dvs)⟩
theorem ed_lst {ta : TA} {ds : List PyData} (h : EvDs K ta σ H ds) (hl : ds.length ≤ 100000) : EvDt K (tLst ta) σ H (.list ds) := fun H1 e Q q =>
  edl h hl H1 e _ fun p vs H2 _ e2 hp dvs => q _ H2 e2 (.lst (sq_of hp) dvs)
theorem ed_tup {ta : TA} {ds : List PyData} (h : EvDs K ta σ H ds) (hl : ds.length ≤ 100000) : EvDt K (tTup ta) σ H (.tuple ds) := fun H1 e Q q =>
  h H1 e _ fun vs H2 e2 dvs => ⟨by rw [dpa_len dvs]; exact sz_of hl, fun p hp => q _ _ (e2.trans (Ex.new hp)) (.tup (st_of upd_same) (dpa_mono (Ex.new hp) dvs))⟩
/-- what _law_told tells, as data -/
def tolD : Option PyData → PyData
  | some r => .list [r]
  | none => .none
/-- _law_told(0, data) -/
theorem el_told0 {ta : TE} {E : XK} {d : PyData} {t : List Nat} (ha : EvDt K ta σ H d) (wp : WPre d) (hw : writeData d = some t) : EvL (tCall (spTold K) [] E (tCons (tC (.int 0)) (tCons ta tNil))) σ H [strV t] := fun H1 e Q q =>
  ha H1 e _ fun v H2 e2 dv => ⟨v, d, dv, .inl ⟨rfl, wp, fun t' ht p H3 hp e3 h3 => by rw [hw] at ht; cases ht; exact q p H3 (fresh_back e2 hp) (e2.trans e3) h3, fun hn => by rw [hw] at hn; cases hn⟩⟩
theorem ev_told0 {ta : TE} {E : XK} {d : PyData} (ha : EvDt K ta σ H d) (wp : WPre d) (hw : writeData d = none) : Ev (tCall (spTold K) [] E (tCons (tC (.int 0)) (tCons ta tNil))) σ H .non := fun H1 e Q q =>
  ha H1 e _ fun v H2 e2 dv => ⟨v, d, dv, .inl ⟨rfl, wp, fun t' ht => by rw [hw] at ht; (cases ht), fun _ H3 e3 => q H3 (e2.trans e3)⟩⟩
/-- _law_told(1, value) -/
theorem ev_told1 {ta : TE} {E : XK} {d : PyData} (ha : EvDt K ta σ H d) (rp : ReadPre d) (hw : readData d = none) : Ev (tCall (spTold K) [] E (tCons (tC (.int 1)) (tCons ta tNil))) σ H .non := fun H1 e Q q =>
  ha H1 e _ fun v H2 e2 dv => ⟨v, d, dv, .inr ⟨rfl, rp, fun t' ht => by rw [hw] at ht; (cases ht), fun _ H3 e3 => q H3 (e2.trans e3)⟩⟩
theorem ed_told1 {ta : TE} {E : XK} {d : PyData} (ha : EvDt K ta σ H d) (rp : ReadPre d) : EvDt K (tCall (spTold K) [] E (tCons (tC (.int 1)) (tCons ta tNil))) σ H (tolD (readData d)) := fun H1 e Q q =>
  ha H1 e _ fun v H2 e2 dv => ⟨v, d, dv, .inr ⟨rfl, rp, fun t' ht u p H3 hp e3 h3 du => by rw [ht] at q; exact q _ H3 (e2.trans e3) (.lst (sq_of h3) (dpa_one du.1)), fun hn H3 e3 => by rw [hn] at q; exact q _ H3 (e2.trans e3) .non⟩⟩
/-- repr -/
theorem ev_repr {ta : TE} {d : PyData} (ha : EvDt K ta σ H d) (r : Rp d) : Ev (tCB (rRepr K) (tCons ta tNil)) σ H (.str d.shown) := fun H1 e Q q =>
  ha H1 e _ fun v H2 e2 dv => ⟨v, d, rfl, dv, r.s, r.l, r.d, q H2 e2⟩
theorem rv_neV {H : Hp} {x y : Str} (e : x = y) : RV rNe (.str x) (.str y) H (.bl false) := rv_bl (rv_ne rfl) (by rw [e]; simp)
theorem rv_notN {v : V} {H : Hp} {b : Bool} (e : (!decide (v = .non)) = b) : RV (fun x y H Q => y = .non ∧ Q (.bl (!decide (x = .non))) H) v .non H (.bl b) := fun H1 _ Q q => ⟨rfl, by rw [e]; exact q H1 (Ex.refl _)⟩
theorem rv_isN {v : V} {H : Hp} {b : Bool} (e : decide (v = .non) = b) : RV (fun x y H Q => y = .non ∧ Q (.bl (decide (x = .non))) H) v .non H (.bl b) := fun H1 _ Q q => ⟨rfl, by rw [e]; exact q H1 (Ex.refl _)⟩
/-- a datum is told of, and it is not None -/
theorem ed_notN {ta tb : TE} {d : PyData} {b : Bool} (ha : EvDt K ta σ H d) (hd : d ≠ .none) : Ev (tOp (fun x y H Q => y = .non ∧ Q (.bl (!decide (x = .non))) H) ta (tC .non)) σ H (.bl true) := fun H1 e Q q =>
  ha H1 e _ fun v H2 e2 dv => ⟨rfl, by
    have n : ¬ v = .non := fun z => by
      subst z
      cases dv
      exact hd rfl
    rw [decide_eq_false n]
    exact q H2 e2⟩
theorem ed_isN {ta : TE} {d : PyData} (ha : EvDt K ta σ H d) (hd : d ≠ .none) : Ev (tOp (fun x y H Q => y = .non ∧ Q (.bl (decide (x = .non))) H) ta (tC .non)) σ H (.bl false) := fun H1 e Q q =>
  ha H1 e _ fun v H2 e2 dv => ⟨rfl, by
    have n : ¬ v = .non := fun z => by
      subst z
      cases dv
      exact hd rfl
    rw [decide_eq_false n]
    exact q H2 e2⟩
/-- [text] != [text] -/
theorem rv_neL {p q : Addr} {x y : Str} {H : Hp} (hp : H p = some (.lst [.str x])) (hq : H q = some (.lst [.str y])) (e : x = y) (ok : (PyData.str x).canLay0 = true) : RV (rNeX K) (.ref p) (.ref q) H (.bl false) := fun H1 ex Q k => by
  subst e
  have lay : (PyData.list [.str x]).canLay0 = true := by
    simp only [PyData.canLay0, PyData.canLayAll0, Bool.and_true]
    simpa only [PyData.canLay0] using ok
  refine ⟨.list [.str x], .list [.str x], .lst (sq_of (ex _ _ hp)) (dpa_one (.str x)), .lst (sq_of (ex _ _ hq)) (dpa_one (.str x)), lay, lay, ?_, ?_⟩
  · have : (PyData.list [.str x]).depth = 1 := by simp only [PyData.depth, PyData.depthAll]; rfl
    rw [this]
    decide
  · rw [SeqAt.eqv_refl _ lay]
    exact k H1 (Ex.refl _)
/-- over a new list of data; what is within adds to the heap only -/
theorem s_forD {tl : TE} {j : Nat} {tb : TS} {D : Ends} {ds : List PyData} (h : EvDl K tl σ H ds) (Sv : Nat → L2.St → Prop) (h0 : Sv 0 σ)
    (hs : ∀ H1, Ex H H1 → ∀ i v d σ' H', ds[i]? = some d → Ex H1 H' → Sv i σ' → Dp K H' v d → tb { D with nx := fun s h => Ex H1 h ∧ Sv (i + 1) s, ct := fun s h => Ex H1 h ∧ Sv (i + 1) s, bk := D.nx } (σ'.set j (some v)) H')
    (hd : ∀ σ' H', Ex H H' → Sv ds.length σ' → D.nx σ' H') : tFor (iList K tl) (gName j) tb D σ H :=
  h H (Ex.refl H) _ fun p vs H1 hp e h1 dvs => ⟨p, rfl, ⟨vs, sq_of h1⟩, for_list (fun i s h => Ex H1 h ∧ Sv i s) ⟨Ex.refl _, h0⟩ (fun i s h _ q => sq_of (q.1 _ _ h1)) (fun i x s h hx q => by
    have hi : i < ds.length := by rw [← dpa_len dvs]; exact (List.getElem?_eq_some_iff.mp hx).1
    obtain ⟨u, hu, hud⟩ := dpa_get dvs (List.getElem?_eq_getElem hi)
    rw [hx] at hu
    cases hu
    exact hs H1 e i _ _ s h (List.getElem?_eq_getElem hi) q.1 q.2 (dp_mono q.1 hud)) (fun s h q => hd s h (e.trans q.1) (by rw [← dpa_len dvs]; exact q.2))⟩
theorem q_forD {tl : TE} {j : Nat} {tb tz : TS} {D : Ends} {ds : List PyData} (h : EvDl K tl σ H ds) (Sv : Nat → L2.St → Prop) (h0 : Sv 0 σ)
    (hs : ∀ H1, Ex H H1 → ∀ i v d σ' H', ds[i]? = some d → Ex H1 H' → Sv i σ' → Dp K H' v d → tb { D with nx := fun s h => Ex H1 h ∧ Sv (i + 1) s, ct := fun s h => Ex H1 h ∧ Sv (i + 1) s, bk := tz D } (σ'.set j (some v)) H')
    (hd : ∀ σ' H', Ex H H' → Sv ds.length σ' → tz D σ' H') : tSeq (tFor (iList K tl) (gName j) tb) tz D σ H := s_forD (D := { D with nx := tz D }) h Sv h0 hs hd
/-- a comprehension over a new list of data -/
theorem el_lcD {tl te : TE} {j : Nat} {vs : List Nat} {ds : List PyData} (f : Nat → V) (h : EvDl K tl σ H ds) (hz : ds.length ≤ 40000) (hw : ∀ x, wipe ((wipe σ vs).set j (some x)) vs = wipe σ vs)
    (he : ∀ (i : Nat) v d H1, Ex H H1 → ds[i]? = some d → Dp K H1 v d → Ev te ((wipe σ vs).set j (some v)) H1 (f i)) : EvL (tLc (iList K tl) (gName j) tYes te vs) σ H ((List.range ds.length).map f) := fun H1 e1 Q q => h H1 e1 _ fun p ws H2 hp e2 h2 dvs => ⟨p, rfl, ⟨ws, sq_of h2⟩, by
  rw [← dpa_len dvs] at q
  refine lcE (H0 := H2) (walk_list (xs := ws)) (fun _ e3 => sq_of (e3 _ _ h2)) (fun i => ws.getD i .non) f (fun i Ha x Hb hi y => ?_) (by rw [dpa_len dvs]; exact sz_of (by omega)) hw (fun i H3 e3 hi => ?_) (fun D H3 hD e3 h3 => q D H3 (fresh_back e2 hD) (e2.trans e3) h3)
  · refine ⟨y.1, ?_⟩
    rw [List.getD_eq_getElem?_getD, y.2]
    rfl
  · have hi' : i < ds.length := by rw [← dpa_len dvs]; exact hi
    obtain ⟨u, hu, hud⟩ := dpa_get dvs (List.getElem?_eq_getElem hi')
    rw [List.getD_eq_getElem?_getD, hu]
    exact he i u _ H3 ((e1.trans e2).trans e3) (List.getElem?_eq_getElem hi') (dp_mono e3 hud)⟩
/-- [None] * n -/
theorem el_rep {ta tb : TE} {xs : List V} {n : Nat} (ha : EvL ta σ H xs) (hb : Ev tb σ H (.int (n : Int))) (hn : xs.length * n ≤ 100000 ∧ n < 100000) : EvL (tOp rRep ta tb) σ H (List.replicate n xs).flatten := fun H1 e Q q =>
  ha H1 e _ fun p H2 hp e2 h2 => hb H2 (e.trans e2) _ fun H3 e3 => ⟨p, (n : Int), xs, rfl, rfl, e3 _ _ h2, by omega, by omega, sz_of hn.1, fun r hr => q r _ (fresh_back (e2.trans e3) hr) ((e2.trans e3).trans (Ex.new hr)) upd_same⟩
end
end K53

set_option autoImplicit false
set_option Elab.async false
set_option linter.all false
set_option maxRecDepth 100000
set_option maxHeartbeats 8000000
namespace K53
open PySem PySem.Spec PyProof.Rows L2 KX Evl
/-! ### the law -/
theorem sc_law : FnScope ["script", "draw", "turn", "data", "text", "again", "i", "sign", "other", "due", "bad", "long", "deep", "value"] ["script"] (defScope s_law) := ⟨rfl, rfl, rfl, by decide +kernel, rfl, by decide +kernel, by decide +kernel⟩
theorem text_lay {d : PyData} {t : List Nat} (h : lawW d = some t) : (PyData.str (S t)).canLay0 = true := by
  show (S t).cps.all (· < 0x110000) = true
  rw [← Array.all_toList]
  refine List.all_eq_true.mpr fun c hc => decide_eq_true ?_
  rcases lawW_signs h c hc with q | q
  · unfold sep at q
    simp only [Bool.or_eq_true, decide_eq_true_eq] at q
    omega
  · simp only [atomSign, small, digit, Bool.or_eq_true, Bool.and_eq_true, decide_eq_true_eq] at q
    omega
theorem ed_if {K : PySem.W.Frag} {σ : L2.St} {H : Hp} {t : TT} {ta tb : TE} {d : PyData} {b : Bool} (h : EvT t σ H b) (h1 : b = true → EvDt K ta σ H d) (h2 : b = false → EvDt K tb σ H d) : EvDt K (tIf t ta tb) σ H d := fun H1 e Q q => h H1 e _ fun H2 e2 => by
  cases b with
  | true => exact iteT (h1 rfl H2 (e.trans e2) Q fun v H3 e3 => q v H3 (e2.trans e3))
  | false => exact iteF (h2 rfl H2 (e.trans e2) Q fun v H3 e3 => q v H3 (e2.trans e3))
def signsL : List Nat := [91, 93, 44, 97, 48, 45, 49, 32, 65, 43, 46]
theorem room141 : Room 141 callerA := ⟨rfl, by decide +kernel, by decide +kernel⟩
theorem fin53 {w : World} {K : PySem.W.Frag} {mg : Str → Option Value} {fa a0 : Addr} {ns : List Int} {s₁ : Shared} (h : ∃ A, Txt w K mg A) (hmg : mg "law" = some (.ref fa)) (hlen : ns.length ≤ 63) (hb : ∀ z ∈ ns, Builtin.Int.intBits z ≤ 1048576) :
    AtCaller PySem.Challenge.rw_kindredtold_k53_whole_plain_data.prog w K mg fa a0 ns s₁ := by
  obtain ⟨A, T⟩ := h
  have efa : fa = A.f_law := by
    have q := T.m_law
    rw [hmg] at q
    injection q with q
    injection q
  subst efa
  intro base H hB hns e0 hs
  refine run_at (k := 140) T.F_law sc_law room141 e0 (T.b_law _ _ (e0.mod.kin.keeps fun b o e => (e0.bs b o e).1) rfl) (vs := [.ref a0]) (.cons rfl .nil) rfl fun cdv hr => ?_
  have nd := sc_law.nd
  have hgd : (callerA.deeper (envOfC "law" (defScope s_law) s₁.heap.objs.size A.f_law cdv)).guards = some [] := rfl
  have hurep : (callerA.deeper (envOfC "law" (defScope s_law) s₁.heap.objs.size A.f_law cdv)).units + 9100 < cLine := by show callerA.units + 3 + 9100 < cLine; decide +kernel
  have G_law_draw := (ok_draw (P := PySem.Challenge.rw_kindredtold_k53_whole_plain_data.prog) (base := base) T).mono (show 1 ≤ 140 by decide)
  have hr_law_draw := hr
  have G_law_data := (ok_data (P := PySem.Challenge.rw_kindredtold_k53_whole_plain_data.prog) (base := base) T 5).mono (show 7 ≤ 140 by decide)
  have hr_law_data := hr
  have G_law_written := (ok_written (P := PySem.Challenge.rw_kindredtold_k53_whole_plain_data.prog) (base := base) T 130).mono (show 132 ≤ 140 by decide)
  have hr_law_written := hr
  have G_law_told := (ok_told (P := PySem.Challenge.rw_kindredtold_k53_whole_plain_data.prog) (base := base) T).mono (show 5 ≤ 140 by decide)
  have hr_law_told := hr
  have G_law_take := (ok_take_ (P := PySem.Challenge.rw_kindredtold_k53_whole_plain_data.prog) (base := base) T).mono (show 1 ≤ 140 by decide)
  have hr_law_take := hr
  have G_law_read := (ok_read_ (P := PySem.Challenge.rw_kindredtold_k53_whole_plain_data.prog) (base := base) T).mono (show 2 ≤ 140 by decide)
  have hr_law_read := hr
  refine ⟨_, (pss_cons (ps_set (i := 1) nd rfl (Or.inl rfl) (pe_call G_law_draw hr_law_draw (by rfl) T.m_law_draw T.F_law_draw.kp T.b_law_draw .nil pass0 (pa_cons (pv 0) pa_nil)))
      (pss_cons (ps_for PassesOwn.never (by rfl) (pi_range1 (by rfl) T.z_range (pa_cons pe_int pa_nil)) (pg_name (i := 2) nd rfl (Or.inl rfl))
        (pss_cons (ps_set (i := 3) nd rfl (Or.inl rfl) (pe_call G_law_data hr_law_data (by rfl) T.m_law_data T.F_law_data.kp T.b_law_data .nil pass0 (pa_cons (pv 1) (pa_cons pe_int pa_nil))))
      (pss_cons (ps_set (i := 4) nd rfl (Or.inl rfl) (pe_call G_law_written hr_law_written (by rfl) T.m_law_written T.F_law_written.kp T.b_law_written .nil pass0 (pa_cons (pv 3) pa_nil)))
      (pss_cons (ps_if (PW.pt (pw_or (pt_cmpR (op_neX (hu200 hr)) (pe_call G_law_told hr_law_told (by rfl) T.m_law_told T.F_law_told.kp T.b_law_told .nil pass0 (pa_cons pe_int (pa_cons (pv 3) pa_nil))) (pe_lst (pa_cons (pv 4) pa_nil)) (nomark _)) (pw_or1 (pt_cmpR op_ne (pe_callB (call_repr_data hgd hurep) (by rfl) T.z_repr (by decide +kernel) (pa_cons (pe_call G_law_told hr_law_told (by rfl) T.m_law_told T.F_law_told.kp T.b_law_told .nil pass0 (pa_cons pe_int (pa_cons (pv 4) pa_nil))) pa_nil)) (pe_callB (call_repr_data hgd hurep) (by rfl) T.z_repr (by decide +kernel) (pa_cons (pe_lst (pa_cons (pv 3) pa_nil)) pa_nil)) (nomark _))))) (pss_one (ps_ret pe_bl)) pss_nil)
      (pss_one (ps_for PassesOwn.never (by rfl) (pi_range1 (by rfl) T.z_range (pa_cons pe_int pa_nil)) (pg_name (i := 5) nd rfl (Or.inl rfl))
        (pss_cons (ps_par (i := 6) (j := 7) (by rfl) nd rfl rfl (by decide) rfl rfl (pa_cons (pe_call G_law_take hr_law_take (by rfl) T.m_law_take T.F_law_take.kp T.b_law_take .nil pass0 (pa_cons (pv 1) (pa_cons (pe_op op_add (pe_callB call_len_str (by rfl) T.z_len (by decide +kernel) (pa_cons (pv 4) pa_nil)) pe_int) pa_nil))) (pa_cons (pe_ix ix_str pe_str (pe_call G_law_take hr_law_take (by rfl) T.m_law_take T.F_law_take.kp T.b_law_take .nil pass0 (pa_cons (pv 1) (pa_cons pe_int pa_nil))) (fun _ _ => rfl)) pa_nil)) (by rfl))
      (pss_one (ps_for PassesOwn.never (by rfl) (pi_list (pe_lst (pa_cons (pe_op op_add_str (pe_op op_add_str (pe_slice sl_str (pv 4) po_none (po_some (pv 6))) (pv 7)) (pe_slice sl_str (pv 4) (po_some (pv 6)) po_none)) (pa_cons (pe_op op_add_str (pe_slice sl_str (pv 4) po_none (po_some (pv 6))) (pe_slice sl_str (pv 4) (po_some (pe_op op_add (pv 6) pe_int)) po_none)) (pa_cons (pe_op op_add_str (pe_op op_add_str (pe_slice sl_str (pv 4) po_none (po_some (pv 6))) (pv 7)) (pe_slice sl_str (pv 4) (po_some (pe_op op_add (pv 6) pe_int)) po_none)) pa_nil))))) (pg_name (i := 8) nd rfl (Or.inl rfl))
        (pss_cons (ps_set (i := 9) nd rfl (Or.inl rfl) (pe_call G_law_read hr_law_read (by rfl) T.m_law_read T.F_law_read.kp T.b_law_read .nil pass0 (pa_cons (pv 8) pa_nil)))
      (pss_one (ps_if (pt_cmpR op_ne (pe_callB (call_repr_data hgd hurep) (by rfl) T.z_repr (by decide +kernel) (pa_cons (pe_call G_law_told hr_law_told (by rfl) T.m_law_told T.F_law_told.kp T.b_law_told .nil pass0 (pa_cons pe_int (pa_cons (pv 8) pa_nil))) pa_nil)) (pe_callB (call_repr_data hgd hurep) (by rfl) T.z_repr (by decide +kernel) (pa_cons (pe_ifExp (PW.pt (pw_and (pt_cmpR op_notN (pv 9) pe_non (nomark _)) (pw_and1 (pt_cmpR op_eq (pe_call G_law_written hr_law_written (by rfl) T.m_law_written T.F_law_written.kp T.b_law_written .nil pass0 (pa_cons (pe_ix ix_list (pv 9) pe_int (fun _ _ => rfl)) pa_nil)) (pv 8) (nomark _))))) (pv 9) pe_non) pa_nil)) (nomark _)) (pss_one (ps_ret pe_bl)) pss_nil))))))))))))
      (pss_cons (ps_for PassesOwn.never (by rfl) (pi_list (pe_lst (pa_cons pe_non (pa_cons pe_str (pa_cons pe_str (pa_cons pe_str (pa_cons pe_str (pa_cons pe_str (pa_cons (pe_lst (pa_cons pe_int pa_nil)) (pa_cons (pe_tup (pa_cons pe_int (pa_cons pe_non pa_nil))) (pa_cons (pe_tup (pa_cons (pe_tup (pa_cons pe_non pa_nil)) pa_nil)) (pa_cons (pe_lst (pa_cons pe_str pa_nil)) (pa_cons (pe_tup (pa_cons pe_str (pa_cons (pe_lst pa_nil) pa_nil))) (pa_cons pe_str (pa_cons (pe_tup (pa_cons pe_str pa_nil)) pa_nil))))))))))))))) (pg_name (i := 10) nd rfl (Or.inl rfl))
        (pss_one (ps_if (pt_cmpR op_notN (pe_call G_law_told hr_law_told (by rfl) T.m_law_told T.F_law_told.kp T.b_law_told .nil pass0 (pa_cons pe_int (pa_cons (pv 10) pa_nil))) pe_non (nomark _)) (pss_one (ps_ret pe_bl)) pss_nil)))
      (pss_cons (ps_set (i := 11) nd rfl (Or.inl rfl) (pe_op op_mulStr pe_str pe_int))
      (pss_cons (ps_if (PW.pt (pw_or (pt_cmpR (op_neX (hu200 hr)) (pe_call G_law_told hr_law_told (by rfl) T.m_law_told T.F_law_told.kp T.b_law_told .nil pass0 (pa_cons pe_int (pa_cons (pe_callTy (call_int_text T.nd) (by rfl) T.z_int (by decide +kernel) (pa_cons (pv 11) pa_nil)) pa_nil))) (pe_lst (pa_cons (pv 11) pa_nil)) (nomark _)) (pw_or (pt_cmpR op_isN (pe_call G_law_told hr_law_told (by rfl) T.m_law_told T.F_law_told.kp T.b_law_told .nil pass0 (pa_cons pe_int (pa_cons (pe_op op_add_str pe_str (pv 11)) pa_nil))) pe_non (nomark _)) (pw_or (pt_cmpR op_notN (pe_call G_law_told hr_law_told (by rfl) T.m_law_told T.F_law_told.kp T.b_law_told .nil pass0 (pa_cons pe_int (pa_cons (pe_op op_add_str (pv 11) pe_str) pa_nil))) pe_non (nomark _)) (pw_or1 (pt_cmpR op_notN (pe_call G_law_told hr_law_told (by rfl) T.m_law_told T.F_law_told.kp T.b_law_told .nil pass0 (pa_cons pe_int (pa_cons (pe_op op_add (pe_callTy (call_int_text T.nd) (by rfl) T.z_int (by decide +kernel) (pa_cons (pv 11) pa_nil)) pe_int) pa_nil))) pe_non (nomark _))))))) (pss_one (ps_ret pe_bl)) pss_nil)
      (pss_cons (ps_set (i := 12) nd rfl (Or.inl rfl) (pe_tup pa_nil))
      (pss_cons (ps_for PassesOwn.never (by rfl) (pi_range1 (by rfl) T.z_range (pa_cons pe_int pa_nil)) (pg_name (i := 2) nd rfl (Or.inl rfl))
        (pss_one (ps_set (i := 12) nd rfl (Or.inl rfl) (pe_tup (pa_cons (pv 12) pa_nil)))))
      (pss_cons (ps_if (PW.pt (pw_or (pt_cmpR (op_neX (hu200 hr)) (pe_call G_law_told hr_law_told (by rfl) T.m_law_told T.F_law_told.kp T.b_law_told .nil pass0 (pa_cons pe_int (pa_cons (pv 12) pa_nil))) (pe_lst (pa_cons (pe_op op_add_str (pe_op op_mulStr pe_str pe_int) (pe_op op_mulStr pe_str pe_int)) pa_nil)) (nomark _)) (pw_or (pt_cmpR op_notN (pe_call G_law_told hr_law_told (by rfl) T.m_law_told T.F_law_told.kp T.b_law_told .nil pass0 (pa_cons pe_int (pa_cons (pe_tup (pa_cons (pv 12) pa_nil)) pa_nil))) pe_non (nomark _)) (pw_or1 (pt_cmpR op_notN (pe_call G_law_told hr_law_told (by rfl) T.m_law_told T.F_law_told.kp T.b_law_told .nil pass0 (pa_cons pe_int (pa_cons (pe_op op_add_str (pe_op op_mulStr pe_str pe_int) (pe_op op_mulStr pe_str pe_int)) pa_nil))) pe_non (nomark _)))))) (pss_one (ps_ret pe_bl)) pss_nil)
      (pss_one (ps_ret (pe_and (pe_cmpR op_notN (pe_call G_law_told hr_law_told (by rfl) T.m_law_told T.F_law_told.kp T.b_law_told .nil pass0 (pa_cons pe_int (pa_cons (pe_op op_add_str (pe_op op_mulStr pe_str pe_int) (pe_op op_mulStr pe_str pe_int)) pa_nil))) pe_non (nomark _)) (pe_one (pe_cmpR (op_eqX (hu200 hr)) (pe_lc (own := [("value", 13)]) (g := (gName 13)) (tt := tYes) (by rfl) nd (pi_list (pe_lst (pa_cons pe_non (pa_cons pe_int (pa_cons (pe_tup (pa_cons pe_int pa_nil)) (pa_cons pe_str (pa_cons pe_str (pa_cons pe_str (pa_cons pe_str pa_nil))))))))) (blkOk_by (own := [("value", 13)]) (N := ["script", "draw", "turn", "data", "text", "again", "i", "sign", "other", "due", "bad", "long", "deep", "value"]) (sc := defScope s_law) (by decide +kernel)) (fun _ _ _ _ _ => (pg_name (i := 13) nd rfl (Or.inl rfl))) (fun _ _ _ _ _ => pts_nil) (fun _ _ _ _ _ => (pe_call G_law_told hr_law_told (by rfl) T.m_law_told T.F_law_told.kp T.b_law_told .nil pass0 (pa_cons pe_int (pa_cons (pv 13) pa_nil))))) (pe_op op_rep (pe_lst (pa_cons pe_non pa_nil)) pe_int) (nomark _)))))))))))))), ?_⟩
  refine ⟨_, rfl, a0, ns, rfl, hs, hlen, fun a cl H1 ha hcl e1 hD => ?_⟩
  refine q_forR1 (n := 4) (ea_cons ev_c ea_nil) (by decide) (fun i σ' H' => ∃ v2 v3 v4 v5 v6 v7 v8 v9, DrawAt H' a cl (i * 2000) ∧ σ' = [some (.ref a0), some (.ref a), v2, v3, v4, v5, v6, v7, v8, v9, none, none, none, none]) (fun H2 e2 => ⟨none, none, none, none, none, none, none, none, hD.ex e2, rfl⟩) ?_ ?_
  · rintro i σ' H2 hi ⟨v2, v3, v4, v5, v6, v7, v8, v9, hD2, rfl⟩
    have hi4 : i < 4 := by omega
    -- data = _law_data(draw, 5)
    refine ⟨_, rfl, a, cl, i * 2000, rfl, hD2, by show i * 2000 + 1456 ≤ 1000000; omega, fun v d H3 hD3 o3 gd dp => ?_⟩
    obtain ⟨t, D⟩ := good5 gd
    have tl := D.len
    -- text = _law_written(data)
    refine q_asg (v := .str (S t)) (ev_is (ev_call (ea_cons (ev_var rfl) ea_nil) (spD_v (f := fun d => oS (lawW d)) dp ⟨D.ok, D.tb_⟩)) (by rw [D.w]; rfl)) fun H4 e4 => ?_
    have tz : (S t).length ≤ sizeLine := by rw [S_len]; exact sz_of (by omega)
    have lay : (PyData.str (S t)).canLay0 = true := text_lay D.w
    have rd : readData (.str (S t)) = some d := D.rd
    have rpre : ReadPre (.str (S t)) := by show (S t).length ≤ 40000; rw [S_len]; omega
    refine q_when (b := false) (et_or (a := false) (b := false) (et_test (ev_opLL (el_told0 (ed_v (ev_var rfl) fun H5 e5 => dp_mono (e4.trans e5) dp) D.wp D.wr) (el_lst (ea_cons (ev_var rfl) ea_nil) (by show 1 ≤ 100000; decide)) fun p q H5 hp hq e5 => rv_neL hp hq rfl lay)) fun _ => et_test (ev_op (ev_repr (d := tolD (readData (.str (S t)))) (ed_told1 (ed_v (ev_var rfl) fun _ _ => .str (S t)) rpre) (by rw [rd]; exact D.rp)) (ev_repr (ed_lst (es_cons (ed_v (ev_var rfl) fun H5 e5 => dp_mono (e4.trans e5) dp) es_nil) (by show 1 ≤ 100000; decide)) D.rp) (rv_neV (by rw [rd]; rfl)))) (fun z => by cases z) (fun _ H5 e5 => ?_)
    have hD5 := (hD3.ex e4).ex e5
    -- again
    refine s_forR1 (n := 8) (ea_cons ev_c ea_nil) (by decide) (fun j σ' H' => ∃ v5 v6 v7 v8 v9, DrawAt H' a cl (i * 2000 + 1456 + j * 2) ∧ σ' = [some (.ref a0), some (.ref a), some (.int (i : Int)), some v, some (.str (S t)), v5, v6, v7, v8, v9, none, none, none, none]) (fun H6 e6 => ⟨v5, v6, v7, v8, v9, hD5.ex e6, rfl⟩) ?_ ?_
    · rintro j σ' H6 hj ⟨v5, v6, v7, v8, v9, hD6, rfl⟩
      have hj8 : j < 8 := by omega
      -- i, sign = ..
      refine ⟨_, rfl, _, rfl, S t, rfl, tz, _, _, rfl, rfl, a, cl, _, i * 2000 + 1456 + j * 2, rfl, by omega, by rw [S_len]; omega, hD6, by omega, fun r1 H7 r0 r1' hD7 o7 => ?_⟩
      refine ⟨_, rfl, a, cl, 11, i * 2000 + 1456 + j * 2 + 1, rfl, by decide, by decide, hD7, by omega, fun r2 H8 q0 q1 hD8 o8 => ?_⟩
      obtain ⟨n2, rfl⟩ : ∃ n : Nat, r2 = (n : Int) := ⟨r2.toNat, by omega⟩
      have hn2 : n2 < signsL.length := by show n2 < 11; omega
      have hc59 : signsL[n2] ≠ 59 := fun z => by
        have q := List.getElem_mem hn2
        rw [z] at q
        revert q
        decide
      have hcat : atI signsL ((n2 : Nat) : Int) = some signsL[n2] := atI_nat (List.getElem?_eq_getElem hn2)
      generalize signsL[n2] = c at hc59 hcat
      obtain ⟨p, rfl⟩ : ∃ p : Nat, r1 = (p : Int) := ⟨r1.toNat, by omega⟩
      have hp : p ≤ t.length := by rw [S_len] at r1'; omega
      refine ⟨S signsL, _, c, rfl, rfl, by decide, hcat, _, _, rfl, ?_⟩
      have o1 : O5 (t.take p ++ ([c] ++ t.drop p)) := edit5 D (Nat.le_refl 1) (fun m => hc59 (List.mem_singleton.mp m).symm) (Nat.le_refl _) (by simp; omega)
      have o2 : O5 (t.take p ++ ([] ++ t.drop (p + 1))) := edit5 D (by decide) (fun m => nomatch m) (Nat.le_succ _) (by simp; omega)
      have o3 : O5 (t.take p ++ ([c] ++ t.drop (p + 1))) := edit5 D (Nat.le_refl 1) (fun m => hc59 (List.mem_singleton.mp m).symm) (Nat.le_succ _) (by simp; omega)
      have lt : (t.take p).length ≤ 10568 := by rw [List.length_take]; omega
      have ld : (t.drop p).length ≤ 10568 := by rw [List.length_drop]; omega
      have ld1 : (t.drop (p + 1)).length ≤ 10568 := by rw [List.length_drop]; omega
      have big : (40000 : Nat) ≤ sizeLine := by decide
      have g1 : ∀ {σ : L2.St} {H : Hp}, σ[4]? = some (some (.str (S t))) → σ[6]? = some (some (.int (p : Int))) → Ev (tSl rSlS (tVar 4) tNoPart (tPart (tVar 6))) σ H (.str (S (t.take p))) := fun a b => ev_is (ev_sl (ev_var a) eo_none (eo_some (ev_var b)) tz) (congrArg V.str (cut_to t p))
      have g2 : ∀ {σ : L2.St} {H : Hp}, σ[4]? = some (some (.str (S t))) → σ[6]? = some (some (.int (p : Int))) → Ev (tSl rSlS (tVar 4) (tPart (tVar 6)) tNoPart) σ H (.str (S (t.drop p))) := fun a b => ev_is (ev_sl (ev_var a) (eo_some (ev_var b)) eo_none tz) (congrArg V.str (cut_from t p))
      have g3 : ∀ {σ : L2.St} {H : Hp}, σ[4]? = some (some (.str (S t))) → σ[6]? = some (some (.int (p : Int))) → Ev (tSl rSlS (tVar 4) (tPart (tOp (rI0 fun i j => .int (i + j)) (tVar 6) (tC (.int 1)))) tNoPart) σ H (.str (S (t.drop (p + 1)))) := fun a b => ev_is (ev_sl (ev_var a) (eo_some (ev_op (ev_var b) ev_c rv_I0)) eo_none tz) (congrArg V.str (cut_from t (p + 1)))
      refine s_forNL (xs := [strV (t.take p ++ ([c] ++ t.drop p)), strV (t.take p ++ ([] ++ t.drop (p + 1))), strV (t.take p ++ ([c] ++ t.drop (p + 1)))])
        (el_lst (ea_cons (ev_is (ev_op (ev_op (g1 rfl rfl) (ev_var rfl) (rv_addS (b := [c]) (by show _ + 1 ≤ _; omega))) (g2 rfl rfl) (rv_addS (by rw [List.length_append]; show _ + 1 + _ ≤ _; omega))) (by rw [List.append_assoc]; rfl)) (ea_cons (ev_op (g1 rfl rfl) (g3 rfl rfl) (rv_addS (by omega))) (ea_cons (ev_is (ev_op (ev_op (g1 rfl rfl) (ev_var rfl) (rv_addS (b := [c]) (by show _ + 1 ≤ _; omega))) (g3 rfl rfl) (rv_addS (by rw [List.length_append]; show _ + 1 + _ ≤ _; omega))) (by rw [List.append_assoc]; rfl)) ea_nil))) (by show 3 ≤ 100000; decide))
        (fun f k σ' H' => ∃ v8 v9, H' f = some (.lst [strV (t.take p ++ ([c] ++ t.drop p)), strV (t.take p ++ ([] ++ t.drop (p + 1))), strV (t.take p ++ ([c] ++ t.drop (p + 1)))]) ∧ Ex H8 H' ∧ σ' = [some (.ref a0), some (.ref a), some (.int (i : Int)), some v, some (.str (S t)), some (.int (j : Int)), some (.int (p : Int)), some (.str ⟨#[c]⟩), v8, v9, none, none, none, none])
        (fun f H9 hf e9 h9 => ⟨v8, v9, h9, e9, rfl⟩) (fun f k σ' H' hk q => by obtain ⟨v8, v9, q1, _⟩ := q; exact sq_of q1) ?_ ?_
      · rintro f k x σ' H9 hx ⟨v8, v9, h9, e9, rfl⟩
        obtain ⟨o, rfl, O⟩ : ∃ o, x = strV o ∧ O5 o := by
          match k, hx with
          | 0, hx => cases hx; exact ⟨_, rfl, o1⟩
          | 1, hx => cases hx; exact ⟨_, rfl, o2⟩
          | 2, hx => cases hx; exact ⟨_, rfl, o3⟩
        have ol := O.len
        have opre : ReadPre (.str (S o)) := by show (S o).length ≤ 40000; rw [S_len]; omega
        have ord : readData (.str (S o)) = lawRead o := O.rd
        refine ⟨_, rfl, o, rfl, by omega, O.gap, fun r hr u q H10 hq e10 h10 du ok => ?_, fun hn H10 e10 => ?_⟩
        · obtain ⟨w1, w2, w3, w4⟩ := O.w r hr
          refine s_when (b := false) (et_test (ev_op (ev_repr (d := tolD (readData (.str (S o)))) (ed_told1 (ed_v (ev_var rfl) fun _ _ => .str (S o)) opre) (by rw [ord, hr]; exact w4)) (ev_repr (d := .list [r]) (ed_if (b := true) (et_and (a := true) (b := true) (et_test (ev_op (ev_var rfl) ev_c (rv_notN rfl))) fun _ => et_test (ev_is (ev_op (ev_call (ea_cons (ev_op (ev_var rfl) ev_c (rv_ixL (i := 0) (sq_of h10) rfl)) ea_nil) (spD_v (f := fun d => oS (lawW d)) du ⟨w2, w3⟩)) (ev_var rfl) (by rw [w1]; exact rv_eqS)) (by simp))) (fun _ => ed_v (ev_var rfl) fun H11 e11 => .lst (sq_of (e11 _ _ h10)) (dpa_one (dp_mono e11 du))) (fun z => nomatch z)) w4) (rv_neV (by rw [ord, hr]; rfl)))) (fun z => nomatch z) (fun _ H11 e11 => ⟨_, _, (e10.trans e11) _ _ h9, (e9.trans e10).trans e11, rfl⟩)
        · refine s_when (b := false) (et_test (ev_op (ev_repr (d := tolD (readData (.str (S o)))) (ed_told1 (ed_v (ev_var rfl) fun _ _ => .str (S o)) opre) (by rw [ord, hn]; exact rp_none)) (ev_repr (d := .none) (ed_if (b := false) (et_and (a := false) (b := false) (et_test (ev_op (ev_var rfl) ev_c (rv_notN rfl))) fun z => nomatch z) (fun z => nomatch z) (fun _ => ed_non)) rp_none) (rv_neV (by rw [ord, hn]; rfl)))) (fun z => nomatch z) (fun _ H11 e11 => ⟨_, _, (e10.trans e11) _ _ h9, (e9.trans e10).trans e11, rfl⟩)
      · rintro f σ' H9 ⟨v8, v9, h9, e9, rfl⟩
        exact ⟨_, _, _, _, _, (hD8.ex e9).wide (by omega), rfl⟩
    · rintro σ' H6 ⟨v5, v6, v7, v8, v9, hD6, rfl⟩
      exact ⟨_, _, _, _, _, _, _, _, hD6.wide (by show i * 2000 + 1456 + 8 * 2 ≤ _; omega), rfl⟩
  · rintro σ' H2 ⟨v2, v3, v4, v5, v6, v7, v8, v9, hD2, rfl⟩
    -- for bad in ..
    refine q_forD (ds := bads) (edl (es_cons ed_non (es_cons ed_str (es_cons ed_str (es_cons ed_str (es_cons ed_str (es_cons ed_str (es_cons (ed_lst (es_cons ed_int es_nil) (by decide)) (es_cons (ed_tup (es_cons ed_int (es_cons ed_non es_nil)) (by decide)) (es_cons (ed_tup (es_cons (ed_tup (es_cons ed_non es_nil) (by decide)) es_nil) (by decide)) (es_cons (ed_lst (es_cons ed_str es_nil) (by decide)) (es_cons (ed_tup (es_cons ed_str (es_cons (ed_lst es_nil (by decide)) es_nil)) (by decide)) (es_cons ed_str (es_cons (ed_tup (es_cons ed_str es_nil) (by decide)) es_nil))))))))))))) (by decide))
      (fun i σ' => ∃ v10, σ' = [some (.ref a0), some (.ref a), v2, v3, v4, v5, v6, v7, v8, v9, v10, none, none, none]) ⟨none, rfl⟩ ?_ ?_
    · rintro H3 e3 i v d σ' H4 hd e4 ⟨v10, rfl⟩ dv
      have hm : d ∈ bads := List.mem_of_getElem? hd
      exact s_when (b := false) (et_test (ev_op (ev_told0 (ed_v (ev_var rfl) fun H5 e5 => dp_mono e5 dv) (bads_pre d hm) (bads_none d hm)) ev_c (rv_notN rfl))) (fun z => nomatch z) fun _ H5 e5 => ⟨e4.trans e5, _, rfl⟩
    rintro σ' H3 e3 ⟨v10, rfl⟩
    -- long
    have nl : (nines 4000).length = 4000 := nines_len
    have big : (40000 : Nat) ≤ sizeLine := by decide
    refine q_asg (v := .str (S (nines 4000))) (ev_op ev_c ev_c (fun H4 _ Q q => ⟨S [57], 4000, rfl, rfl, by decide, by decide, by rw [show Txt.mul (S [57]) ((4000 : Nat) : Int) = S (nines 4000) from mul_S 57 4000 (by decide)]; exact q H4 (Ex.refl _)⟩)) fun H4 e4 => ?_
    have lay : (PyData.str (S (nines 4000))).canLay0 = true := text_lay (d := .int (N4 : Int)) (by rw [lawW, istr_N4])
    have nint : ∀ {σ : L2.St} {H : Hp}, σ[11]? = some (some (.str (S (nines 4000)))) → Ev (tCB (fun xs H Q => ∃ (a : Str) (n : Int), xs = [.str a] ∧ PySem.intText? a = some n ∧ a.length ≤ sizeLine ∧ (∀ c ∈ a.cps.toList, c ≠ 0 ∧ c < 128) ∧ Q (.int n) H) (tCons (tVar 11) tNil)) σ H (.int (N4 : Int)) := fun h => ev_cb (ea_cons (ev_var h) ea_nil) fun H1 e1 Q q => ⟨S (nines 4000), _, rfl, long_text.1, by rw [S_len, nl]; decide, long_text.2, q H1 (Ex.refl _)⟩
    have rneg : readData (.str (S (45 :: nines 4000))) = some (.int (-(N4 : Int))) := long_neg
    have rzero : readData (.str (S (nines 4000 ++ [48]))) = none := long_zero
    refine q_when (b := false) (et_or (a := false) (b := false) (et_test (ev_opLL (el_told0 (ed_v (nint rfl) fun _ _ => .int _) long_wp long_w) (el_lst (ea_cons (ev_var rfl) ea_nil) (by show 1 ≤ 100000; decide)) fun p q H5 hp hq e5 => rv_neL hp hq rfl lay)) fun _ =>
      et_or (a := false) (b := false) (et_test (ed_isN (d := tolD (readData (.str (S (45 :: nines 4000))))) (ed_told1 (ed_v (ev_op ev_c (ev_var rfl) (rv_addS (a := [45]) (by rw [nl]; show 1 + 4000 ≤ _; omega))) fun _ _ => .str _) (by show (S (45 :: nines 4000)).length ≤ 40000; rw [S_len, List.length_cons, nl]; decide)) (by rw [rneg]; exact fun z => nomatch z))) fun _ =>
      et_or (a := false) (b := false) (et_test (ev_op (ev_told1 (d := .str (S (nines 4000 ++ [48]))) (ed_v (ev_op (ev_var rfl) ev_c (rv_addS (b := [48]) (by rw [nl]; show 4000 + 1 ≤ _; omega))) fun _ _ => .str _) (by show (S (nines 4000 ++ [48])).length ≤ 40000; rw [S_len, List.length_append, nl]; decide) rzero) ev_c (rv_notN rfl))) fun _ =>
      et_test (ev_op (ev_told0 (d := .int ((N4 : Int) + 1)) (ed_v (ev_op (nint rfl) ev_c rv_I0) fun _ _ => .int _) long_over_p long_over) ev_c (rv_notN rfl))) (fun z => nomatch z) (fun _ H5 e5 => ?_)
    -- deep
    refine q_asgU (eu_tup ea_nil (by decide)) fun p6 H6 hp6 e6 h6 => ?_
    refine q_forR1 (n := 999) (ea_cons ev_c ea_nil) (by decide) (fun i σ' H' => ∃ v2 v, Dp K H' v (deepD i) ∧ σ' = [some (.ref a0), some (.ref a), v2, v3, v4, v5, v6, v7, v8, v9, v10, some (.str (S (nines 4000))), some v, none]) (fun H7 e7 => ⟨v2, .ref p6, .tup (st_of (e7 _ _ h6)) .nil, rfl⟩) ?_ ?_
    · rintro i σ' H7 hi ⟨v2, v, dv, rfl⟩
      exact s_asgU (eu_tup (ea_cons (ev_var rfl) ea_nil) (by show 1 ≤ 100000; decide)) fun p8 H8 hp8 e8 h8 => ⟨_, .ref p8, .tup (st_of h8) (dpa_one (dp_mono e8 dv)), rfl⟩
    rintro σ' H7 ⟨v2', v, dv, rfl⟩
    have dv' : Dp K H7 v (deepD 999) := dv
    have bl : ∀ c, (List.replicate 1000 c : List Nat).length = 1000 := fun c => List.length_replicate
    have mulE : ∀ {σ : L2.St} {H : Hp} (c n : Nat) (m : Int), m = (n : Int) → 2 ≤ n → n ≤ 100000 → Ev (tOp (fun x y H Q => ∃ (z : Str) (n : Nat), x = .str z ∧ y = .int (n : Int) ∧ n ≤ 100000 ∧ z.length ≤ 100 ∧ Q (.str (Txt.mul z n)) H) (tC (.str (S [c]))) (tC (.int m))) σ H (.str (S (List.replicate n c))) := fun {σ H} c n m hm h1 h2 => by
      subst hm
      exact ev_op ev_c ev_c fun H1 _ Q q => ⟨S [c], n, rfl, rfl, h2, by rw [S_len]; show 1 ≤ 100; decide, by rw [mul_S c n h1]; exact q H1 (Ex.refl _)⟩
    have rl : ∀ n c, (List.replicate n c : List Nat).length = n := fun n c => List.length_replicate
    have ro : readData (.str (S (brk 1001))) = none := brk_over
    have rk : readData (.str (S (brk 1000))) = some (deepD 999) := brk_read
    refine q_when (b := false) (et_or (a := false) (b := false) (et_test (ev_opLL (el_told0 (ed_v (ev_var rfl) fun H5 e5 => dp_mono e5 dv') deep_wp deep_wr) (el_lst (ea_cons (ev_op (mulE 91 1000 _ rfl (by decide) (by decide)) (mulE 93 1000 _ rfl (by decide) (by decide)) (rv_addS (by rw [rl, rl]; show 1000 + 1000 ≤ _; omega))) ea_nil) (by show 1 ≤ 100000; decide)) fun p q H5 hp hq e5 => rv_neL hp hq rfl (text_lay (deep_w 999)))) fun _ =>
      et_or (a := false) (b := false) (et_test (ev_op (ev_told0 (d := deepD 1000) (ed_tup (es_cons (ed_v (ev_var rfl) fun H5 e5 => dp_mono e5 dv') es_nil) (by show 1 ≤ 100000; decide)) deep_over_p deep_over) ev_c (rv_notN rfl))) fun _ =>
      et_test (ev_op (ev_told1 (d := .str (S (brk 1001))) (ed_v (ev_op (mulE 91 1001 _ rfl (by decide) (by decide)) (mulE 93 1001 _ rfl (by decide) (by decide)) (rv_addS (by rw [rl, rl]; show 1001 + 1001 ≤ _; omega))) fun _ _ => .str _) (by show (S (brk 1001)).length ≤ 40000; rw [S_len, brk_len]; decide) ro) ev_c (rv_notN rfl))) (fun z => nomatch z) (fun _ H8 e8 => ?_)
    refine s_ret (v := .bl true) (ev_andV (a := true) (b := true) (ed_notN (b := true) (tb := tC .non) (d := tolD (readData (.str (S (brk 1000))))) (ed_told1 (ed_v (ev_op (mulE 91 1000 _ rfl (by decide) (by decide)) (mulE 93 1000 _ rfl (by decide) (by decide)) (rv_addS (by rw [rl, rl]; show 1000 + 1000 ≤ _; omega))) fun _ _ => .str _) (by show (S (brk 1000)).length ≤ 40000; rw [S_len, brk_len]; decide)) (by rw [rk]; exact fun z => nomatch z)) fun _ =>
      ev_opLL (el_lcD (ds := noreads) (fun _ => .non) (edl (es_cons ed_non (es_cons ed_int (es_cons (ed_tup (es_cons ed_int es_nil) (by decide)) (es_cons ed_str (es_cons ed_str (es_cons ed_str (es_cons ed_str es_nil))))))) (by decide)) (by decide) (fun _ => rfl) fun i v d H9 e9 hd dv => ev_told1 (ed_v (ev_var rfl) fun H5 e5 => dp_mono e5 dv) (noreads_pre d (List.mem_of_getElem? hd)) (noreads_none d (List.mem_of_getElem? hd)))
        (el_rep (n := 7) (xs := [.non]) (el_lst (ea_cons ev_c ea_nil) (by decide)) ev_c (by decide)) fun p q H9 hp hq e9 H10 e10 Q k => ⟨.list [.none, .none, .none, .none, .none, .none, .none], .list [.none, .none, .none, .none, .none, .none, .none], .lst (sq_of (e10 _ _ hp)) (.cons .non (.cons .non (.cons .non (.cons .non (.cons .non (.cons .non (.cons .non .nil))))))), .lst (sq_of (e10 _ _ hq)) (.cons .non (.cons .non (.cons .non (.cons .non (.cons .non (.cons .non (.cons .non .nil))))))), by decide, by decide, by decide, k H10 (Ex.refl _)⟩) fun H9 e9 => rfl
end K53

open PySem PySem.W PyProof.Rows
set_option maxRecDepth 100000 in
set_option maxHeartbeats 0 in
theorem PySem.Challenge.cw_kindredtold_k53_whole_plain_data_holds : PySem.Challenge.rw_kindredtold_k53_whole_plain_data.Holds := by
  w_on; o_law; k_head; (case hw => w_witness2)
  k_fill
  refine KX.walk_at (l := PySem.Challenge.rw_kindredtold_k53_whole_plain_data) rfl (by decide) rfl (fun w h Y => PySem.W.kIn_of Y) ?F
  case F =>
    intro w mg fa a ns s₁ Z G hmg hlen hbits
    refine' K53.fin53 (K53.txt_mk Z G ?g_Fault ?x_Fault ?k_Fault ?b_Fault ?t_Fault ?i_Fault ?s_Fault ?g_Malformed ?x_Malformed ?k_Malformed ?b_Malformed ?t_Malformed ?i_Malformed ?s_Malformed ?g_DataReader ?pg_DataReader ?hd_DataReader ?po_DataReader ?sa_DataReader ?mk_DataReader ?kc_DataReader ?n_DataReader_tuples ?n_DataReader_ready ?n_DataReader_told ?a1 ?l1 ?c1 ?k1 ?a2 ?l2 ?c2 ?k2 ?a3 ?l3 ?c3 ?k3 ?a4 ?l4 ?c4 ?k4 ?a5 ?l5 ?c5 ?k5 ?a6 ?l6 ?c6 ?k6 ?a7 ?l7 ?c7 ?k7 ?a8 ?l8 ?c8 ?k8 ?a9 ?l9 ?c9 ?k9 ?a10 ?l10 ?c10 ?k10 ?a11 ?l11 ?c11 ?k11 ?a12 ?l12 ?c12 ?k12 ?a13 ?l13 ?c13 ?k13 ?a14 ?l14 ?c14 ?k14 ?a15 ?l15 ?c15 ?k15 ?a16 ?l16 ?c16 ?k16 ?a17 ?l17 ?c17 ?k17 ?a18 ?l18 ?c18 ?k18 ?a19 ?i19 ?l19 ?c19 ?k19 ?a20 ?i20 ?l20 ?c20 ?k20 ?a21 ?i21 ?l21 ?c21 ?k21 ?a22 ?i22 ?l22 ?c22 ?k22 ?a23 ?i23 ?l23 ?c23 ?k23 ?a24 ?i24 ?l24 ?c24 ?k24 ?v_LETTERS ?v_DIGITS ?v_MOST_WORD ?v_MOST_DEPTH ?v_MOST_DIGITS ?v_SIGNS ?D_SIGNS ?K_SIGNS ?S_SIGNS ?z_ValueError ?z_abs ?z_all ?z_any ?z_bool ?z_enumerate ?z_int ?z_isinstance ?z_len ?z_range ?z_repr ?z_str ?z_tuple ?nd1 ?nd2) hmg hlen hbits
    (case g_Fault => k_is)
    (case x_Fault => k_exc)
    (case k_Fault => k_is)
    (case b_Fault => k_is)
    (case t_Fault => k_is)
    (case i_Fault => k_is)
    (case s_Fault => k_is)
    (case g_Malformed => k_is)
    (case x_Malformed => k_exc)
    (case k_Malformed => k_is)
    (case b_Malformed => k_is)
    (case t_Malformed => k_is)
    (case i_Malformed => k_is)
    (case s_Malformed => k_is)
    (case g_DataReader => k_is)
    (case pg_DataReader => k_is)
    (case hd_DataReader => k_is)
    (case po_DataReader => k_is)
    (case sa_DataReader => k_is)
    (case mk_DataReader => k_is)
    (case kc_DataReader => k_is)
    (case n_DataReader_tuples => k_is)
    (case n_DataReader_ready => k_is)
    (case n_DataReader_told => k_is)
    (case a1 => k_is)
    (case l1 => k_is)
    (case c1 => k_is)
    (case k1 => k_is)
    (case a2 => k_is)
    (case l2 => k_is)
    (case c2 => k_is)
    (case k2 => k_is)
    (case a3 => k_is)
    (case l3 => k_is)
    (case c3 => k_is)
    (case k3 => k_is)
    (case a4 => k_is)
    (case l4 => k_is)
    (case c4 => k_is)
    (case k4 => k_is)
    (case a5 => k_is)
    (case l5 => k_is)
    (case c5 => k_is)
    (case k5 => k_is)
    (case a6 => k_is)
    (case l6 => k_is)
    (case c6 => k_is)
    (case k6 => k_is)
    (case a7 => k_is)
    (case l7 => k_is)
    (case c7 => k_is)
    (case k7 => k_is)
    (case a8 => k_is)
    (case l8 => k_is)
    (case c8 => k_is)
    (case k8 => k_is)
    (case a9 => k_is)
    (case l9 => k_is)
    (case c9 => k_is)
    (case k9 => k_is)
    (case a10 => k_is)
    (case l10 => k_is)
    (case c10 => k_is)
    (case k10 => k_is)
    (case a11 => k_is)
    (case l11 => k_is)
    (case c11 => k_is)
    (case k11 => k_is)
    (case a12 => k_is)
    (case l12 => k_is)
    (case c12 => k_is)
    (case k12 => k_is)
    (case a13 => k_is)
    (case l13 => k_is)
    (case c13 => k_is)
    (case k13 => k_is)
    (case a14 => k_is)
    (case l14 => k_is)
    (case c14 => k_is)
    (case k14 => k_is)
    (case a15 => k_is)
    (case l15 => k_is)
    (case c15 => k_is)
    (case k15 => k_is)
    (case a16 => k_is)
    (case l16 => k_is)
    (case c16 => k_is)
    (case k16 => k_is)
    (case a17 => k_is)
    (case l17 => k_is)
    (case c17 => k_is)
    (case k17 => k_is)
    (case a18 => k_is)
    (case l18 => k_is)
    (case c18 => k_is)
    (case k18 => k_is)
    (case a19 => k_is)
    (case i19 => k_is)
    (case l19 => k_is)
    (case c19 => k_is)
    (case k19 => k_is)
    (case a20 => k_is)
    (case i20 => k_is)
    (case l20 => k_is)
    (case c20 => k_is)
    (case k20 => k_is)
    (case a21 => k_is)
    (case i21 => k_is)
    (case l21 => k_is)
    (case c21 => k_is)
    (case k21 => k_is)
    (case a22 => k_is)
    (case i22 => k_is)
    (case l22 => k_is)
    (case c22 => k_is)
    (case k22 => k_is)
    (case a23 => k_is)
    (case i23 => k_is)
    (case l23 => k_is)
    (case c23 => k_is)
    (case k23 => k_is)
    (case a24 => k_is)
    (case i24 => k_is)
    (case l24 => k_is)
    (case c24 => k_is)
    (case k24 => k_is)
    (case v_LETTERS => k_is)
    (case v_DIGITS => k_is)
    (case v_MOST_WORD => k_is)
    (case v_MOST_DEPTH => k_is)
    (case v_MOST_DIGITS => k_is)
    (case v_SIGNS => k_is)
    (case D_SIGNS => k_is)
    (case K_SIGNS => repeat (first | trivial | refine ⟨⟨_, _, rfl, rfl⟩, ?_⟩))
    (case S_SIGNS => decide)
    (case z_ValueError => k_is)
    (case z_abs => k_is)
    (case z_all => k_is)
    (case z_any => k_is)
    (case z_bool => k_is)
    (case z_enumerate => k_is)
    (case z_int => k_is)
    (case z_isinstance => k_is)
    (case z_len => k_is)
    (case z_range => k_is)
    (case z_repr => k_is)
    (case z_str => k_is)
    (case z_tuple => k_is)
    (case nd1 => kernel_rfl)
    (case nd2 => k_is)
