import PyProof.Rows.All
import Wide.All
import OpenK.AllK
import Wide.FinOn
import HandS.ForMost
import HandS.IsInst
import HandS.Style
import HandS.TupAny
import HandS.Deep
import HandS.Defaults
import HandS.Flow
import HandS.ListItems
import HandS.Walk
import HandS.Wide
import HandS.Conv
import HandS.DictComp
import HandS.HeadHook2
import KE.GoesEnum
import PyProof.Draws
import HandS.Zip
import HandS.TupLen
import HandS.Small
import HandS.Head0
import HandS.Head1
import HandS.Head2
import HandS.HeadEnd
import HandS.HeadHook1
import PySem.Challenge.RW_primetexts_k01_signs_told_from_others
set_option Elab.async false
set_option linter.all false
set_option maxRecDepth 100000
set_option maxHeartbeats 2000000
namespace Pt
open PySem PySem.Spec PyProof.Rows L2
/-! ### enumerate(text) -/
def Ites (x : Str) : It := ⟨fun i _ => i < x.cps.size, fun i H v H' => ∃ T c, v = .ref T ∧ H T = none ∧ H' = upd H T (.tup [.int (i : Nat), .str ⟨#[c]⟩]) ∧ x.cps[i]? = some c, fun i _ => i = x.cps.size⟩
theorem turn_enumS {P : Program} {w : World} {K : PySem.W.Frag} {elts : List Expr} {kk : Nat} {tpos : Pos} (e it : Addr) (x : Str) (t : Tok) :
    Turn P w K (.Tuple elts kk tpos) (Ites x) [e, it] e (fun i h => (∃ old, IsEnum h e it ((i : Nat) : Int) old) ∧ h.IsStrIter it (strIterType x) x t i ∧ e ≠ it) where
  mem := by simp
  obj := fun i h st b hb => by
    obtain ⟨⟨old, he⟩, ⟨o, ho, hc, hd⟩, _⟩ := st
    have e' : b = e ∨ b = it := by simpa using hb
    rcases e' with z | z
    · rw [z]; exact ⟨_, he, fun v q => nomatch q⟩
    · rw [z]; exact ⟨o, ho, fun v q => by rw [hd] at q; cases q⟩
  keep := fun i h h' st k => let ⟨⟨old, he⟩, ⟨o, ho, r⟩, hne⟩ := st; ⟨⟨old, k e (by simp) _ he⟩, ⟨o, k it (by simp) o ho, r⟩, hne⟩
  item := by
    intro X hP hw hK hc i pins s σ H E I hf st hg
    subst hP hw hK
    obtain ⟨⟨old, he⟩, hit, hne⟩ := st
    have hel : e < s.heap.objs.size := Heap.lt_size he
    have hil : it < s.heap.objs.size := by obtain ⟨o, q, _⟩ := hit; exact Heap.lt_size q
    have hh : X.A.in1.handled = none := I.ok.hd hc
    refine wpAny_pyNext_enum_itemD (Draws.text (prog := X.prog) (w := X.w) hh it x t) he hit hg hne (by simpa using hne) fun u h' tk hu ho hit' hT hsz hk => ?_
    obtain ⟨c, tu, hcx, rfl⟩ := hu
    refine ⟨_, rfl, wpAny_letOwnedTupleGo_enum (s := { s with heap := h', toks := tk + 1 }) ho fun h'' he' sb => ?_⟩
    have hT2 := (sb.2 _ (Nat.ne_of_gt hel)).trans hT
    have new : ObjOk X.prog X.w (upd H s.heap.objs.size (.tup [.int (i : Nat), .str ⟨#[c]⟩])) h'' s.heap.objs.size (.tup [.int (i : Nat), .str ⟨#[c]⟩]) :=
      ⟨by show 2 ≤ sizeLine; decide, [.int i tk, .str ⟨#[c]⟩ tu], .cons ⟨_, rfl⟩ (.cons ⟨_, rfl⟩ .nil), ⟨_, hT2, rfl, _, rfl⟩⟩
    have I1 : Inv X pins σ (upd H s.heap.objs.size (.tup [.int (i : Nat), .str ⟨#[c]⟩])) { s with heap := h'', toks := tk + 1 } :=
      I.turnedNew (ch := [e, it]) (fun b ob hb q => (sb.2 b (fun z => hb (by simp [z]))).trans (hk b ob (fun z => hb (by simp [z])) (fun z => hb (by simp [z])) q)) hf (Nat.le_refl _) new
    refine ⟨.ref s.heap.objs.size, _, I1, rfl, ⟨_, c, rfl, I.hok.fresh (Nat.le_refl _), rfl, hcx⟩, ⟨⟨.str ⟨#[c]⟩ tu, ?_⟩, ?_, hne⟩, fun b hb => ?_⟩
    · have e1 : ((i + 1 : Nat) : Int) = (i : Int) + 1 := by omega
      rw [e1]; exact he'
    · obtain ⟨o, ho2, r⟩ := hit'
      exact ⟨o, (sb.2 it (Ne.symm hne)).trans ho2, r⟩
    · have hb' : b < s.heap.objs.size := by
        have e' : b = e ∨ b = it := by simpa using hb
        rcases e' with z | z
        · rw [z]; exact hel
        · rw [z]; exact hil
      rw [upd_ne (Nat.ne_of_lt hb')]
      exact (hf b hb).1
  done := by
    intro X hP hw hK hc i pins s σ H E I hf st hg
    subst hP hw hK
    obtain ⟨⟨old, he⟩, hit, hne⟩ := st
    obtain ⟨f0, f1, f2, f3, f4, f5⟩ := hf it (by simp)
    have hh : X.A.in1.handled = none := I.ok.hd hc
    have hle : i = x.cps.size := hg
    subst hle
    have D := Draws.text (prog := X.prog) (w := X.w) (A := X.A.in1) hh it x t
    exact wpAny_pyNext_enum_endD D he hit fun h' eb => ⟨rfl, I.turned (t' := s.toks) (fun b o hb q => eb b o hb q) f0 f1 f3 f4 f5⟩
  self := fun A i s Q E st h => let ⟨⟨_, he⟩, _⟩ := st; wpAny_pyIter_enum he h
def iEnumS (ta : TA) : TI := fun σ H R => ta σ H fun vs H1 => ∃ x, vs = [.str x] ∧ R (Ites x) H1
theorem pi_enumS {X : Cx} {e : Expr} {ta : TA} {p pos tpos : Pos} {elts : List Expr} {kk : Nat} (hg : Gl X "enumerate") (hm : X.mg "enumerate" = none) (ha : PA X [e] ta) (hs : starEach [e] X.env = [(false, eval e X.env)] := by rfl) :
    PI X (.Tuple elts kk tpos) (.Call (.Name "enumerate" p) [e] [] pos) (iEnumS ta) := by
  refine ⟨fun pins s σ H R I h => ?_⟩
  refine Call_ (ld_blt I hg hm boot_enumerate (PyProof.Rows.callWith_type1 (thn (ha.run pos pins s σ H _ I h) fun us s1 ⟨vs, H1, I1, r1, q1⟩ => ?_) hs rfl))
  obtain ⟨x, ex, q⟩ := q1
  subst ex
  cases r1 with
  | cons r rr =>
    cases rr
    obtain ⟨t, rfl⟩ := r
    refine call_enumerate_str fun h' he hit hsz hk => wpAny_pyIter_enum he ?_
    have I2 : Inv X pins σ H1 { s1 with heap := h' } := I1.kept (t' := s1.toks) hk
    refine ⟨s1.heap.objs.size + 1, [s1.heap.objs.size + 1, s1.heap.objs.size], _, _, H1, rfl, I2, turn_enumS (s1.heap.objs.size + 1) s1.heap.objs.size x t, ⟨⟨.none, he⟩, hit, Nat.succ_ne_self _⟩, fun b hb => ?_, q⟩
    have e' : b = s1.heap.objs.size + 1 ∨ b = s1.heap.objs.size := by simpa using hb
    have hle : s1.heap.objs.size ≤ b := by
      rcases e' with z | z
      · rw [z]; exact Nat.le_add_right _ _
      · rw [z]; exact Nat.le_refl _
    exact I1.fpOk hle (I1.hok.fresh hle)
theorem walk_enumS {x : Str} : Walk (Ites x) x.cps.size (fun _ => True) (fun i H v H' => ∃ T c, v = .ref T ∧ H T = none ∧ H' = upd H T (.tup [.int (i : Nat), .str ⟨#[c]⟩]) ∧ x.cps[i]? = some c) :=
  ⟨fun _ _ hi _ => hi, fun _ _ => rfl, fun _ _ _ _ _ _ y => y⟩
/-! ### alternatives -/
section
variable {X : Cx}
theorem PE.or {e : Expr} {t u : TE} (h : PE X e t) (k : PE X e u) : PE X e (fun σ H Q => t σ H Q ∨ u σ H Q) := ⟨fun pins s σ H Q I d => d.elim (h.run pins s σ H Q I) (k.run pins s σ H Q I)⟩
theorem PI.or {tg e : Expr} {t u : TI} (h : PI X tg e t) (k : PI X tg e u) : PI X tg e (fun σ H R => t σ H R ∨ u σ H R) := ⟨fun pins s σ H R I d => d.elim (h.run pins s σ H R I) (k.run pins s σ H R I)⟩
theorem PT.or {e : Expr} {t u : TT} (h : PT X e t) (k : PT X e u) : PT X e (fun σ H Q => t σ H Q ∨ u σ H Q) := ⟨fun pins s σ H Q I d => d.elim (h.run pins s σ H Q I) (k.run pins s σ H Q I)⟩
end
end Pt
namespace Pt
open PySem PySem.Spec PyProof.Rows L2
/-! ### list(text) -/
section
variable {P : Program} {w : World} {A : Around} {E : Value → Shared → Prop} {s : Shared} {x : Str} {t : Tok}
theorem ts_hint {Q : Bool → Shared → Prop} (q : Q false s) : wpAny (model P w) A (Builtin.List.listLengthHint (.str x t)) Q E s := by
  have ty := typeIs_str s x t
  unfold Builtin.List.listLengthHint
  refine wpAny_bind (wpAny_specialOf ty PySem.F.slot_str_len.lookup ?_)
  generalize nm : ("str.__len__" : String) = id0
  wp_delta
  rw [show splitId id0 = some ("str", "__len__") from by subst nm; decide +kernel]
  subst nm
  refine wpAny_bind (wpAny_isInstance (T := "str") (b := true) ty (by rw [isSubtype_type]; kernel_rfl) ?_)
  refine wpAny_ite_split (fun no => absurd no (by decide)) (fun _ => ?_)
  refine wpAny_ite_split (fun _ => ?_) (fun no => absurd (by decide +kernel) no)
  exact wpAny_bind (wpAny_typeOf ty (wpAny_pure q))
theorem ts_iter (hh : A.handled = none) (s : Shared) (x : Str) (t : Tok) : ∃ (oI : Obj) (St : Nat → Heap → Prop),
    (∀ (E : Value → Shared → Prop) (Q : Value → Shared → Prop), Q (.ref s.heap.objs.size) { s with heap := s.heap.push oI } → wpAny (model P w) A (pyIter (.str x t)) Q E s) ∧
    Walks P w A s.heap.objs.size [s.heap.objs.size] [s.heap.objs.size] x.cps.size (SignAt x) St ∧ St 0 (s.heap.push oI) := by
  cases ha : x.cps.all (· < 128)
  · exact ⟨_, _, fun _ _ q => wpAny_pyIter_wide ha q, Walks.strWide hh _ x t, ⟨_, Heap.get?_push_size _ rfl, rfl, rfl⟩⟩
  · exact ⟨_, _, fun _ _ q => wpAny_pyIter_ascii ha q, Walks.strAscii hh _ x t, ⟨_, Heap.get?_push_size _ rfl, rfl, rfl⟩⟩
theorem ts_extend {R : Result → Shared → Prop} (hh : A.handled = none) (l : Addr) (res : Value) (c₀ : Nat) (el : s.heap.get? l = some { cls := .type "list", data := .seq #[] c₀ })
    (out : ∀ h' tk acc' c', (∀ b o, b ≠ l → s.heap.get? b = some o → h'.get? b = some o) → h'.get? l = some { cls := .type "list", dict := none, data := .seq acc' c', slots := #[] } → ItemsOf (SignAt x) acc' x.cps.size → R (.ok (.ret res)) { s with heap := h', toks := tk }) (hn : x.cps.size ≤ sizeLine) :
    wpAny (model P w) A.in1 (Builtin.List.listExtendWith (.ref l) (.str x t) res)
      (fun fin s' => match fin with | .done f => R (.ok f) s' | .again c' => c'.quiet = true ∧ codeAny (model P w) A c' R s') (fun e s' => R (.error e) s') s := by
  have ne : l ≠ s.heap.objs.size := Nat.ne_of_lt (Heap.lt_size el)
  have nin : l ∉ [s.heap.objs.size] := by simpa using ne
  obtain ⟨oI, St, hit, W, st⟩ := ts_iter (P := P) (w := w) (A := A.in1) hh s x t
  have loop : ∀ (h : Heap) (c₁ tk : Nat), St 0 h → (∀ b o, b ≠ l → s.heap.get? b = some o → h.get? b = some o) →
      h.get? l = some { cls := .type "list", data := .seq #[] c₁ } → codeAny (model P w) A (.builtin "list.extend.loop" ⟨[.ref l, .ref s.heap.objs.size, res], []⟩) R { s with heap := h, toks := tk } := by
    intro h c₁ tk hst hk e1
    refine codeAny_extend_loopS W.toS hn l nin res x.cps.size 0 _ #[] c₁ rfl (Nat.zero_le _) hst e1 (ItemsOf.nil _) fun s' acc' c' mv e2 its => ?_
    rw [Moved.eq_with mv]
    refine out s'.heap s'.toks acc' c' (fun b o hb e => mv.heap b o (fun hm => ?_) (hk b o hb e)) e2 its
    rcases List.mem_cons.mp hm with e' | hm
    · exact hb e'
    · exact absurd (Heap.lt_size e) (by rw [List.mem_singleton.mp hm]; exact Nat.lt_irrefl _)
  unfold Builtin.List.listExtendWith
  refine wpAny_bind (wpAny_typeOf (T := "str") (typeIs_str s x t) ?_)
  have g1 : Builtin.List.listSameRef (.ref l) (.str x t) = false := rfl
  have g2 : (Value.type "str" == Value.type "list") = false := by decide
  have g3 : (Value.type "str" == Value.type "tuple") = false := by decide
  simp only [g1, g2, g3, Bool.or_false, Bool.false_eq_true, if_false]
  refine wpAny_bind (hit _ _ ?_)
  have e1 := Heap.get?_push_of_some oI el
  refine wpAny_bind (wpAny_holding (ts_hint ?_))
  refine wpAny_ite_split (fun _ => ?_) (fun _ => wpAny_pure ⟨plainId_quiet PySem.F.plain_extend_loop _, loop _ c₀ _ st (fun b o _ e => Heap.get?_push_of_some _ e) e1⟩)
  refine wpAny_bind (wpAny_rule (wpAny_bind ?_))
  show wpAny _ _ (updateSeq l (·.push .none) >>= fun _ => updateSeq l (·.pop)) _ _ _
  refine wpAny_bind (wpAny_updateSeq e1 rfl ?_)
  have e2 := Heap.get?_update_self (Obj.mapSeq (·.push Value.none)) e1 rfl
  refine wpAny_updateSeq (hz := by seq_fits) e2 rfl ?_
  have e3 := Heap.get?_update_self (Obj.mapSeq (·.pop)) e2 rfl
  refine wpAny_pure ⟨plainId_quiet PySem.F.plain_extend_loop _, loop _ _ _ ?_ (fun b o hb e => ?_) e3⟩
  · refine W.frame 0 _ _ st fun b hb o e => ?_
    have nb : l ≠ b := fun h => nin (h ▸ hb)
    exact (Heap.get?_update_other _ _ nb).trans ((Heap.get?_update_other _ _ nb).trans e)
  · exact (Heap.get?_update_other _ _ (Ne.symm hb)).trans ((Heap.get?_update_other _ _ (Ne.symm hb)).trans (Heap.get?_push_of_some _ e))
theorem ts_init {R : Result → Shared → Prop} (hh : A.handled = none) (l : Addr) (el : s.heap.get? l = some { cls := .type "list", data := .seq #[] })
    (out : ∀ h' tk acc' c', (∀ b o, b ≠ l → s.heap.get? b = some o → h'.get? b = some o) → h'.get? l = some { cls := .type "list", dict := none, data := .seq acc' c', slots := #[] } → ItemsOf (SignAt x) acc' x.cps.size → R (.ok (.ret .none)) { s with heap := h', toks := tk }) (hn : x.cps.size ≤ sizeLine) :
    wpAny (model P w) A.in1 (Builtin.«list.__init__» ⟨[.ref l, .str x t], []⟩)
      (fun fin s' => match fin with | .done f => R (.ok f) s' | .again c' => c'.quiet = true ∧ codeAny (model P w) A c' R s') (fun e s' => R (.error e) s') s := by
  show wpAny _ _ (do let was ← Builtin.List.listItems (.ref l); Builtin.List.listUpdate (.ref l) (fun _ => #[]); letGo was.toList.reverse; Builtin.List.listExtendWith (.ref l) (.str x t) .none) _ _ s
  refine wpAny_bind ?_
  unfold Builtin.List.listItems
  refine wpAny_bind (wpAny_seqItems el rfl (wpAny_pure ?_))
  show wpAny _ _ (updateSeq l (fun _ => #[]) >>= fun _ => letGo (#[] : Array Value).toList.reverse >>= fun _ => Builtin.List.listExtendWith (.ref l) (.str x t) .none) _ _ s
  refine wpAny_bind (wpAny_updateSeq el rfl ?_)
  have e2 := Heap.get?_update_self (Obj.mapSeq (fun _ => (#[] : Array Value))) el rfl
  refine wpAny_bind (wpAny_letGo ?_)
  refine ts_extend hh l .none _ e2 (fun h' tk acc' c' hk e3 its => ?_) hn
  exact out h' tk acc' c' (fun b o hb e => hk b o hb ((Heap.get?_update_other _ _ (Ne.symm hb)).trans e)) e3 its
theorem ts_call {Q : Value → Shared → Prop} (hh : A.handled = none) (hn : x.cps.size ≤ sizeLine)
    (out : ∀ h' tk acc' c', (∀ b o, s.heap.get? b = some o → h'.get? b = some o) → h'.get? s.heap.objs.size = some { cls := .type "list", dict := none, data := .seq acc' c', slots := #[] } → ItemsOf (SignAt x) acc' x.cps.size → Q (.ref s.heap.objs.size) { s with heap := h', toks := tk }) :
    wpAny (model P w) A (call (.type "list") [.str x t]) Q E s := by
  refine callType_codes (Q₁ := fun u z => u = .ref s.heap.objs.size ∧ z = { s with heap := s.heap.push { cls := .type "list", data := .seq #[] } }) PySem.F.called_list (PySem.F.typeCall_list_1 _) PySem.F.entry_list_init
    (code_list_new _ ⟨rfl, rfl⟩) fun u z hz => ?_
  obtain ⟨rfl, rfl⟩ := hz
  have el : (s.heap.push { cls := .type "list", data := .seq #[] }).get? s.heap.objs.size = some { cls := .type "list", data := .seq #[] } := Heap.get?_push_size _ rfl
  refine ⟨⟨_, el, rfl⟩, PySem.F.args_list_init_2 _ _, ts_init (A := A.in1) hh _ el (fun h' tk acc' c' hk e2 its => ?_) hn⟩
  exact ⟨rfl, out h' tk acc' c' (fun b o e => hk b o (Nat.ne_of_lt (Heap.lt_size e)) (Heap.get?_push_of_some _ e)) e2 its⟩
end
def sg (c : Nat) : V := .str ⟨#[c]⟩
section
variable {X : Cx}
def cListX : List V → Hp → VK → Prop := fun xs H Q => ∃ z : Str, xs = [.str z] ∧ z.cps.size ≤ sizeLine ∧ ∀ l, H l = none → Q (.ref l) (upd H l (.lst (z.cps.toList.map sg)))
theorem vals_signs {x : Str} : ∀ {us : List Value} {cs : List Nat} (k : Nat), us.length = cs.length → (∀ j v, us[j]? = some v → SignAt x (k + j) v) → (∀ j c, cs[j]? = some c → x.cps[k + j]? = some c) → Vals (cs.map sg) us
  | [], [], _, _, _, _ => .nil
  | [], c :: cs, _, h, _, _ => by cases h
  | u :: us, [], _, h, _, _ => by cases h
  | u :: us, c :: cs, k, h, h1, h2 => by
    refine .cons ?_ (vals_signs (x := x) (k + 1) (by simpa using h) (fun j v e => ?_) (fun j c e => ?_))
    · obtain ⟨c', tk, e1, rfl⟩ := h1 0 u rfl
      have e2 := h2 0 c rfl
      rw [e2] at e1
      cases e1
      exact ⟨_, rfl⟩
    · have := h1 (j + 1) v e
      rwa [show k + (j + 1) = k + 1 + j by omega] at this
    · have := h2 (j + 1) c e
      rwa [show k + (j + 1) = k + 1 + j by omega] at this
theorem call_list_text (hc : X.calm = true) : CallR X (.type "list") cListX := by
  intro pins s σ H xs us Q I r h
  obtain ⟨z, rfl, hz, q⟩ := h
  obtain ⟨u, rfl, rx⟩ := vals1 r
  obtain ⟨tk, rfl⟩ := rx
  have hh : X.A.handled = none := I.ok.hd hc
  refine ts_call hh hz fun h' tk acc' c' hk el its => ?_
  refine ⟨.ref s.heap.objs.size, _, I.laid (t' := tk) hk (Nat.le_refl _) (show ObjOk X.prog X.w _ h' _ (.lst (z.cps.toList.map sg)) from ⟨?_, acc'.toList, c', ?_, ?_⟩), rfl, q _ (I.hok.fresh (Nat.le_refl _))⟩
  · simpa using hz
  · refine vals_signs (x := z) 0 ?_ (fun j v e => ?_) (fun j c e => ?_)
    · have := its.1
      simpa using this
    · have := its.2 j v (by rw [← Array.getElem?_toList]; exact e)
      simpa using this
    · rw [Nat.zero_add, ← Array.getElem?_toList]
      exact e
  · exact el
end
end Pt
namespace Pt
open PySem PySem.Spec PyProof.Rows L2
/-! ### rules for whatever kinds -/
section
variable {X : Cx}
abbrev rInt (g : Int → Int → Int) : R2 := rI0 fun i j => .int (g i j)
def rAddS : R2 := fun x y H Q => ∃ i j, x = .str i ∧ y = .str j ∧ i.length + j.length ≤ sizeLine ∧ Q (.str (i ++ j)) H
def rPlus (K : PySem.W.Frag) : R2 := fun x y H Q => rI0 (fun i j => .int (i + j)) x y H Q ∨ rAddS x y H Q ∨ rCat x y H Q ∨ rCatA K x y H Q
theorem op_plus : OpR X (binaryOp .Add) (rPlus X.K) := op_add.or ((show OpR X (binaryOp .Add) rAddS from op_add_str).or (op_cat.or op_catA))
def rMinus : R2 := rI0 fun i j => .int (i - j)
theorem op_minus : OpR X (binaryOp .Sub) rMinus := op_sub
def rTimes : R2 := fun x y H Q => rI CMul (fun i j => .int (i * j)) x y H Q ∨ rI CMulW (fun i j => .int (i * j)) x y H Q ∨ rRep x y H Q
theorem op_times : OpR X (binaryOp .Mult) rTimes := op_mul.or (op_mulW.or op_rep)
def rMod : R2 := rI (fun _ j => 0 < j) fun i j => .int (i % j)
theorem op_modU : OpR X (binaryOp .Mod) rMod := op_mod
def rDiv : R2 := rI CDiv fun i j => .int (i / j)
theorem op_divU : OpR X (binaryOp .FloorDiv) rDiv := op_fdiv
def rPow : R2 := rI CPow fun i j => .int (i ^ j.toNat)
theorem op_powU : OpR X (binaryOp .Pow) rPow := op_pow
def rLtI : R2 := rI0 fun i j => .bl (decide (i < j))
def rLeI : R2 := rI0 fun i j => .bl (decide (i ≤ j))
def rGtI : R2 := rI0 fun i j => .bl (decide (j < i))
def rGeI : R2 := rI0 fun i j => .bl (decide (j ≤ i))
theorem op_ltI : OpR X (compareOp .Lt) rLtI := op_lt
theorem op_leI : OpR X (compareOp .LtE) rLeI := op_le
theorem op_gtI : OpR X (compareOp .Gt) rGtI := op_gt
theorem op_geI : OpR X (compareOp .GtE) rGeI := op_ge
def rEqU (K : PySem.W.Frag) : R2 := fun x y H Q => rEq x y H Q ∨ rEqD K x y H Q
theorem op_eqU (hu : X.A.units + 64 < cLine) : OpR X (compareOp .Eq) (rEqU X.K) := op_eq.or (op_eqD hu)
def rNeU (K : PySem.W.Frag) : R2 := fun x y H Q => rNe x y H Q ∨ rNeD K x y H Q
theorem op_neU (hu : X.A.units + 64 < cLine) : OpR X (compareOp .NotEq) (rNeU X.K) := op_ne.or (op_neD hu)
def rIsNon : R2 := fun x y H Q => y = .non ∧ Q (.bl (decide (x = .non))) H
def rNotNon : R2 := fun x y H Q => y = .non ∧ Q (.bl (!decide (x = .non))) H
def rIsU : R2 := fun x y H Q => rIsNon x y H Q ∨ rIsB x y H Q
theorem op_isU : OpR X (compareOp .Is) rIsU := (show OpR X (compareOp .Is) rIsNon from op_isN).or op_isBl
def rIsNotU : R2 := fun x y H Q => rNotNon x y H Q ∨ rNotB x y H Q
theorem op_isNotU : OpR X (compareOp .IsNot) rIsNotU := (show OpR X (compareOp .IsNot) rNotNon from op_notN).or op_notBl
def rInSg : R2 := fun x y H Q => ∃ (c : Nat) (z : Str), x = .str ⟨#[c]⟩ ∧ y = .str z ∧ Q (.bl (decide (c ∈ z.cps.toList))) H
def rNotInSg : R2 := fun x y H Q => ∃ (c : Nat) (z : Str), x = .str ⟨#[c]⟩ ∧ y = .str z ∧ Q (.bl (!decide (c ∈ z.cps.toList))) H
def rInDct : R2 := fun y x H Q => ∃ a o, x = .ref a ∧ DGet H a y o ∧ Q (.bl o.isSome) H
def rNotInDct : R2 := fun y x H Q => ∃ a o, x = .ref a ∧ DGet H a y o ∧ Q (.bl (!o.isSome)) H
theorem op_inDct (hu : X.A.units + 64 < cLine) : OpR X (compareOp .In) rInDct := by
  intro pins s σ H y x iv u Q I ry rx h
  obtain ⟨a, ov, ex, g, q⟩ := h
  subst ex
  obtain rfl : u = Value.ref a := rx
  exact d_in (by omega) I g ry fun s3 I3 => ⟨.bl ov.isSome, H, I3, rfl, q⟩
theorem op_notInDct (hu : X.A.units + 64 < cLine) : OpR X (compareOp .NotIn) rNotInDct := by
  intro pins s σ H y x iv u Q I ry rx h
  obtain ⟨a, ov, ex, g, q⟩ := h
  subst ex
  obtain rfl : u = Value.ref a := rx
  exact d_notIn (by omega) I g ry fun s3 I3 => ⟨.bl (!ov.isSome), H, I3, rfl, q⟩
def rInU (K : PySem.W.Frag) : R2 := fun x y H Q => rInSg x y H Q ∨ rInDct x y H Q ∨ rIn K false x y H Q
theorem op_inU (hu : X.A.units + 64 < cLine) : OpR X (compareOp .In) (rInU X.K) := (show OpR X (compareOp .In) rInSg from op_in_sign).or ((op_inDct hu).or op_in_seq)
def rNotInU (K : PySem.W.Frag) : R2 := fun x y H Q => rNotInSg x y H Q ∨ rNotInDct x y H Q ∨ rIn K true x y H Q
theorem op_notInU (hu : X.A.units + 64 < cLine) : OpR X (compareOp .NotIn) (rNotInU X.K) := (show OpR X (compareOp .NotIn) rNotInSg from op_notIn_sign).or ((op_notInDct hu).or op_notIn_seq)
def rIxDct : R2 := fun x y H Q => ∃ a v, x = .ref a ∧ DGet H a y (some v) ∧ Q v H
theorem ix_dct (hu : X.A.units + 64 < cLine) : IxR X rIxDct := by
  intro value slice pins s σ H x y v u Q I rx ry h hs
  obtain ⟨a, z, rfl, g, q⟩ := h
  obtain rfl : v = Value.ref a := rx
  have hT := dict_typeIs I g
  unfold subscriptTail
  refine wpAny_bind ?_
  rw [getitemInPython_of_ne hT.not_modules]
  refine wpAny_bind (wpAny_specialOf hT PySem.F.slot_dict_getitem.lookup ?_)
  have fin : wpAny (model X.prog X.w) X.A (subscripted slice false (.ref a) u) (fun r s₃ => wpAny (model X.prog X.w) X.A (letTemporaryGo value (.ref a) r >>= fun _ => pure r) (EP X pins σ Q) X.xe s₃) X.xe s := by
    rw [hs]
    exact wpAny_operating (wpAny_mono (d_getItem (by omega) I g ry fun w' s3 I3 rw' => (⟨z, H, I3, rw', q⟩ : EP X pins σ Q w' s3)) (fun r s₃ h₃ => wpAny_bind (wpAny_letTemporaryGo (wpAny_pure h₃))) fun _ _ x => x)
  first
    | exact wpAny_pure (wpAny_bind fin)
    | exact wpAny_bind (wpAny_pure (wpAny_bind fin))
    | exact wpAny_bind fin
def rIxU (K : PySem.W.Frag) : R2 := fun x y H Q => rIx K x y H Q ∨ rIxDct x y H Q
theorem ix_U (hu : X.A.units + 64 < cLine) : IxR X (rIxU X.K) := ix_seq.or (ix_dct hu)
abbrev TSl := V → Option Int → Option Int → Hp → VK → Prop
def rSlU (K : PySem.W.Frag) : TSl := fun x lo hi H Q => rSlL K x lo hi H Q ∨ rSlS x lo hi H Q ∨ rSlA K x lo hi H Q
theorem sl_U : SlR X (rSlU X.K) := sl_list.or (sl_str.or sl_tupA)
end
end Pt
namespace Pt
open PySem PySem.Spec PyProof.Rows L2
section
variable {X : Cx}
theorem PSet.or {t u : TSet} (h : PSet X t) (k : PSet X u) : PSet X (fun o i v H Q => t o i v H Q ∨ u o i v H Q) := fun pins s σ H o i v ov iv w Q I ro ri rv d => d.elim (h pins s σ H o i v ov iv w Q I ro ri rv) (k pins s σ H o i v ov iv w Q I ro ri rv)
def rSetU : TSet := fun o i v H Q => rSetL o i v H Q ∨ rSetD o i v H Q
theorem set_U (hu : X.A.units + 64 < cLine) : PSet X rSetU := PSet.or set_list (set_dict (by omega))
abbrev TC := List V → Hp → VK → Prop
def cLen (K : PySem.W.Frag) : TC := fun xs H Q => (∃ x n, xs = [x] ∧ LenV K x H n ∧ Q (.int n) H) ∨ (∃ a kvs, xs = [V.ref a] ∧ H a = some (.dK kvs) ∧ Q (.int kvs.length) H) ∨ rLenT xs H Q
theorem call_lenU : CallR X (.builtin "len") (cLen X.K) := call_len.or (call_lenD.or call_len_dT)
def cListS (K : PySem.W.Frag) : TC := fun xs H Q => ∃ p ys, xs = [.ref p] ∧ (SqL K H p ys ∨ SqT K H p ys) ∧ ∀ l, H l = none → Q (.ref l) (upd H l (.lst ys))
def cListD : TC := fun xs H Q => ∃ (a : Addr) (kvs : List (Key × V)), xs = [.ref a] ∧ Rd H a (.dK kvs) ∧ ∀ p, H p = none → Q (.ref p) (upd H p (.lst (kvs.map fun kv => kV kv.1)))
def cListT : TC := fun xs H Q => ∃ d kvs, xs = [V.ref d] ∧ Rd H d (.dT kvs) ∧ ∀ p bs, H p = none → IsKeys H kvs bs → Q (.ref p) (upd H p (.lst (bs.map V.ref)))
def cList (K : PySem.W.Frag) : TC := fun xs H Q => cListS K xs H Q ∨ cListD xs H Q ∨ cListT xs H Q ∨ cListX xs H Q
theorem call_listU (hc : X.calm = true) : CallR X (.type "list") (cList X.K) := (show CallR X (.type "list") (cListS X.K) from call_list_of).or ((show CallR X (.type "list") cListD from call_listD hc).or ((show CallR X (.type "list") cListT from call_list_dT hc).or (call_list_text hc)))
def cTuple (K : PySem.W.Frag) : TC := fun xs H Q => ∃ p ys, xs = [.ref p] ∧ ((SqL K H p ys ∧ ∀ l, H l = none → Q (.ref l) (upd H l (.tup ys))) ∨ (SqT K H p ys ∧ Q (.ref p) H))
theorem call_tupU : CallR X (.type "tuple") (cTuple X.K) := call_tuple_of
def cInt : TC := fun xs H Q => (∃ i, xs = [.int i] ∧ Q (.int i) H) ∨ ∃ k, xs = [.bl k] ∧ Q (.int (if k then 1 else 0)) H
theorem call_intU : CallR X (.type "int") cInt := call_int1
def cMax2 : TC := fun xs H Q => ∃ i j, xs = [.int i, .int j] ∧ Q (.int (if j > i then j else i)) H
def cMin2 : TC := fun xs H Q => ∃ i j, xs = [.int i, .int j] ∧ Q (.int (if j < i then j else i)) H
def cMax (K : PySem.W.Frag) : TC := fun xs H Q => cMax2 xs H Q ∨ rMax K xs H Q
def cMin (K : PySem.W.Frag) : TC := fun xs H Q => cMin2 xs H Q ∨ rMin K xs H Q
theorem call_maxU (hc : X.calm = true) : CallR X (.builtin "max") (cMax X.K) := (show CallR X (.builtin "max") cMax2 from call_max2 hc).or (cr_max hc)
theorem call_minU (hc : X.calm = true) : CallR X (.builtin "min") (cMin X.K) := (show CallR X (.builtin "min") cMin2 from call_min2 hc).or (cr_min hc)
def cIsi (K : PySem.W.Frag) : TC := fun xs H Q => rIsi K xs H Q ∨ rIsiT K xs H Q
theorem call_isiU : CallR X (.builtin "isinstance") (cIsi X.K) := call_isi.or call_isiT
def cOrd : TC := fun xs H Q => ∃ x, xs = [.str x] ∧ x.length = 1 ∧ Q (.int (x.cps.getD 0 0 : Nat)) H
theorem call_ordU : CallR X (.builtin "ord") cOrd := call_ord
def cDictP (K : PySem.W.Frag) : TC := fun xs H Q => ∃ (a : Addr) (ps : List Addr) (kvs : List (Key × V)), xs = [.ref a] ∧ SqL K H a (ps.map V.ref) ∧ Paired (fun p kv => SqT K H p [kV kv.1, kv.2]) ps kvs ∧ ∀ p, H p = none → Q (.ref p) (upd H p (.dK (mergeK [] kvs)))
def cDictD : TC := fun xs H Q => ∃ (a : Addr) (kvs : List (Key × V)), xs = [.ref a] ∧ Rd H a (.dK kvs) ∧ ∀ p, H p = none → Q (.ref p) (upd H p (.dK kvs))
def cDict (K : PySem.W.Frag) : TC := fun xs H Q => cDictP K xs H Q ∨ cDictD xs H Q
theorem call_dictU (hc : X.calm = true) : CallR X (.type "dict") (cDict X.K) := (show CallR X (.type "dict") (cDictP X.K) from call_dictP hc).or (show CallR X (.type "dict") cDictD from call_dictD)
/-! ### names -/
theorem pe_gi {x : Str} {pos : Pos} {i : Int} (hg : Gl X x) (h : ∃ t, X.mg x = some (.int i t)) (hd : (x == ("__debug__" : Str)) = false := by decide) : PE X (.Name x pos) (tC (.int i)) := by
  obtain ⟨t, h⟩ := h
  exact pe_glob hg h ⟨t, rfl⟩ hd
theorem pe_gs {x : Str} {pos : Pos} {z : Str} (hg : Gl X x) (h : ∃ t, X.mg x = some (.str z t)) (hd : (x == ("__debug__" : Str)) = false := by decide) : PE X (.Name x pos) (tC (.str z)) := by
  obtain ⟨t, h⟩ := h
  exact pe_glob hg h ⟨t, rfl⟩ hd
end
/-! ### own defs by name -/
structure Has (P : Program) (w : World) (K : PySem.W.Frag) (mg : Str → Option Value) (base : Heap) (x : Str) (ps : List Str) (k : Nat) (sp : Sp) : Prop where
  ex : ∃ fd, FnOk P w K mg base CX0 k (He.ga K x) fd ps sp ∧ Binds K fd ps []
  kp : PySem.W.keepIn K (.ref (He.ga K x)) = true
  gl : mg x = some (.ref (He.ga K x))
theorem Has.mono {P : Program} {w : World} {K : PySem.W.Frag} {mg : Str → Option Value} {base : Heap} {x : Str} {ps : List Str} {k k' : Nat} {sp : Sp} (h : Has P w K mg base x ps k sp) (hk : k ≤ k') : Has P w K mg base x ps k' sp := by
  obtain ⟨fd, F, b⟩ := h.ex
  exact ⟨⟨fd, F.mono hk, b⟩, h.kp, h.gl⟩
theorem Has.imp {P : Program} {w : World} {K : PySem.W.Frag} {mg : Str → Option Value} {base : Heap} {x : Str} {ps : List Str} {k : Nat} {sp sp' : Sp} (h : Has P w K mg base x ps k sp) (hs : ∀ vs H Q E, sp' vs H Q E → sp vs H Q E) : Has P w K mg base x ps k sp' := by
  obtain ⟨fd, F, b⟩ := h.ex
  exact ⟨⟨fd, F.imp hs, b⟩, h.kp, h.gl⟩
/-- f(e, ..) of an own def from which no exception leaves -/
def tOwn (sp : Sp) (t : TA) : TE := fun σ H Q => t σ H fun vs H1 => sp vs H1 Q E0
section
variable {X : Cx} {x : Str} {ps : List Str} {k k' : Nat} {sp : Sp} {p pos : Pos} {e : Expr} {es : List Expr} {t : TA}
theorem pe_own (h : Has X.prog X.w X.K X.mg X.base x ps k sp) (hr : Room k' X.A) (hk : k ≤ k') (hg : Gl X x) (ha : PA X (e :: es) t) (hdb : (x == ("__debug__" : Str)) = false := by decide)
    (he : starEach (e :: es) X.env = (false, eval e X.env) :: starEach es X.env := by rfl) (hpl : (backTo pos (starEach es X.env)).any (·.1) = false := by rfl) : PE X (.Call (.Name x p) (e :: es) [] pos) (tOwn sp t) := by
  obtain ⟨fd, F, b⟩ := h.ex
  have q := pe_call (p := p) (pos := pos) F (hr.mono hk) hg h.gl h.kp b .nil pass0 ha hdb he hpl
  refine ⟨fun pins s σ H Q I d => q.run pins s σ H Q I ?_⟩
  have e1 : tCall sp [] E0 t = tOwn sp t := by
    funext σ H Q
    unfold tCall tOwn
    simp only [List.append_nil]
  rw [e1]
  exact d
theorem pe_own0 (h : Has X.prog X.w X.K X.mg X.base x ps k sp) (hr : Room k' X.A) (hk : k ≤ k') (hg : Gl X x) (hdb : (x == ("__debug__" : Str)) = false := by decide) : PE X (.Call (.Name x p) [] [] pos) (tOwn sp tNil) := by
  obtain ⟨fd, F, b⟩ := h.ex
  have q := pe_call0 (p := p) (pos := pos) F (hr.mono hk) hg h.gl h.kp b .nil pass0 (hdb := hdb)
  refine ⟨fun pins s σ H Q I d => q.run pins s σ H Q I ?_⟩
  exact d
end
end Pt
namespace Pt
open PySem PySem.Spec PyProof.Rows L2
section
variable {X : Cx}
def mJoin (K : PySem.W.Frag) : V → List V → Hp → VK → Prop := fun x xs H Q => ∃ a p, ∃ ys : List Str, x = .str a ∧ xs = [.ref p] ∧ (SqL K H p (ys.map V.str) ∨ SqT K H p (ys.map V.str)) ∧ (ys.map (·.length)).sum + ys.length * a.length ≤ 16777216 ∧ Q (.str (Txt.join a ys)) H
theorem pe_joinU {o e : Expr} {to te : TE} {apos pos : Pos} (ho : PE X o to) (he : PE X e te) (hs : starEach [e] X.env = [(false, eval e X.env)] := by rfl) (hbase : attributeBase o "join" X.env (eval o X.env) = eval o X.env := by rfl) (hline : (apos.endLine == pos.line) = true := by rfl) :
    PE X (.Call (.Attribute o "join" apos) [e] [] pos) (tM1 (mJoin X.K) to te) := pe_join ho he hs hbase hline
/-- a test that is a value's truth -/
def tTru (K : PySem.W.Frag) (ta : TE) : TT := fun σ H Q => ta σ H fun x H' => ∃ k, TruV K x H' k ∧ Q k H'
theorem pt_truU {a : Expr} {ta : TE} (ha : PE X a ta) (he : ∀ whole, isTrue a X.env whole = (do let v ← whole; standAt a.pos; holding [v] (truthy v))) : PT X a (tTru X.K ta) := pt_truth ha he
def iSeq (K : PySem.W.Frag) (te : TE) : TI := fun σ H R => iList K te σ H R ∨ iTup K te σ H R ∨ iStr te σ H R
theorem pi_seq {tg e : Expr} {te : TE} (he : PE X e te) : PI X tg e (iSeq X.K te) := PI.or (pi_list he) (PI.or (pi_tup he) (pi_str he))
theorem hu64 {k : Nat} {A : Around} (hr : Room k A) : A.units + 1 < cLine := by have := hr.units; omega
end
/-- a def called by the names of all its parameters, in their order -/
structure HasK (P : Program) (w : World) (K : PySem.W.Frag) (mg : Str → Option Value) (base : Heap) (x : Str) (ps : List Str) (k : Nat) (sp : Sp) : Prop where
  ex : ∃ fd, FnOk P w K mg base CX0 k (He.ga K x) fd ps sp ∧ ∀ (s : Shared) (ws : List Value), ws.length = ps.length → BindsTo s fd ⟨[], ps.zip ws⟩ (ps.zip ws)
  kp : PySem.W.keepIn K (.ref (He.ga K x)) = true
  gl : mg x = some (.ref (He.ga K x))
section
variable {X : Cx} {x : Str} {ps : List Str} {k k' : Nat} {sp : Sp} {p pos : Pos} {kws : List Keyword} {t : TA}
theorem pe_ownK1 (h : HasK X.prog X.w X.K X.mg X.base x ps k sp) (hr : Room k' X.A) (hk : k ≤ k') (hg : Gl X x) (hkw : PK X kws t) (hall : (backToKw pos (keywordEach kws X.env)).all (·.1.isSome) = true := by rfl) (hks : (backToKw pos (keywordEach kws X.env)).filterMap (·.1) = ps := by rfl)
    (hdb : (x == ("__debug__" : Str)) = false := by decide) (hpl : ((backTo pos (starEach [] X.env)).any (·.1) || (backToKw pos (keywordEach kws X.env)).any (·.1.isNone)) = false := by rfl) : PE X (.Call (.Name x p) [] kws pos) (tOwn sp t) := by
  obtain ⟨fd, F, b⟩ := h.ex
  refine ⟨fun pins s σ H Q I d => ?_⟩
  refine wpAny_Call_Name_kw (ld_glob I hg h.gl ?_ hdb)
  refine PySem.W.callWith_KW0 (first := []) (h₀ := X.base) I.ok.mod.kin h.kp hall (thn (hkw.run pos pins s σ H _ I d) fun ws s2 ⟨zs, H2, I2, rz, q2⟩ => ⟨I2.kIn, ?_⟩) hpl
  rw [hks]
  have hl : ws.length = ps.length := by rw [← rz.length]; exact F.len _ _ _ _ q2
  refine wpAny_call (codeAny_mono (F.run X.A X.stack s2 H2 ⟨[], ps.zip ws⟩ ws zs Q E0 (hr.mono hk) I2.env0 (b s2 ws hl) rz q2) fun r s' hq => ?_)
  cases r with
  | error e => exact pass0 pins σ H2 s2 e s' I2 hq
  | ok fl =>
    cases fl with
    | ret u => exact I2.after hq
    | next => exact False.elim hq
    | brk => exact False.elim hq
    | cont => exact False.elim hq
end
end Pt
namespace Pt
open PySem PySem.Spec PyProof.Rows L2
/-! ### steps of a reading -/
section
variable {K : PySem.W.Frag} {σ : L2.St} {H : Hp} {D : Ends} {Q : VK} {v x y : V} {i j : Nat} {te ta tb tc to ti : TE} {t u : TS} {tt tu : TT} {as ar : TA} {g : TG} {gs : TGs}
theorem w_seq (h : t { D with nx := u D } σ H) : tSeq t u D σ H := h
theorem w_next (h : D.nx σ H) : tNext D σ H := h
theorem w_brk (h : D.bk σ H) : tBreak D σ H := h
theorem w_cont (h : D.ct σ H) : tCont D σ H := h
theorem w_ret (h : te σ H D.rt) : tRet te D σ H := h
theorem w_retN (h : D.rt .non H) : tRetN D σ H := h
theorem w_asg (h : te σ H fun x H1 => g x σ H1 D.nx) : tAsg te g D σ H := h
theorem w_drop (h : te σ H fun _ H1 => D.nx σ H1) : tDrop te D σ H := h
theorem w_if (h : tt σ H fun b H1 => if b = true then t D σ H1 else u D σ H1) : tIfS tt t u D σ H := h
theorem w_par (h : as σ H fun vs H1 => ∃ v w, vs = [v, w] ∧ D.nx ((σ.set i (some v)).set j (some w)) H1) : tPar i j as D σ H := h
theorem w_par3 {l : Nat} (h : as σ H fun vs H1 => ∃ u v w, vs = [u, v, w] ∧ D.nx (((σ.set i (some u)).set j (some v)).set l (some w)) H1) : tPar3 i j l as D σ H := h
theorem e_two {a b : V} {P : V → V → Prop} (h : P a b) : ∃ v w, [a, b] = [v, w] ∧ P v w := ⟨a, b, rfl, h⟩
theorem e_three {a b c : V} {P : V → V → V → Prop} (h : P a b c) : ∃ u v w, [a, b, c] = [u, v, w] ∧ P u v w := ⟨a, b, c, rfl, h⟩
theorem w_gn {R : L2.St → Hp → Prop} (h : R (σ.set i (some v)) H) : gName i v σ H R := h
theorem w_gsub {s : TSet} {R : L2.St → Hp → Prop} (h : to σ H fun o H1 => ti σ H1 fun i H2 => s o i v H2 fun H3 => R σ H3) : gSub to ti s v σ H R := h
theorem w_gtup {R : L2.St → Hp → Prop} {n : Nat} {a : Addr} {xs : List V} (hs : SqT K H a xs) (hn : xs.length = n) (h : gs xs σ H R) : gTup K n gs (.ref a) σ H R := ⟨a, xs, rfl, hs, hn, h⟩
theorem w_gcons {R : L2.St → Hp → Prop} {r : List V} (h : g v σ H fun σ' H' => gs r σ' H' R) : gCons g gs (v :: r) σ H R := ⟨v, r, rfl, h⟩
theorem w_gnil {R : L2.St → Hp → Prop} (h : R σ H) : gNil [] σ H R := ⟨rfl, h⟩
theorem w_var (h : σ[i]? = some (some v)) (q : Q v H) : tVar i σ H Q := ⟨v, h, q⟩
theorem w_c (q : Q v H) : tC v σ H Q := q
theorem w_op {r : R2} (h : ta σ H fun x H1 => tb σ H1 fun y H2 => r x y H2 Q) : tOp r ta tb σ H Q := h
theorem w_un {r : V → Hp → VK → Prop} (h : ta σ H fun x H1 => r x H1 Q) : tUn r ta σ H Q := h
theorem w_chain {r r' : R2} (h : ta σ H fun x H1 => tb σ H1 fun y H2 => r x y H2 fun z H3 => ∃ k, z = .bl k ∧ (if k = true then tc σ H3 fun w' H4 => r' y w' H4 Q else Q (.bl false) H3)) : tChain r r' ta tb tc σ H Q := h
theorem w_andT (h : ta σ H fun x H1 => ∃ k, TruV K x H1 k ∧ if k = true then tb σ H1 Q else Q x H1) : tAndT K ta tb σ H Q := h
theorem w_orT (h : ta σ H fun x H1 => ∃ k, TruV K x H1 k ∧ if k = true then Q x H1 else tb σ H1 Q) : tOrT K ta tb σ H Q := h
theorem w_notT (h : ta σ H fun x H1 => ∃ k, TruV K x H1 k ∧ Q (.bl (!k)) H1) : tNotT K ta σ H Q := h
theorem w_ifx (h : tt σ H fun c H1 => if c = true then ta σ H1 Q else tb σ H1 Q) : tIf tt ta tb σ H Q := h
theorem w_cb {r : TC} (h : as σ H fun vs H1 => r vs H1 Q) : tCB r as σ H Q := h
theorem w_own {sp : Sp} (h : as σ H fun vs H1 => sp vs H1 Q E0) : tOwn sp as σ H Q := h
theorem w_tup (h : as σ H fun xs H1 => xs.length ≤ sizeLine ∧ ∀ p, H1 p = none → Q (.ref p) (upd H1 p (.tup xs))) : tTup as σ H Q := h
theorem w_lst (h : as σ H fun xs H1 => xs.length ≤ sizeLine ∧ ∀ p, H1 p = none → Q (.ref p) (upd H1 p (.lst xs))) : tLst as σ H Q := h
theorem w_cons {R : List V → Hp → Prop} (h : ta σ H fun x H1 => ar σ H1 fun xs H2 => R (x :: xs) H2) : tCons ta ar σ H R := h
theorem w_nil {R : List V → Hp → Prop} (h : R [] H) : tNil σ H R := h
theorem w_bm {T : String} {r : V → List V → Hp → VK → Prop} (h : to σ H fun x H1 => tyV K T x H1 ∧ as σ H1 fun xs H2 => r x xs H2 Q) : tBM K T r to as σ H Q := h
theorem w_bm0 {T : String} {r : V → List V → Hp → VK → Prop} (h : to σ H fun x H1 => tyV K T x H1 ∧ r x [] H1 Q) : tBM0 K T r to σ H Q := h
theorem w_m1 {r : V → List V → Hp → VK → Prop} (h : to σ H fun x H1 => (∃ a, x = .str a) ∧ te σ H1 fun y H2 => r x [y] H2 Q) : tM1 r to te σ H Q := h
theorem w_part {R : Option Int → Hp → Prop} (h : te σ H fun x H1 => ∃ i, x = .int i ∧ R (some i) H1) : tPart te σ H R := h
theorem w_nopart {R : Option Int → Hp → Prop} (h : R none H) : tNoPart σ H R := h
theorem w_sl {r : TSl} {tl th : TO} (h : te σ H fun x H1 => tl σ H1 fun lo H2 => th σ H2 fun hi H3 => r x lo hi H3 Q) : tSl r te tl th σ H Q := h
theorem w_test {R : Bool → Hp → Prop} (h : te σ H fun x H' => ∃ k, x = .bl k ∧ R k H') : tTest te σ H R := h
theorem w_tru {R : Bool → Hp → Prop} (h : te σ H fun x H' => ∃ k, TruV K x H' k ∧ R k H') : tTru K te σ H R := h
theorem w_tnot {R : Bool → Hp → Prop} (h : tt σ H fun c H1 => R (!c) H1) : tNot tt σ H R := h
theorem w_tand {R : Bool → Hp → Prop} (h : tt σ H fun c H1 => if c = true then tu σ H1 R else R false H1) : tAnd tt tu σ H R := h
theorem w_tor {R : Bool → Hp → Prop} (h : tt σ H fun c H1 => if c = true then R true H1 else tu σ H1 R) : tOr tt tu σ H R := h
theorem w_yes {R : Bool → Hp → Prop} (h : R true H) : tYes σ H R := h
/-! ### values -/
theorem e_bl {b : Bool} {P : Bool → Prop} (h : P b) : ∃ k, V.bl b = .bl k ∧ P k := ⟨b, rfl, h⟩
theorem e_int {z : Int} {P : Int → Prop} (h : P z) : ∃ i, V.int z = .int i ∧ P i := ⟨z, rfl, h⟩
theorem e_str {z : Str} {P : Prop} (h : P) : (∃ a, V.str z = .str a) ∧ P := ⟨⟨z, rfl⟩, h⟩
theorem e_tb {b : Bool} {P : Bool → Prop} (h : P b) : ∃ k, TruV K (.bl b) H k ∧ P k := ⟨b, rfl, h⟩
theorem e_ti {z : Int} {P : Bool → Prop} (h : P (z != 0)) : ∃ k, TruV K (.int z) H k ∧ P k := ⟨_, rfl, h⟩
theorem e_tn {P : Bool → Prop} (h : P false) : ∃ k, TruV K .non H k ∧ P k := ⟨_, rfl, h⟩
theorem e_tl {a : Addr} {xs : List V} {P : Bool → Prop} (hs : SqL K H a xs) (h : P (!xs.isEmpty)) : ∃ k, TruV K (.ref a) H k ∧ P k := ⟨_, .inl ⟨xs, hs, rfl⟩, h⟩
theorem e_tt {a : Addr} {xs : List V} {P : Bool → Prop} (hs : SqT K H a xs) (h : P (!xs.isEmpty)) : ∃ k, TruV K (.ref a) H k ∧ P k := ⟨_, .inr (.inl ⟨xs, hs, rfl⟩), h⟩
theorem e_tyl {a : Addr} {xs : List V} {P : Prop} (hs : SqL K H a xs) (h : P) : tyV K "list" (.ref a) H ∧ P := ⟨.inl ⟨rfl, _, hs⟩, h⟩
theorem w_ite {b : Bool} {A B : Prop} (h1 : b = true → A) (h2 : b = false → B) : if b = true then A else B := by
  cases b with
  | true => rw [if_pos rfl]; exact h1 rfl
  | false => rw [if_neg Bool.false_ne_true]; exact h2 rfl
theorem w_iteT {b : Bool} {A B : Prop} (hb : b = true) (h : A) : if b = true then A else B := by rw [if_pos hb]; exact h
theorem w_iteF {b : Bool} {A B : Prop} (hb : b = false) (h : B) : if b = true then A else B := by rw [hb, if_neg Bool.false_ne_true]; exact h
/-! ### operators by values -/
theorem plus_i {a b : Int} (q : Q (.int (a + b)) H) : rPlus K (.int a) (.int b) H Q := .inl ⟨a, b, rfl, rfl, q⟩
theorem plus_s {a b : Str} (hl : a.length + b.length ≤ sizeLine) (q : Q (.str (a ++ b)) H) : rPlus K (.str a) (.str b) H Q := .inr (.inl ⟨a, b, rfl, rfl, hl, q⟩)
theorem plus_l {a b : Addr} {xs ys : List V} (ha : H a = some (.lst xs)) (hb : H b = some (.lst ys)) (hl : xs.length + ys.length ≤ sizeLine) (q : ∀ p, H p = none → Q (.ref p) (upd H p (.lst (xs ++ ys)))) : rPlus K (.ref a) (.ref b) H Q := .inr (.inr (.inl ⟨a, b, xs, ys, rfl, rfl, ha, hb, hl, q⟩))
theorem minus_i {a b : Int} (q : Q (.int (a - b)) H) : rMinus (.int a) (.int b) H Q := ⟨a, b, rfl, rfl, q⟩
theorem times_l {a b : Int} (h : -(2 ^ 64) < a ∧ a < 2 ^ 64) (q : Q (.int (a * b)) H) : rTimes (.int a) (.int b) H Q := .inl ⟨a, b, rfl, rfl, .inl h, q⟩
theorem times_r {a b : Int} (h : -(2 ^ 64) < b ∧ b < 2 ^ 64) (q : Q (.int (a * b)) H) : rTimes (.int a) (.int b) H Q := .inl ⟨a, b, rfl, rfl, .inr h, q⟩
theorem mod_i {a b : Int} (h : 0 < b) (q : Q (.int (a % b)) H) : rMod (.int a) (.int b) H Q := ⟨a, b, rfl, rfl, h, q⟩
theorem div_i {a b : Int} (h : 0 < b) (h2 : b < 1073741824) (q : Q (.int (a / b)) H) : rDiv (.int a) (.int b) H Q := ⟨a, b, rfl, rfl, ⟨h, h2⟩, q⟩
theorem pow_i {a b : Int} (h : 0 ≤ b) (h2 : b ≤ 1000000) (h3 : a.natAbs < 2 ^ 64) (q : Q (.int (a ^ b.toNat)) H) : rPow (.int a) (.int b) H Q := ⟨a, b, rfl, rfl, ⟨h, h2, h3⟩, q⟩
theorem lt_i {a b : Int} (q : Q (.bl (decide (a < b))) H) : rLtI (.int a) (.int b) H Q := ⟨a, b, rfl, rfl, q⟩
theorem le_i {a b : Int} (q : Q (.bl (decide (a ≤ b))) H) : rLeI (.int a) (.int b) H Q := ⟨a, b, rfl, rfl, q⟩
theorem gt_i {a b : Int} (q : Q (.bl (decide (b < a))) H) : rGtI (.int a) (.int b) H Q := ⟨a, b, rfl, rfl, q⟩
theorem ge_i {a b : Int} (q : Q (.bl (decide (b ≤ a))) H) : rGeI (.int a) (.int b) H Q := ⟨a, b, rfl, rfl, q⟩
theorem dec_i {a b : Int} : decide (V.int a = V.int b) = decide (a = b) := by simp
theorem dec_s {a b : Str} : decide (V.str a = V.str b) = decide (a = b) := by simp
theorem dec_b {a b : Bool} : decide (V.bl a = V.bl b) = decide (a = b) := by simp
theorem eq_i {a b : Int} (q : Q (.bl (decide (a = b))) H) : rEqU K (.int a) (.int b) H Q := .inl ⟨rfl, by rw [dec_i]; exact q⟩
theorem eq_s {a b : Str} (q : Q (.bl (decide (a = b))) H) : rEqU K (.str a) (.str b) H Q := .inl ⟨rfl, by rw [dec_s]; exact q⟩
theorem eq_b {a b : Bool} (q : Q (.bl (decide (a = b))) H) : rEqU K (.bl a) (.bl b) H Q := .inl ⟨rfl, by rw [dec_b]; exact q⟩
theorem ne_i {a b : Int} (q : Q (.bl (!decide (a = b))) H) : rNeU K (.int a) (.int b) H Q := .inl ⟨rfl, by rw [dec_i]; exact q⟩
theorem ne_s {a b : Str} (q : Q (.bl (!decide (a = b))) H) : rNeU K (.str a) (.str b) H Q := .inl ⟨rfl, by rw [dec_s]; exact q⟩
theorem ne_b {a b : Bool} (q : Q (.bl (!decide (a = b))) H) : rNeU K (.bl a) (.bl b) H Q := .inl ⟨rfl, by rw [dec_b]; exact q⟩
theorem eq_D {d e : PyData} (hx : Dp K H x d) (hy : Dp K H y e) (sd : SeqAt.shaped d = true) (se : SeqAt.shaped e = true) (q : Q (.bl (PyData.eqv d e)) H) : rEqU K x y H Q := .inr ⟨d, e, hx, hy, sd, se, q⟩
theorem ne_D {d e : PyData} (hx : Dp K H x d) (hy : Dp K H y e) (sd : SeqAt.shaped d = true) (se : SeqAt.shaped e = true) (q : Q (.bl (!PyData.eqv d e)) H) : rNeU K x y H Q := .inr ⟨d, e, hx, hy, sd, se, q⟩
theorem is_N {b : Bool} (hb : decide (x = .non) = b) (q : Q (.bl b) H) : rIsU x .non H Q := .inl ⟨rfl, by rw [hb]; exact q⟩
theorem isnt_N {b : Bool} (hb : decide (x = .non) = b) (q : Q (.bl (!b)) H) : rIsNotU x .non H Q := .inl ⟨rfl, by rw [hb]; exact q⟩
theorem is_b {a b : Bool} (q : Q (.bl (decide (a = b))) H) : rIsU (.bl a) (.bl b) H Q := .inr ⟨a, b, rfl, rfl, q⟩
theorem isnt_b {a b : Bool} (q : Q (.bl (!decide (a = b))) H) : rIsNotU (.bl a) (.bl b) H Q := .inr ⟨a, b, rfl, rfl, q⟩
theorem in_sg {c : Nat} {z : Str} (q : Q (.bl (decide (c ∈ z.cps.toList))) H) : rInU K (.str ⟨#[c]⟩) (.str z) H Q := .inl ⟨c, z, rfl, rfl, q⟩
theorem notin_sg {c : Nat} {z : Str} (q : Q (.bl (!decide (c ∈ z.cps.toList))) H) : rNotInU K (.str ⟨#[c]⟩) (.str z) H Q := .inl ⟨c, z, rfl, rfl, q⟩
theorem in_d {a : Addr} {o : Option V} (g : DGet H a x o) (q : Q (.bl o.isSome) H) : rInU K x (.ref a) H Q := .inr (.inl ⟨a, o, rfl, g, q⟩)
theorem notin_d {a : Addr} {o : Option V} (g : DGet H a x o) (q : Q (.bl (!o.isSome)) H) : rNotInU K x (.ref a) H Q := .inr (.inl ⟨a, o, rfl, g, q⟩)
theorem in_l {a : Addr} {xs : List V} (hs : SqL K H a xs ∨ SqT K H a xs) (hx : flatV x = true) (ha : xs.all flatV = true) (q : Q (.bl (inV x xs)) H) : rInU K x (.ref a) H Q := .inr (.inr ⟨a, xs, rfl, hs, hx, ha, q⟩)
theorem notin_l {a : Addr} {xs : List V} (hs : SqL K H a xs ∨ SqT K H a xs) (hx : flatV x = true) (ha : xs.all flatV = true) (q : Q (.bl (!inV x xs)) H) : rNotInU K x (.ref a) H Q := .inr (.inr ⟨a, xs, rfl, hs, hx, ha, q⟩)
theorem ix_l {p : Addr} {xs : List V} {z : Int} (hs : SqL K H p xs) (ha : atI xs z = some v) (q : Q v H) : rIxU K (.ref p) (.int z) H Q := .inl (.inl ⟨p, xs, z, v, rfl, rfl, hs, ha, q⟩)
theorem ix_t {p : Addr} {xs : List V} {z : Int} (hs : SqT K H p xs) (ha : atI xs z = some v) (q : Q v H) : rIxU K (.ref p) (.int z) H Q := .inl (.inr (.inl ⟨p, xs, z, v, rfl, rfl, hs, ha, q⟩))
theorem ix_s {z : Str} {k : Int} {c : Nat} (hl : z.length ≤ sizeLine) (ha : atI z.cps.toList k = some c) (q : Q (.str ⟨#[c]⟩) H) : rIxU K (.str z) (.int k) H Q := .inl (.inr (.inr ⟨z, k, c, rfl, rfl, hl, ha, q⟩))
theorem ix_d {p : Addr} (g : DGet H p y (some v)) (q : Q v H) : rIxU K (.ref p) y H Q := .inr ⟨p, v, rfl, g, q⟩
theorem sl_l {p : Addr} {xs : List V} {lo hi : Option Int} (hs : SqL K H p xs) (q : ∀ l, H l = none → Q (.ref l) (upd H l (.lst (cutV xs lo hi)))) : rSlU K (.ref p) lo hi H Q := .inl ⟨p, xs, rfl, hs, q⟩
theorem sl_s {z : Str} {lo hi : Option Int} (hl : z.length ≤ sizeLine) (q : Q (.str (cutS z lo hi)) H) : rSlU K (.str z) lo hi H Q := .inr (.inl ⟨z, rfl, hl, q⟩)
theorem set_l {p : Addr} {xs : List V} {z : Int} {k : Nat} {R : Hp → Prop} (h : H p = some (.lst xs)) (hk : ixN xs.length z = some k) (q : R (upd H p (.lst (xs.set k v)))) : rSetU (.ref p) (.int z) v H R := .inl ⟨p, xs, z, k, rfl, rfl, h, hk, q⟩
theorem set_d {p : Addr} {H' : Hp} {R : Hp → Prop} (g : DPut H p y v H') (q : R H') : rSetU (.ref p) y v H R := .inr ⟨p, H', rfl, g, q⟩
theorem len_l {p : Addr} {xs : List V} (hs : SqL K H p xs) (q : Q (.int xs.length) H) : cLen K [.ref p] H Q := .inl ⟨_, _, rfl, .inl ⟨xs, hs, rfl⟩, q⟩
theorem len_t {p : Addr} {xs : List V} (hs : SqT K H p xs) (q : Q (.int xs.length) H) : cLen K [.ref p] H Q := .inl ⟨_, _, rfl, .inr ⟨xs, hs, rfl⟩, q⟩
theorem len_s {z : Str} (hl : z.length ≤ sizeLine) (q : Q (.int z.length) H) : cLen K [.str z] H Q := .inl ⟨_, _, rfl, ⟨hl, rfl⟩, q⟩
theorem int_i {z : Int} (q : Q (.int z) H) : cInt [.int z] H Q := .inl ⟨z, rfl, q⟩
theorem int_b {b : Bool} (q : Q (.int (if b then 1 else 0)) H) : cInt [.bl b] H Q := .inr ⟨b, rfl, q⟩
theorem ord_1 {c : Nat} (q : Q (.int (c : Nat)) H) : cOrd [.str ⟨#[c]⟩] H Q := ⟨_, rfl, rfl, q⟩
theorem list_s {p : Addr} {xs : List V} (hs : SqL K H p xs ∨ SqT K H p xs) (q : ∀ l, H l = none → Q (.ref l) (upd H l (.lst xs))) : cList K [.ref p] H Q := .inl ⟨p, xs, rfl, hs, q⟩
theorem tuple_l {p : Addr} {xs : List V} (hs : SqL K H p xs) (q : ∀ l, H l = none → Q (.ref l) (upd H l (.tup xs))) : cTuple K [.ref p] H Q := ⟨p, xs, rfl, .inl ⟨hs, q⟩⟩
theorem tuple_t {p : Addr} {xs : List V} (hs : SqT K H p xs) (q : Q (.ref p) H) : cTuple K [.ref p] H Q := ⟨p, xs, rfl, .inr ⟨hs, q⟩⟩
theorem isi_1 {n : String} {t : Value} {b : Bool} (ty : TyX K H x t) (hb : PySem.W.kitOne K t (.type n) = some b) (q : Q (.bl b) H) : cIsi K [x, .ty n] H Q := .inl ⟨x, .ty n, t, .type n, b, rfl, .ty n, ty, hb, q⟩
end
/-! ### heaps -/
theorem lk_ne {H : Hp} {a p : Addr} {o u : HO} (h : a ≠ p) (e : H a = some u) : upd H p o a = some u := by rw [upd_ne h]; exact e
theorem Same.at {H H' : Hp} {a : Addr} {o : HO} (e : Same H H') (h : H a = some o) : H' a = some o := e a o h
/-- all but R stands as it stood; what is tracked stays tracked -/
structure Frm (R : List Addr) (H H' : Hp) : Prop where
  at_ : ∀ a o, a ∉ R → H a = some o → H' a = some o
  live : ∀ a, H a ≠ none → H' a ≠ none
theorem Frm.refl (R : List Addr) (H : Hp) : Frm R H H := ⟨fun _ _ _ h => h, fun _ h => h⟩
theorem Frm.trans {R : List Addr} {H H1 H2 : Hp} (a : Frm R H H1) (b : Frm R H1 H2) : Frm R H H2 := ⟨fun x o hx h => b.at_ x o hx (a.at_ x o hx h), fun x h => b.live x (a.live x h)⟩
theorem Same.live {H H' : Hp} (e : Same H H') (a : Addr) (h : H a ≠ none) : H' a ≠ none := fun z => by
  cases q : H a with
  | none => exact h q
  | some o => rw [e a o q] at z; cases z
theorem Same.frm {R : List Addr} {H H' : Hp} (a : Same H H') : Frm R H H' := ⟨fun x o _ h => a x o h, fun x h => Same.live a x h⟩
theorem Frm.same {H H' : Hp} (a : Frm [] H H') : Same H H' := fun x o h => a.at_ x o (by simp) h
theorem same_new {H : Hp} {p : Addr} {o : HO} (h : H p = none) : Same H (upd H p o) := fun b x e => by rw [upd_ne (ne_of_none e h)]; exact e
theorem frm_new {R : List Addr} {H : Hp} {p : Addr} {o : HO} (h : H p = none) : Frm R H (upd H p o) := Same.frm (same_new h)
theorem frm_upd {R : List Addr} {H : Hp} {p : Addr} {o : HO} (h : p ∈ R) : Frm R H (upd H p o) := ⟨fun b x hb e => by
  rw [upd_ne (fun z => hb (by rw [z]; exact h))]
  exact e, fun b hb => by
    by_cases q : b = p
    · rw [q, upd_same]; intro z; cases z
    · rw [upd_ne q]; exact hb⟩
theorem Frm.mono {R S : List Addr} {H H' : Hp} (a : Frm R H H') (h : ∀ x ∈ R, x ∈ S) : Frm S H H' := ⟨fun x o hx e => a.at_ x o (fun z => hx (h x z)) e, a.live⟩
theorem Frm.free {R : List Addr} {H H' : Hp} (a : Frm R H H') {p : Addr} (h : H' p = none) : H p = none := by
  cases q : H p with
  | none => rfl
  | some o => exact absurd h (a.live p (by rw [q]; intro z; cases z))
theorem same_free {H H' : Hp} (e : Same H H') {p : Addr} (h : H' p = none) : H p = none := (Same.frm (R := []) e).free h
section
variable {K : PySem.W.Frag} {G H H' : Hp}
theorem rd_same {a : Addr} {u : HO} (e : Same H H') (h : Rd H a u) : Rd H' a u := by
  rcases h with h | ⟨o, h⟩
  · exact .inl (e _ _ h)
  · exact .inr ⟨o, e _ _ h⟩
theorem sql_same {a : Addr} {xs : List V} (e : Same H H') (h : SqL K H a xs) : SqL K H' a xs := by
  rcases h with h | h
  · exact .inl (rd_same e h)
  · exact .inr h
theorem sqt_same {a : Addr} {xs : List V} (e : Same H H') (h : SqT K H a xs) : SqT K H' a xs := by
  rcases h with h | h
  · exact .inl (rd_same e h)
  · exact .inr h
theorem sql_of {a : Addr} {xs : List V} (h : H a = some (.lst xs)) : SqL K H a xs := .inl (.inl h)
theorem sqt_of {a : Addr} {xs : List V} (h : H a = some (.tup xs)) : SqT K H a xs := .inl (.inl h)
mutual
theorem dp_same (e : Same H H') : ∀ {d : PyData} {v : V}, Dp K H v d → Dp K H' v d
  | _, _, .non => .non
  | _, _, .bl b => .bl b
  | _, _, .int i => .int i
  | _, _, .str x => .str x
  | _, _, .lst s h => .lst (sql_same e s) (dpa_same e h)
  | _, _, .tup s h => .tup (sqt_same e s) (dpa_same e h)
theorem dpa_same (e : Same H H') : ∀ {ds : List PyData} {vs : List V}, DpAll K H vs ds → DpAll K H' vs ds
  | _, _, .nil => .nil
  | _, _, .cons h t => .cons (dp_same e h) (dpa_same e t)
end
end
end Pt
namespace Pt
open PySem PySem.Spec PyProof.Rows L2
/-! ### the heap without M -/
def hid (M : List Addr) (H : Hp) : Hp := fun a => if a ∈ M then none else H a
def InH (M : List Addr) (H : Hp) : Prop := ∀ a ∈ M, H a ≠ none
section
variable {M W : List Addr} {H H' H1 H2 : Hp} {a p : Addr} {o : HO}
theorem hid_at (h : a ∉ M) : hid M H a = H a := if_neg h
theorem hid_in (h : a ∈ M) : hid M H a = none := if_pos h
theorem hid_of (h : hid M H a = some o) : a ∉ M ∧ H a = some o := by
  by_cases q : a ∈ M
  · rw [hid_in q] at h; cases h
  · rw [hid_at q] at h; exact ⟨q, h⟩
theorem hid_nil : hid [] H = H := funext fun a => hid_at (by simp)
theorem hid_sub : Same (hid M H) H := fun a o h => (hid_of h).2
theorem hid_frm (f : Frm W H H') (h : ∀ x ∈ W, x ∈ M) : Same (hid M H) (hid M H') := fun a o e => by
  obtain ⟨q, e⟩ := hid_of e
  rw [hid_at q]
  exact f.at_ a o (fun z => q (h a z)) e
theorem hid_mono {N : List Addr} (h : ∀ x ∈ N, x ∈ M) : Same (hid M H) (hid N H) := fun a o e => by
  obtain ⟨q, e⟩ := hid_of e
  rw [hid_at (fun z => q (h a z))]
  exact e
theorem hid_same (e : Same H H') : Same (hid M H) (hid M H') := hid_frm (W := []) (Same.frm e) (by simp)
theorem hid_cons : Same (hid (p :: M) H) (hid M H) := fun a o e => by
  obtain ⟨q, e⟩ := hid_of e
  rw [hid_at (fun z => q (List.mem_cons_of_mem _ z))]
  exact e
theorem hid_add (hp : H p = none) (e : Same H H') : Same (hid M H) (hid (p :: M) H') := fun a o x => by
  obtain ⟨q, x⟩ := hid_of x
  have ne : a ≠ p := ne_of_none x hp
  rw [hid_at (by simp [ne, q])]
  exact e a o x
theorem hid_upd (h : p ∈ M) : Same (hid M H) (hid M (upd H p o)) := hid_frm (W := [p]) (frm_upd (by simp)) (by simpa using h)
theorem InH.nil : InH [] H := fun _ h => by cases h
theorem InH.frm (i : InH M H) (e : Frm W H H') : InH M H' := fun a h => e.live a (i a h)
theorem InH.same (i : InH M H) (e : Same H H') : InH M H' := fun a h => Same.live e a (i a h)
theorem InH.upd (i : InH M H) : InH M (upd H p o) := fun a h => by
  by_cases q : a = p
  · rw [q, upd_same]; intro z; cases z
  · rw [upd_ne q]; exact i a h
theorem InH.cons (i : InH M H) (h : H p ≠ none) : InH (p :: M) H := fun a z => by
  rcases List.mem_cons.mp z with e | e
  · rw [e]; exact h
  · exact i a e
theorem InH.ne (i : InH M H) (h : H p = none) : p ∉ M := fun z => i p z h
theorem InH.some (h : H p = some o) : H p ≠ none := by rw [h]; intro z; cases z
theorem Same.refl' (H : Hp) : Same H H := fun _ _ h => h
end
/-! ### comprehensions -/
/-- M hidden, W of it may be written; S over the heap, R over what is known -/
theorem lc_full {J : It} {n : Nat} {Gw : Hp → Prop} {Y : Nat → Hp → V → Hp → Prop} (w : Walk J n Gw Y) {g : TG} {tt : TT} {te : TE} {vs : List Nat} {σ : L2.St} {H1 : Hp} {Qd : Addr → Hp → Prop}
    (M W : List Addr) (S : Nat → List V → Hp → Prop) (R : Nat → List V → Hp → Prop) (hi : InH M H1) (hW : ∀ x ∈ W, x ∈ M)
    (hS : ∀ i acc H D xs, H1 D = none → S i acc H → S i acc (upd H D (.lst xs))) (h0 : S 0 [] H1) (r0 : ∀ G, Same (hid M H1) G → R 0 [] G) (hR : ∀ i acc G G', Same G G' → R i acc G → R i acc G')
    (hG : ∀ i acc H, i ≤ n → Frm W H1 H → S i acc H → Gw H) (hn : n ≤ sizeLine)
    (hs : ∀ D i acc x H H2 (Nx : Hp → Prop), H1 D = none → i < n → Frm W H1 H → Same (hid M H1) (hid (D :: M) H) → InH (D :: M) H → H D = some (.lst acc) → S i acc H → R i acc (hid (D :: M) H) → acc.length ≤ i → Y i H x H2 →
      (∀ y H5, Frm W H H5 → S (i + 1) (acc ++ [y]) H5 → R (i + 1) (acc ++ [y]) (hid (D :: M) H5) → ∃ acc', H5 D = some (.lst acc') ∧ acc'.length < sizeLine ∧ Nx (upd H5 D (.lst (acc' ++ [y])))) →
      (∀ H4, Frm W H H4 → S (i + 1) acc H4 → R (i + 1) acc (hid (D :: M) H4) → Nx H4) →
      g x (wipe σ vs) H2 fun σ2 H3 => wipe σ2 vs = wipe σ vs ∧ tt σ2 H3 fun b H4 => if b = true then te σ2 H4 fun y H5 => ∃ acc, H5 D = some (.lst acc) ∧ acc.length < sizeLine ∧ Nx (upd H5 D (.lst (acc ++ [y]))) else Nx H4)
    (hd : ∀ D acc H, H1 D = none → Frm W H1 H → InH (D :: M) H → Same (hid M H1) (hid (D :: M) H) → H D = some (.lst acc) → S n acc H → R n acc (hid (D :: M) H) → acc.length ≤ n → Qd D H) :
    ∀ D, H1 D = none → ∃ W : Nat → Nat → Hp → Prop, (∃ m, W 0 m (upd H1 D (.lst []))) ∧ ∀ i m H, W i m H →
      (J.stop i H ∧ Qd D H) ∨ (J.go i H ∧ ∃ Nx : Hp → Prop, (∀ H', Nx H' → ∃ m', m' < m ∧ W (i + 1) m' H') ∧ ∀ x H', J.yld i H x H' → g x (wipe σ vs) H' fun σ2 H2 => wipe σ2 vs = wipe σ vs ∧ tt σ2 H2 fun b H3 =>
        if b = true then te σ2 H3 fun y H4 => ∃ acc, H4 D = some (.lst acc) ∧ acc.length < sizeLine ∧ Nx (upd H4 D (.lst (acc ++ [y]))) else Nx H3) := by
  intro D hD
  have hDM : D ∉ M := hi.ne hD
  have hDW : D ∉ W := fun z => hDM (hW D z)
  have kn : ∀ {H : Hp}, Frm W H1 H → Same (hid M H1) (hid (D :: M) H) := fun {H} f a o e => by
    obtain ⟨q, e1⟩ := hid_of e
    have ne : a ≠ D := ne_of_none e1 hD
    rw [hid_at (by simp [ne, q])]
    exact f.at_ a o (fun z => q (hW a z)) e1
  refine lc_it w (fun i H => ∃ acc, Frm W H1 H ∧ InH (D :: M) H ∧ H D = some (.lst acc) ∧ S i acc H ∧ R i acc (hid (D :: M) H) ∧ acc.length ≤ i) ?_ ?_ ?_ ?_
  · have f0 : Frm W H1 (upd H1 D (.lst [])) := frm_new hD
    exact ⟨[], f0, (hi.same (same_new hD)).cons (InH.some upd_same), upd_same, hS 0 [] _ D [] hD h0, r0 _ (kn f0), Nat.le_refl _⟩
  · rintro i H hin ⟨acc, f, _, _, s, _⟩
    exact hG i acc H hin f s
  · rintro i x H H2 hlt ⟨acc, f, inn, hd', s, r, hl⟩ hy
    have back : ∀ {H5 : Hp}, Frm W H H5 → H5 D = some (.lst acc) := fun {H5} f5 => f5.at_ D _ hDW hd'
    refine hs D i acc x H H2 _ hD hlt f (kn f) inn hd' s r hl hy (fun y H5 f5 s5 r5 => ⟨acc, back f5, by omega, acc ++ [y], ?_, ?_, upd_same, hS _ _ _ D _ hD s5, ?_, by simp; omega⟩) (fun H4 f4 s4 r4 => ⟨acc, f.trans f4, ?_, back f4, s4, r4, by omega⟩)
    · exact ⟨fun a o ha e => by
        rw [upd_ne (ne_of_none e hD)]
        exact f5.at_ a o ha (f.at_ a o ha e), fun a ha => by
        have q := f5.live a (f.live a ha)
        by_cases z : a = D
        · rw [z, upd_same]; intro z; cases z
        · rw [upd_ne z]; exact q⟩
    · exact (inn.frm f5).upd
    · exact hR _ _ _ _ (hid_upd (by simp)) r5
    · exact inn.frm f4
  · rintro H ⟨acc, f, inn, hd', s, r, hl⟩
    exact hd D acc H hD f inn (kn f) hd' s r hl
def given (n : Nat) (f : Nat → Bool) (v : Nat → V) : List V := ((List.range n).filter f).map v
theorem given_yes {n : Nat} {f : Nat → Bool} {v : Nat → V} (h : f n = true) : given (n + 1) f v = given n f v ++ [v n] := by
  unfold given
  rw [List.range_succ, List.filter_append, List.map_append]
  simp [h]
theorem given_no {n : Nat} {f : Nat → Bool} {v : Nat → V} (h : f n = false) : given (n + 1) f v = given n f v := by
  unfold given
  rw [List.range_succ, List.filter_append, List.map_append]
  simp [h]
theorem given_all {α : Type} (l : List α) (u : α → V) (v : Nat → V) (h : ∀ i x, l[i]? = some x → v i = u x) : given l.length (fun _ => true) v = l.map u := by
  unfold given
  rw [List.filter_eq_self.mpr (fun _ _ => rfl)]
  apply List.ext_getElem?
  intro i
  rw [List.getElem?_map, List.getElem?_map]
  by_cases hi : i < l.length
  · rw [List.getElem?_range hi, List.getElem?_eq_getElem hi]
    exact congrArg some (h i _ (List.getElem?_eq_getElem hi))
  · rw [List.getElem?_eq_none (by simpa using hi), List.getElem?_eq_none (by simpa using hi)]
    rfl
/-- items and tests that are values at once -/
theorem lc_im {J : It} {n : Nat} {Gw : Hp → Prop} {Y : Nat → Hp → V → Hp → Prop} (w : Walk J n Gw Y) {g : TG} {tt : TT} {te : TE} {vs : List Nat} {σ : L2.St} {H1 : Hp} {Qd : Addr → Hp → Prop} (f : Nat → Bool) (v : Nat → V) (hn : n ≤ sizeLine)
    (hG : ∀ i H, i ≤ n → Same H1 H → Gw H)
    (hs : ∀ i x H H2 (KY : VK) (KN : Hp → Prop), i < n → Same H1 H → Y i H x H2 → (f i = true → ∀ H5, Same H H5 → KY (v i) H5) → (f i = false → ∀ H4, Same H H4 → KN H4) →
      g x (wipe σ vs) H2 fun σ2 H3 => wipe σ2 vs = wipe σ vs ∧ tt σ2 H3 fun b H4 => if b = true then te σ2 H4 KY else KN H4)
    (hd : ∀ D H, H1 D = none → Same H1 H → H D = some (.lst (given n f v)) → Qd D H) :
    ∀ D, H1 D = none → ∃ W : Nat → Nat → Hp → Prop, (∃ m, W 0 m (upd H1 D (.lst []))) ∧ ∀ i m H, W i m H →
      (J.stop i H ∧ Qd D H) ∨ (J.go i H ∧ ∃ Nx : Hp → Prop, (∀ H', Nx H' → ∃ m', m' < m ∧ W (i + 1) m' H') ∧ ∀ x H', J.yld i H x H' → g x (wipe σ vs) H' fun σ2 H2 => wipe σ2 vs = wipe σ vs ∧ tt σ2 H2 fun b H3 =>
        if b = true then te σ2 H3 fun y H4 => ∃ acc, H4 D = some (.lst acc) ∧ acc.length < sizeLine ∧ Nx (upd H4 D (.lst (acc ++ [y]))) else Nx H3) := by
  refine lc_full w [] [] (fun _ _ _ => True) (fun i acc _ => acc = given i f v) InH.nil (fun _ h => h) (fun _ _ _ _ _ _ _ => True.intro) True.intro (fun _ _ => rfl) (fun _ _ _ _ _ h => h) (fun i _ H hi fr _ => hG i H hi fr.same) hn ?_ ?_
  · intro D i acc x H H2 Nx hD hi fr kn inn hd' _ r _ hy kY kN
    refine hs i x H H2 _ _ hi fr.same hy (fun e H5 s5 => kY (v i) H5 (Same.frm s5) True.intro ?_) (fun e H4 s4 => kN H4 (Same.frm s4) True.intro ?_)
    · rw [r, given_yes e]
    · rw [r, given_no e]
  · intro D acc H hD fr inn kn hd' _ r _
    exact hd D H hD fr.same (by rw [← r]; exact hd')
/-- a comprehension that writes nothing but its list -/
theorem lc_pure {J : It} {n : Nat} {Gw : Hp → Prop} {Y : Nat → Hp → V → Hp → Prop} (w : Walk J n Gw Y) {g : TG} {tt : TT} {te : TE} {vs : List Nat} {σ : L2.St} {H1 : Hp} {Qd : Addr → Hp → Prop}
    (M : List Addr) (R : Nat → List V → Hp → Prop) (hi : InH M H1) (r0 : ∀ G, Same (hid M H1) G → R 0 [] G) (hR : ∀ i acc G G', Same G G' → R i acc G → R i acc G')
    (hG : ∀ H, Same H1 H → Gw H) (hn : n ≤ sizeLine)
    (hs : ∀ D i acc x H H2 (Nx : Hp → Prop), H1 D = none → i < n → Same H1 H → Same (hid M H1) (hid (D :: M) H) → InH (D :: M) H → H D = some (.lst acc) → R i acc (hid (D :: M) H) → Y i H x H2 →
      (∀ y H5, Same H H5 → R (i + 1) (acc ++ [y]) (hid (D :: M) H5) → ∃ acc', H5 D = some (.lst acc') ∧ acc'.length < sizeLine ∧ Nx (upd H5 D (.lst (acc' ++ [y])))) →
      (∀ H4, Same H H4 → R (i + 1) acc (hid (D :: M) H4) → Nx H4) →
      g x (wipe σ vs) H2 fun σ2 H3 => wipe σ2 vs = wipe σ vs ∧ tt σ2 H3 fun b H4 => if b = true then te σ2 H4 fun y H5 => ∃ acc, H5 D = some (.lst acc) ∧ acc.length < sizeLine ∧ Nx (upd H5 D (.lst (acc ++ [y]))) else Nx H4)
    (hd : ∀ D acc H, H1 D = none → Same H1 H → InH (D :: M) H → Same (hid M H1) (hid (D :: M) H) → H D = some (.lst acc) → R n acc (hid (D :: M) H) → acc.length ≤ n → Qd D H) :
    ∀ D, H1 D = none → ∃ W : Nat → Nat → Hp → Prop, (∃ m, W 0 m (upd H1 D (.lst []))) ∧ ∀ i m H, W i m H →
      (J.stop i H ∧ Qd D H) ∨ (J.go i H ∧ ∃ Nx : Hp → Prop, (∀ H', Nx H' → ∃ m', m' < m ∧ W (i + 1) m' H') ∧ ∀ x H', J.yld i H x H' → g x (wipe σ vs) H' fun σ2 H2 => wipe σ2 vs = wipe σ vs ∧ tt σ2 H2 fun b H3 =>
        if b = true then te σ2 H3 fun y H4 => ∃ acc, H4 D = some (.lst acc) ∧ acc.length < sizeLine ∧ Nx (upd H4 D (.lst (acc ++ [y]))) else Nx H3) :=
  lc_full w M [] (fun _ _ _ => True) R hi (fun _ h => by cases h) (fun _ _ _ _ _ _ _ => True.intro) True.intro r0 hR (fun _ _ H _ f _ => hG H f.same) hn
    (fun D i acc x H H2 Nx hD hi f kn inn hd' _ r _ hy kY kN => hs D i acc x H H2 Nx hD hi f.same kn inn hd' r hy (fun y H5 s5 r5 => kY y H5 (Same.frm s5) True.intro r5) (fun H4 s4 r4 => kN H4 (Same.frm s4) True.intro r4))
    (fun D acc H hD f inn kn hd' _ r hl => hd D acc H hD f.same inn kn hd' r hl)
/-! ### what is walked -/
section
variable {K : PySem.W.Frag} {σ : L2.St} {H : Hp} {Q : VK} {ta : TA} {te : TE} {R : It → Hp → Prop} {g : TG} {tt : TT} {wi : TI} {vs : List Nat} {D : Ends} {tb : TS}
theorem w_lc (h : wi σ H fun J H1 => ∀ D, H1 D = none → ∃ W : Nat → Nat → Hp → Prop, (∃ m, W 0 m (upd H1 D (.lst []))) ∧ ∀ i m H, W i m H →
  (J.stop i H ∧ Q (.ref D) H) ∨ (J.go i H ∧ ∃ Nx : Hp → Prop, (∀ H', Nx H' → ∃ m', m' < m ∧ W (i + 1) m' H') ∧ ∀ x H', J.yld i H x H' → g x (wipe σ vs) H' fun σ2 H2 => wipe σ2 vs = wipe σ vs ∧ tt σ2 H2 fun b H3 =>
    if b = true then te σ2 H3 fun y H4 => ∃ acc, H4 D = some (.lst acc) ∧ acc.length < sizeLine ∧ Nx (upd H4 D (.lst (acc ++ [y]))) else Nx H3)) : tLc wi g tt te vs σ H Q := h
theorem w_for (h : wi σ H fun J H1 => ∃ W : Nat → Nat → L2.St → Hp → Prop, (∃ m, W 0 m σ H1) ∧ ∀ i m σ H, W i m σ H →
  (J.stop i H ∧ D.nx σ H) ∨ (J.go i H ∧ ∃ N : L2.St → Hp → Prop, (∀ σ' H', N σ' H' → ∃ m', m' < m ∧ W (i + 1) m' σ' H') ∧ ∀ x H', J.yld i H x H' → g x σ H' fun σ2 H2 => tb { D with nx := N, ct := N, bk := D.nx } σ2 H2)) : tFor wi g tb D σ H := h
theorem w_ienumS (h : ta σ H fun vs H1 => ∃ x, vs = [.str x] ∧ R (Ites x) H1) : iEnumS ta σ H R := h
theorem w_ienum (h : ta σ H fun vs H1 => ∃ a xs, vs = [.ref a] ∧ SqL K H1 a xs ∧ R (Ite K a) H1) : iEnum K ta σ H R := h
theorem w_irng1 (h : ta σ H fun vs H1 => ∃ j : Int, vs = [.int j] ∧ -(2 ^ 62) ≤ j ∧ j < 2 ^ 62 ∧ R (Itr 0 j.toNat) H1) : iRng1 ta σ H R := h
theorem w_irng2 (h : ta σ H fun vs H1 => ∃ i j : Int, vs = [.int i, .int j] ∧ (-(2 ^ 62) ≤ i ∧ i < 2 ^ 62 ∧ -(2 ^ 62) ≤ j ∧ j < 2 ^ 62) ∧ R (Itr i (j - i).toNat) H1) : iRng2 ta σ H R := h
theorem w_ilist (h : te σ H fun x H1 => ∃ a, x = .ref a ∧ (∃ xs, SqL K H1 a xs) ∧ R (Itl K a) H1) : iList K te σ H R := h
theorem w_itup (h : te σ H fun x H1 => ∃ a, x = .ref a ∧ (∃ xs, SqT K H1 a xs) ∧ R (Itt K a) H1) : iTup K te σ H R := h
theorem w_istr (h : te σ H fun v H1 => ∃ x, v = .str x ∧ R (Its x) H1) : iStr te σ H R := h
theorem w_iseqL (h : te σ H fun x H1 => ∃ a, x = .ref a ∧ (∃ xs, SqL K H1 a xs) ∧ R (Itl K a) H1) : iSeq K te σ H R := .inl h
theorem w_iseqT (h : te σ H fun x H1 => ∃ a, x = .ref a ∧ (∃ xs, SqT K H1 a xs) ∧ R (Itt K a) H1) : iSeq K te σ H R := .inr (.inl h)
theorem w_iseqS (h : te σ H fun v H1 => ∃ x, v = .str x ∧ R (Its x) H1) : iSeq K te σ H R := .inr (.inr h)
theorem w_ikeys (h : te σ H fun x H1 => ∃ d o, x = .ref d ∧ ((∃ kvs, H1 d = some (.frz o (.dK kvs)) ∧ R (Itk d o kvs) H1) ∨ ∃ kvs, H1 d = some (.frz o (.dT kvs)) ∧ R (Itkt d o kvs) H1)) : iKeys te σ H R := h
theorem w_izip (h : ta σ H fun vs H1 => ∃ a b xs ys, vs = [.ref a, .ref b] ∧ ((SqL K H1 a xs ∧ SqL K H1 b ys ∧ R (Itz K a b) H1) ∨ (SqT K H1 a xs ∧ SqT K H1 b ys ∧ R (RZ.ItzT K a b) H1))) : RZ.iZipA K ta σ H R := h
theorem e_enumS {z : Str} {P : Str → Prop} (h : P z) : ∃ x, [V.str z] = [.str x] ∧ P x := ⟨z, rfl, h⟩
theorem e_rng {n : Int} {P : Int → Prop} (h1 : -(2 ^ 62) ≤ n) (h2 : n < 2 ^ 62) (h : P n) : ∃ j : Int, [V.int n] = [.int j] ∧ -(2 ^ 62) ≤ j ∧ j < 2 ^ 62 ∧ P j := ⟨n, rfl, h1, h2, h⟩
theorem e_ilist {a : Addr} {xs : List V} {P : Addr → Prop} (hs : SqL K H a xs) (h : P a) : ∃ b, V.ref a = .ref b ∧ (∃ xs, SqL K H b xs) ∧ P b := ⟨a, rfl, ⟨xs, hs⟩, h⟩
theorem e_itup {a : Addr} {xs : List V} {P : Addr → Prop} (hs : SqT K H a xs) (h : P a) : ∃ b, V.ref a = .ref b ∧ (∃ xs, SqT K H b xs) ∧ P b := ⟨a, rfl, ⟨xs, hs⟩, h⟩
theorem e_istr {z : Str} {P : Str → Prop} (h : P z) : ∃ x, V.str z = .str x ∧ P x := ⟨z, rfl, h⟩
theorem e_ienum {a : Addr} {xs : List V} {P : Addr → Prop} (hs : SqL K H a xs) (h : P a) : ∃ b xs, [V.ref a] = [.ref b] ∧ SqL K H b xs ∧ P b := ⟨a, xs, rfl, hs, h⟩
end
/-! ### data -/
def ShN (n : Nat) (d : PyData) : Prop := d.canLay0 = true ∧ d.depth ≤ n
theorem ShN.ok {n : Nat} {d : PyData} (h : ShN n d) (hn : n ≤ 64) : SeqAt.shaped d = true := by
  unfold SeqAt.shaped
  rw [h.1, decide_eq_true (Nat.le_trans h.2 hn)]
  rfl
theorem ShN.mono {n m : Nat} {d : PyData} (h : ShN n d) (hn : n ≤ m) : ShN m d := ⟨h.1, Nat.le_trans h.2 hn⟩
theorem canLayAll {ds : List PyData} (h : ∀ d ∈ ds, d.canLay0 = true) : PyData.canLayAll0 ds = true := by
  induction ds with
  | nil => rfl
  | cons d r ih =>
    show (d.canLay0 && PyData.canLayAll0 r) = true
    rw [h d (by simp), ih (fun x hx => h x (by simp [hx]))]
    rfl
theorem depthAll_le {n : Nat} : ∀ {ds : List PyData}, (∀ d ∈ ds, d.depth ≤ n) → PyData.depthAll ds ≤ n
  | [], _ => Nat.zero_le _
  | d :: r, h => by
    show max d.depth (PyData.depthAll r) ≤ n
    have h1 := h d (by simp)
    have h2 := depthAll_le (ds := r) fun x hx => h x (by simp [hx])
    omega
theorem sh_list {n : Nat} {ds : List PyData} (h : ∀ d ∈ ds, ShN n d) : ShN (n + 1) (.list ds) :=
  ⟨canLayAll fun d hd => (h d hd).1, Nat.succ_le_succ (depthAll_le fun d hd => (h d hd).2)⟩
theorem sh_tup {n : Nat} {ds : List PyData} (h : ∀ d ∈ ds, ShN n d) : ShN (n + 1) (.tuple ds) :=
  ⟨canLayAll fun d hd => (h d hd).1, Nat.succ_le_succ (depthAll_le fun d hd => (h d hd).2)⟩
theorem sh_int {i : Int} : ShN 0 (.int i) := ⟨rfl, Nat.le_refl _⟩
theorem sh_bool {b : Bool} : ShN 0 (.bool b) := ⟨rfl, Nat.le_refl _⟩
theorem sh_none : ShN 0 .none := ⟨rfl, Nat.le_refl _⟩
theorem sh_str {z : Str} (h : z.cps.all (· < 0x110000) = true) : ShN 0 (.str z) := ⟨h, Nat.le_refl _⟩
theorem dpa_map {K : PySem.W.Frag} {H : Hp} {α : Type} {u : α → V} {d : α → PyData} : ∀ {l : List α}, (∀ x ∈ l, Dp K H (u x) (d x)) → DpAll K H (l.map u) (l.map d)
  | [], _ => .nil
  | x :: r, h => .cons (h x (by simp)) (dpa_map fun y hy => h y (by simp [hy]))
theorem eqvAll_nil {ds : List PyData} : PyData.eqvAll ds [] = ds.isEmpty := by cases ds <;> rfl
end Pt
namespace Pt
open PySem PySem.Spec PyProof.Rows L2
abbrev cs (z : Str) : List Nat := z.cps.toList
def mkS (l : List Nat) : Str := ⟨l.toArray⟩
theorem cs_mk (l : List Nat) : cs (mkS l) = l := by simp [cs, mkS]
theorem mk_cs (z : Str) : mkS (cs z) = z := by simp [cs, mkS]
theorem str_ext {a b : Str} (h : cs a = cs b) : a = b := by rw [← mk_cs a, ← mk_cs b, h]
theorem len_cs (z : Str) : z.length = (cs z).length := by simp [cs, Str.length]
theorem len_mk (l : List Nat) : (mkS l).length = l.length := by rw [len_cs, cs_mk]
theorem cs_app (a b : Str) : cs (a ++ b) = cs a ++ cs b := by
  show (a.cps ++ b.cps).toList = _
  simp [cs]
theorem cutS_cs (z : Str) (lo hi : Option Int) : cs (cutS z lo hi) = ((cs z).drop (HT.sIx z.length 0 lo)).take (HT.sIx z.length z.length hi - HT.sIx z.length 0 lo) := by simp [cutS, cs]
theorem cutS_take {z : Str} {i : Nat} : cs (cutS z none (some (i : Int))) = (cs z).take i := by
  rw [cutS_cs, HT.sIx_none, HT.sIx_nat, List.drop_zero, Nat.sub_zero, len_cs]
  rw [List.take_eq_take_iff]
  omega
theorem cutS_drop {z : Str} {i : Nat} : cs (cutS z (some (i : Int)) none) = (cs z).drop i := by
  rw [cutS_cs, HT.sIx_none, HT.sIx_nat, len_cs]
  by_cases h : i ≤ (cs z).length
  · rw [Nat.min_eq_left h]
    exact List.take_of_length_le (by simp)
  · have h2 : (cs z).length ≤ i := by omega
    rw [Nat.min_eq_right h2, List.drop_of_length_le h2]
    simp
theorem nodup_take : ∀ {l : List Nat}, l.Nodup ↔ ∀ i, i < l.length → l.getD i 0 ∉ l.take i := by
  intro l
  rw [List.Nodup, List.pairwise_iff_getElem]
  constructor
  · intro h i hi hm
    obtain ⟨j, hj, e⟩ := List.mem_iff_getElem.mp hm
    rw [List.length_take] at hj
    rw [List.getElem_take] at e
    refine h j i (by omega) hi (by omega) ?_
    rw [e, List.getD_eq_getElem?_getD, List.getElem?_eq_getElem hi]
    rfl
  · intro h i j hi hj hij e
    refine h j hj ?_
    rw [List.getD_eq_getElem?_getD, List.getElem?_eq_getElem hj]
    show l[j] ∈ _
    rw [← e]
    exact List.mem_iff_getElem.mpr ⟨i, by rw [List.length_take]; omega, by rw [List.getElem_take]⟩
theorem given_empty {n : Nat} {f : Nat → Bool} {v : Nat → V} : (given n f v).isEmpty = true ↔ ∀ i, i < n → f i = false := by
  unfold given
  rw [List.isEmpty_map, List.isEmpty_iff, List.filter_eq_nil_iff]
  simp
theorem get_cps {z : Str} {i : Nat} {c : Nat} (h : z.cps[i]? = some c) : (cs z)[i]? = some c := by simpa using h
theorem perm_erase {α : Type} : ∀ {l : List α} {r : Nat} (h : r < l.length), (l[r] :: l.eraseIdx r).Perm l
  | x :: l, 0, _ => List.Perm.refl _
  | x :: l, r + 1, h => by
    have h2 : r < l.length := by simpa using h
    show (l[r] :: x :: l.eraseIdx r).Perm (x :: l)
    exact (List.Perm.swap _ _ _).trans ((perm_erase h2).cons x)
end Pt
open PySem PySem.Spec PyProof.Rows L2 Pt
local macro_rules | `(tactic| walk_at "lk") => `(tactic| first
  | assumption
  | with_reducible exact upd_same
  | (with_reducible apply sql_of); walk_at "lk"
  | (with_reducible apply sqt_of); walk_at "lk"
  | ((with_reducible apply lk_ne); focus (walk_at "ne")); walk_at "lk"
  | ((with_reducible apply Same.at); focus assumption); walk_at "lk"
  | ((with_reducible apply sql_same); focus assumption); walk_at "lk"
  | ((with_reducible apply sqt_same); focus assumption); walk_at "lk")
local macro_rules | `(tactic| walk_at "g1") => `(tactic| first
  | with_reducible refine w_seq ?_
  | with_reducible refine w_asg ?_
  | with_reducible refine w_drop ?_
  | with_reducible refine w_if ?_
  | with_reducible refine w_ret ?_
  | with_reducible refine w_retN ?_
  | with_reducible refine w_next ?_
  | with_reducible refine w_brk ?_
  | with_reducible refine w_cont ?_
  | with_reducible refine w_par ?_
  | with_reducible refine w_par3 ?_
  | with_reducible refine e_two ?_
  | with_reducible refine e_three ?_
  | with_reducible refine w_gn ?_
  | with_reducible refine w_gsub ?_
  | with_reducible refine w_gcons ?_
  | with_reducible refine w_gnil ?_
  | ((with_reducible apply w_var); focus exact rfl)
  | with_reducible refine w_c ?_
  | with_reducible refine w_op ?_
  | with_reducible refine w_un ?_
  | with_reducible refine w_chain ?_
  | with_reducible refine w_andT ?_
  | with_reducible refine w_orT ?_
  | with_reducible refine w_notT ?_
  | with_reducible refine w_ifx ?_
  | with_reducible refine w_cb ?_
  | with_reducible refine w_own ?_
  | with_reducible refine w_tup ?_
  | with_reducible refine w_lst ?_
  | with_reducible refine w_cons ?_
  | with_reducible refine w_nil ?_
  | with_reducible refine w_bm ?_
  | with_reducible refine w_bm0 ?_
  | with_reducible refine w_m1 ?_
  | with_reducible refine w_part ?_
  | with_reducible refine w_nopart ?_
  | with_reducible refine w_sl ?_
  | with_reducible refine w_test ?_
  | with_reducible refine w_tru ?_
  | with_reducible refine w_tnot ?_
  | with_reducible refine w_tand ?_
  | with_reducible refine w_tor ?_
  | with_reducible refine w_yes ?_
  | with_reducible refine w_lc ?_
  | with_reducible refine w_for ?_
  | with_reducible refine w_ienumS ?_
  | with_reducible refine w_ienum ?_
  | with_reducible refine w_irng1 ?_
  | with_reducible refine w_irng2 ?_
  | with_reducible refine w_ilist ?_
  | with_reducible refine w_itup ?_
  | with_reducible refine w_istr ?_
  | with_reducible refine w_izip ?_
  | with_reducible refine w_ikeys ?_
  | with_reducible refine e_enumS ?_
  | with_reducible refine e_istr ?_
  | with_reducible refine e_bl ?_
  | with_reducible refine e_int ?_
  | with_reducible refine e_str ?_
  | with_reducible refine e_tb ?_
  | with_reducible refine e_ti ?_
  | with_reducible refine e_tn ?_
  | ((with_reducible apply e_tl); focus (walk_at "lk"))
  | ((with_reducible apply e_tt); focus (walk_at "lk"))
  | ((with_reducible apply e_tyl); focus (walk_at "lk"))
  | with_reducible refine plus_i ?_
  | with_reducible refine minus_i ?_
  | ((with_reducible refine mod_i ?_ ?_); focus omega)
  | ((with_reducible refine div_i ?_ ?_ ?_); (focus omega); (focus omega))
  | with_reducible refine lt_i ?_
  | with_reducible refine le_i ?_
  | with_reducible refine gt_i ?_
  | with_reducible refine ge_i ?_
  | with_reducible refine eq_i ?_
  | with_reducible refine eq_s ?_
  | with_reducible refine eq_b ?_
  | with_reducible refine ne_i ?_
  | with_reducible refine ne_s ?_
  | with_reducible refine ne_b ?_
  | ((with_reducible apply is_N); focus exact rfl)
  | ((with_reducible apply isnt_N); focus exact rfl)
  | with_reducible refine is_b ?_
  | with_reducible refine isnt_b ?_
  | with_reducible refine in_sg ?_
  | with_reducible refine notin_sg ?_
  | with_reducible refine int_i ?_
  | with_reducible refine int_b ?_
  | with_reducible refine ord_1 ?_
  | ((with_reducible refine times_l ?_ ?_); focus (constructor <;> omega))
  | ((with_reducible refine times_r ?_ ?_); focus (constructor <;> omega))
  | ((with_reducible apply set_l); (focus (walk_at "lk")); (focus exact rfl))
  | ((with_reducible apply ix_l); (focus (walk_at "lk")); (focus exact rfl))
  | ((with_reducible apply ix_t); (focus (walk_at "lk")); (focus exact rfl))
  | ((with_reducible apply len_l); focus (walk_at "lk"))
  | ((with_reducible apply len_t); focus (walk_at "lk")))
local macro_rules | `(tactic| walk_at "ne") => `(tactic| first | assumption | exact Ne.symm (by assumption))
local macro_rules | `(tactic| walk_at "go") => `(tactic| repeat walk_at "g1")
local macro_rules | `(tactic| walk_at "ln") => `(tactic| first
  | exact fun hh => congrArg List.length (And.left hh)
  | (refine fun hh => Exists.elim hh ?_; intro _; walk_at "ln")
  | (refine fun hh => Or.elim hh ?_ ?_ <;> walk_at "ln"))
namespace Pt
/-! ### is_sign -/
/-- a sign's code -/
def isSgn (c : Nat) : Bool := decide (33 ≤ c ∧ c ≤ 126 ∧ c ≠ 34 ∧ c ≠ 37)
def isSign (z : Str) : Bool := match z.cps.toList with
  | [c] => isSgn c
  | _ => false
/-- the thing is no text -/
def NoStr (K : PySem.W.Frag) (H : Hp) (v : V) : Prop := ∃ t, TyX K H v t ∧ PySem.W.kitOne K t (.type "str") = some false
def sp_is_sign (K : PySem.W.Frag) : Sp := fun vs H Q _ => ∃ c : Nat, vs = [.str ⟨#[c]⟩] ∧ ∀ H', Same H H' → Q (.bl (isSgn c)) H'
abbrev n_is_sign : List Str := ["thing"]
def t_is_sign (K : PySem.W.Frag) : TS :=
  tRet (tAndT K (tCB (cIsi K) (tCons (tVar 0) (tCons (tC (.ty "str")) (tNil)))) (tAndT K (tOp (rEqU K) (tCB (cLen K) (tCons (tVar 0) (tNil))) (tC (.int 1))) (tAndT K (tChain rLeI rLeI (tC (.int 33)) (tCB (cOrd) (tCons (tVar 0) (tNil))) (tC (.int 126))) (tOp (rNotInU K) (tCB (cOrd) (tCons (tVar 0) (tNil))) (tTup (tCons (tC (.int 34)) (tCons (tC (.int 37)) (tNil))))))))
theorem pure_is_sign {K : PySem.W.Frag} (vs : List V) (H : Hp) (Q : VK) (E : XK) (h : sp_is_sign K vs H Q E) : t_is_sign K { nx := fun _ H' => Q .non H', rt := Q } (start n_is_sign vs) H := by
  obtain ⟨c, rfl, q⟩ := h
  unfold t_is_sign
  walk_at "go"
  refine isi_1 (.base (.str _)) (kit_ty (b := "str") (r := true) (by decide +kernel)) ?_
  walk_at "go"
  refine w_iteT rfl ?_
  walk_at "go"
  refine len_s (by show 1 ≤ sizeLine; decide) ?_
  walk_at "go"
  refine w_iteT rfl ?_
  walk_at "go"
  refine w_ite (fun h1 => ?_) (fun h1 => ?_)
  · walk_at "go"
    refine w_ite (fun h2 => ?_) (fun h2 => ?_)
    · walk_at "go"
      refine ⟨by show 2 ≤ sizeLine; decide, fun p hp => ?_⟩
      refine notin_l (.inr (sqt_of upd_same)) rfl rfl ?_
      have e : isSgn c = !inV (.int c) [.int 34, .int 37] := by
        simp only [decide_eq_true_eq] at h1 h2
        rw [Bool.eq_iff_iff]
        simp [isSgn, inV, eqV]
        omega
      exact e ▸ q _ (same_new hp)
    · walk_at "go"
      rw [h2]
      have e : isSgn c = false := by
        simp only [decide_eq_false_iff_not] at h2
        exact decide_eq_false (by omega)
      exact e ▸ q _ (Same.refl _)
  · walk_at "go"
    refine w_iteF rfl ?_
    have e : isSgn c = false := by
      simp only [decide_eq_false_iff_not] at h1
      exact decide_eq_false (by omega)
    exact e ▸ q _ (Same.refl _)
/-! ### is_signs -/
def isSigns (z : Str) : Bool := decide (1 ≤ z.cps.size) && decide (z.cps.size ≤ 6) && z.cps.toList.all isSgn && decide z.cps.toList.Nodup
def sp_is_signs (K : PySem.W.Frag) : Sp := fun vs H Q _ =>
  (∃ z : Str, vs = [.str z] ∧ z.length ≤ sizeLine ∧ ∀ H', Same H H' → Q (.bl (isSigns z)) H') ∨
  ∃ v : V, vs = [v] ∧ NoStr K H v ∧ ∀ H', Same H H' → Q (.bl false) H'
abbrev n_is_signs : List Str := ["thing", "at", "sign"]
def t_is_signs (K : PySem.W.Frag) : TS :=
  tSeq (tIfS (tOr (tNot (tTru K (tCB (cIsi K) (tCons (tVar 0) (tCons (tC (.ty "str")) (tNil)))))) (tNot (tTest (tChain rLeI rLeI (tC (.int 1)) (tCB (cLen K) (tCons (tVar 0) (tNil))) (tC (.int 6)))))) (tRet (tC (.bl false))) (tNext)) (tRet (tOp (rEqU K) (tLc (iEnumS (tCons (tVar 0) (tNil))) (gTup K 2 (gCons (gName 1) (gCons (gName 2) (gNil)))) (tOr (tNot (tTru K (tOwn (sp_is_sign K) (tCons (tVar 2) (tNil))))) (tTest (tOp (rInU K) (tVar 2) (tSl (rSlU K) (tVar 0) (tNoPart) (tPart (tVar 1)))))) (tC (.int 1)) [1, 2]) (tLst (tNil))))
/-- the i-th sign is none, or stands ahead -/
def badAt (z : Str) (i : Nat) : Bool := !isSgn (z.cps.toList.getD i 0) || decide (z.cps.toList.getD i 0 ∈ z.cps.toList.take i)
theorem isSigns_of {z : Str} (h1 : 1 ≤ z.cps.size) (h2 : z.cps.size ≤ 6) : isSigns z = (given z.cps.size (badAt z) fun _ => V.int 1).isEmpty := by
  have hl : z.cps.size = (cs z).length := by simp [cs]
  rw [Bool.eq_iff_iff, given_empty]
  unfold isSigns
  rw [decide_eq_true h1, decide_eq_true h2]
  simp only [Bool.true_and, Bool.and_eq_true, List.all_eq_true, decide_eq_true_eq]
  constructor
  · rintro ⟨ha, hn⟩ i hi
    unfold badAt
    have h3 := nodup_take.mp hn i (by omega)
    have h4 := ha ((cs z).getD i 0) (by
      rw [List.getD_eq_getElem?_getD, List.getElem?_eq_getElem (by omega)]
      exact List.getElem_mem _)
    rw [h4, decide_eq_false h3]
    rfl
  · intro h
    refine ⟨fun c hc => ?_, nodup_take.mpr fun i hi => ?_⟩
    · obtain ⟨j, hj, e⟩ := List.mem_iff_getElem.mp hc
      have h3 := h j (by omega)
      unfold badAt at h3
      rw [Bool.or_eq_false_iff, List.getD_eq_getElem?_getD, List.getElem?_eq_getElem (by omega)] at h3
      have h4 : (!isSgn (cs z)[j]) = false := h3.1
      rw [e] at h4
      simpa using h4
    · have h3 := h i (by omega)
      unfold badAt at h3
      rw [Bool.or_eq_false_iff] at h3
      exact of_decide_eq_false h3.2
theorem pure_is_signs {K : PySem.W.Frag} (vs : List V) (H : Hp) (Q : VK) (E : XK) (h : sp_is_signs K vs H Q E) : t_is_signs K { nx := fun _ H' => Q .non H', rt := Q } (start n_is_signs vs) H := by
  rcases h with ⟨z, rfl, hz, q⟩ | ⟨v, rfl, ⟨t, ty, kt⟩, q⟩
  · unfold t_is_signs
    have no : ∀ H', Same H H' → ¬ (1 ≤ z.cps.size ∧ z.cps.size ≤ 6) → Q (.bl false) H' := fun H' e h => by
      have e1 : isSigns z = false := by
        unfold isSigns
        by_cases h1 : 1 ≤ z.cps.size
        · have h2 : ¬ z.cps.size ≤ 6 := fun h2 => h ⟨h1, h2⟩
          simp [h2]
        · simp [h1]
      exact e1 ▸ q H' e
    walk_at "go"
    refine isi_1 (.base (.str _)) (kit_ty (b := "str") (r := true) (by decide +kernel)) ?_
    walk_at "go"
    refine w_iteF rfl ?_
    walk_at "go"
    refine len_s hz ?_
    walk_at "go"
    refine w_ite (fun h1 => ?_) (fun h1 => ?_)
    · walk_at "go"
      refine w_ite (fun h2 => ?_) (fun h2 => ?_)
      · walk_at "go"
        refine no _ (Same.refl _) fun ⟨_, h3⟩ => ?_
        rw [decide_eq_true (show ((z.length : Nat) : Int) ≤ 6 by have : z.length = z.cps.size := rfl; omega)] at h2
        cases h2
      · walk_at "go"
        have h3 : 1 ≤ z.cps.size := by
          have := of_decide_eq_true h1
          have : z.length = z.cps.size := rfl
          omega
        have h4 : z.cps.size ≤ 6 := by
          have e : decide (((z.length : Nat) : Int) ≤ 6) = true := by simpa using h2
          have := of_decide_eq_true e
          have : z.length = z.cps.size := rfl
          omega
        -- the list of what is wrong
        refine lc_im walk_enumS (badAt z) (fun _ => .int 1) (Nat.le_trans h4 (by decide)) (fun _ _ _ _ => True.intro) ?_ ?_
        · rintro i x H1 H2 KY KN hi s1 ⟨T, c, rfl, hT, rfl, hc⟩ kY kN
          have hc2 := get_cps hc
          have eb : badAt z i = (!isSgn c || decide (c ∈ z.cps.toList.take i)) := by
            unfold badAt
            rw [List.getD_eq_getElem?_getD, hc2]
            rfl
          refine w_gtup (sqt_of upd_same) rfl ?_
          walk_at "go"
          refine ⟨rfl, ?_⟩
          walk_at "go"
          refine ⟨c, rfl, fun H3 s3 => ?_⟩
          have s13 : Same H1 H3 := (same_new hT).trans s3
          walk_at "go"
          refine w_ite (fun h5 => ?_) (fun h5 => ?_)
          · refine w_iteT rfl ?_
            walk_at "go"
            refine kY ?_ _ s13
            rw [eb, h5]
            rfl
          · walk_at "go"
            refine sl_s hz ?_
            walk_at "go"
            rw [show (cutS z none (some (i : Int))).cps.toList = (cs z).take i from cutS_take]
            refine w_ite (fun h6 => ?_) (fun h6 => ?_)
            · walk_at "go"
              refine kY ?_ _ s13
              rw [eb, h6, Bool.or_true]
            · refine kN ?_ _ s13
              rw [eb, h5, h6]
              rfl
        · intro D H1 hD s1 h5
          walk_at "go"
          refine ⟨Nat.zero_le _, fun p hp => ?_⟩
          have dD : Dp K (upd H1 p (.lst [])) (.ref D) (.list (((List.range z.cps.size).filter (badAt z)).map fun _ => .int 1)) := .lst (sql_of (same_new hp _ _ h5)) (dpa_map fun _ _ => .int 1)
          refine eq_D dD (.lst (sql_of upd_same) .nil) ((sh_list (n := 0) fun d hd => ?_).ok (by decide)) ((sh_list (n := 0) fun d hd => by cases hd).ok (by decide)) ?_
          · obtain ⟨_, _, rfl⟩ := List.mem_map.mp hd
            exact sh_int
          · have e : PyData.eqv (.list (((List.range z.cps.size).filter (badAt z)).map fun _ => PyData.int 1)) (.list []) = isSigns z := by
              show PyData.eqvAll _ [] = _
              rw [eqvAll_nil, isSigns_of h3 h4]
              unfold given
              rw [List.isEmpty_map, List.isEmpty_map]
            rw [e]
            exact q _ (s1.trans (same_new hp))
    · walk_at "go"
      refine w_iteT rfl ?_
      walk_at "go"
      refine no _ (Same.refl _) fun ⟨h3, _⟩ => ?_
      rw [decide_eq_true (show (1 : Int) ≤ ((z.length : Nat) : Int) by have : z.length = z.cps.size := rfl; omega)] at h1
      cases h1
  · unfold t_is_signs
    walk_at "go"
    refine isi_1 ty kt ?_
    walk_at "go"
    refine w_iteT rfl ?_
    walk_at "go"
    refine w_iteT rfl ?_
    walk_at "go"
    exact q _ (Same.refl _)
end Pt
namespace Pt
/-! ### the spring of draws -/
def Strm (s c : Addr) (n : Nat) (H : Hp) : Prop := ∃ (cells : List Int) (acc mix : Int), H s = some (.lst [.ref c, .int acc, .int n, .int mix]) ∧ H c = some (.lst (cells.map V.int)) ∧ 0 ≤ acc ∧ 0 ≤ mix ∧ mix < 2147483647
theorem Strm.same {s c : Addr} {n : Nat} {H H' : Hp} (h : Strm s c n H) (e : Same H H') : Strm s c n H' := by
  obtain ⟨cells, acc, mix, h1, h2, r⟩ := h
  exact ⟨cells, acc, mix, e _ _ h1, e _ _ h2, r⟩
theorem Strm.frm {s c : Addr} {n : Nat} {R : List Addr} {H H' : Hp} (h : Strm s c n H) (e : Frm R H H') (h1 : s ∉ R) (h2 : c ∉ R) : Strm s c n H' := by
  obtain ⟨cells, acc, mix, g1, g2, r⟩ := h
  exact ⟨cells, acc, mix, e.at_ _ _ h1 g1, e.at_ _ _ h2 g2, r⟩
theorem Strm.ne {s c : Addr} {n : Nat} {H : Hp} (h : Strm s c n H) : s ≠ c := by
  obtain ⟨cells, acc, mix, h1, h2, _⟩ := h
  intro e
  rw [e, h2] at h1
  cases cells with
  | nil => cases h1
  | cons x r => simp at h1
def sp_law_below (K : PySem.W.Frag) : Sp := fun vs H Q _ => ∃ (s c : Addr) (n : Nat) (m : Int), vs = [.ref s, .int m] ∧ Strm s c n H ∧ 0 < m ∧ m < 1073741824 ∧ n < 1099511627776 ∧
  ∀ (r : Nat) H', (r : Int) < m → Frm [s, c] H H' → Strm s c (n + 1) H' → Q (.int r) H'
def sp_law_start (K : PySem.W.Frag) : Sp := fun vs H Q _ => ∃ (a : Addr) (ns : List Int), vs = [.ref a] ∧ SqL K H a (ns.map V.int) ∧ ∀ s c H', Same H H' → H s = none → H c = none → Strm s c 0 H' → Q (.ref s) H'
theorem popAt_nat {l : Addr} {xs : List V} {k : Nat} {y : V} {H : Hp} {Q : VK} (h : H l = some (.lst xs)) (hk : xs[k]? = some y) (hb : (k : Int) < 2 ^ 63) (q : Q y (upd H l (.lst (xs.eraseIdx k)))) : rPopAt (.ref l) [.int (k : Nat)] H Q := by
  obtain ⟨hlt, _⟩ := List.getElem?_eq_some_iff.mp hk
  exact ⟨l, xs, k, k, y, rfl, rfl, h, by omega, hb, by rw [seqIndex_of (by omega) (by omega)]; simp, hk, q⟩
abbrev n_law_start : List Str := ["script"]
def t_law_start (K : PySem.W.Frag) : TS :=
  tRet (tLst (tCons (tCB (cList K) (tCons (tVar 0) (tNil))) (tCons (tC (.int 0)) (tCons (tC (.int 0)) (tCons (tC (.int 43)) (tNil))))))
abbrev n_law_below : List Str := ["stream", "many", "cell", "digit", "mixed"]
def t_law_below_p1 (K : PySem.W.Frag) : TS :=
  tSeq (tIfS (tTest (tOp rGtI (tOp (rIxU K) (tVar 0) (tC (.int 1))) (tC (.int 0)))) (tSeq (tAsg (tOp rMod (tCB (cInt) (tCons (tOp (rIxU K) (tVar 0) (tC (.int 1))) (tNil))) (tVar 1)) (gName 3)) (tSeq (tAsg (tOp rDiv (tOp (rIxU K) (tVar 0) (tC (.int 1))) (tVar 1)) (gSub (tVar 0) (tC (.int 1)) rSetU)) (tRet (tVar 3)))) (tNext)) (tSeq (tAsg (tOp rMod (tCB (cInt) (tCons (tOp rPow (tOp (rPlus K) (tOp (rPlus K) (tOp (rIxU K) (tVar 0) (tC (.int 3))) (tOp rTimes (tC (.int 9049)) (tOp (rIxU K) (tVar 0) (tC (.int 2))))) (tC (.int 130073))) (tC (.int 5))) (tNil))) (tC (.int 2147483629))) (gName 4)) (tRet (tOp rMod (tOp rMod (tCB (cInt) (tCons (tOp rPow (tOp (rPlus K) (tOp (rPlus K) (tOp rTimes (tVar 4) (tC (.int 44089))) (tOp rTimes (tC (.int 60077)) (tOp (rIxU K) (tVar 0) (tC (.int 2))))) (tC (.int 47))) (tC (.int 3))) (tNil))) (tC (.int 1000000007))) (tVar 1))))
def t_law_below (K : PySem.W.Frag) : TS :=
  tSeq (tAsg (tOp (rPlus K) (tOp (rIxU K) (tVar 0) (tC (.int 2))) (tC (.int 1))) (gSub (tVar 0) (tC (.int 2)) rSetU)) (tSeq (tWhile (tAnd (tTest (tOp (rEqU K) (tOp (rIxU K) (tVar 0) (tC (.int 1))) (tC (.int 0)))) (tTest (tOp (rNeU K) (tOp (rIxU K) (tVar 0) (tC (.int 0))) (tLst (tNil))))) (tSeq (tAsg (tBM K "list" rPopAt (tOp (rIxU K) (tVar 0) (tC (.int 0))) (tCons (tC (.int 0)) (tNil))) (gName 2)) (tSeq (tAsg (tOp rMod (tCB (cInt) (tCons (tOp (rPlus K) (tOp (rPlus K) (tOp rTimes (tOp (rIxU K) (tVar 0) (tC (.int 3))) (tC (.int 69031))) (tVar 2)) (tC (.int 13))) (tNil))) (tC (.int 2147483647))) (gSub (tVar 0) (tC (.int 3)) rSetU)) (tAsg (tIf (tTest (tOp rGeI (tVar 2) (tOp rPow (tC (.int 10)) (tC (.int 18))))) (tVar 2) (tC (.int 0))) (gSub (tVar 0) (tC (.int 1)) rSetU))))) (t_law_below_p1 K))
theorem pure_law_start {K : PySem.W.Frag} (vs : List V) (H : Hp) (Q : VK) (E : XK) (h : sp_law_start K vs H Q E) : t_law_start K { nx := fun _ H' => Q .non H', rt := Q } (start n_law_start vs) H := by
  obtain ⟨a, ns, rfl, hs, q⟩ := h
  unfold t_law_start
  walk_at "go"
  refine list_s (.inl hs) fun c hc => ?_
  walk_at "go"
  refine ⟨by show 4 ≤ sizeLine; decide, fun s hs' => ?_⟩
  refine q s c _ ((same_new hc).trans (same_new hs')) ?_ hc ?_
  · exact same_free (same_new hc) hs'
  · have ne : c ≠ s := ne_of_none upd_same hs'
    exact ⟨ns, 0, 43, upd_same, by rw [upd_ne ne, upd_same], by omega, by omega, by omega⟩
theorem pure_law_below_p1 {K : PySem.W.Frag} {s c : Addr} {n : Nat} {m : Int} {o2 : Option V} {H : Hp} {Q : VK} (st : Strm s c (n + 1) H) (m0 : 0 < m) (m1 : m < 1073741824) (hn : n < 1099511627776)
    (q : ∀ (r : Nat) H', (r : Int) < m → Frm [s, c] H H' → Strm s c (n + 1) H' → Q (.int r) H') :
    t_law_below_p1 K { nx := fun _ H' => Q .non H', rt := Q } [some (.ref s), some (.int m), o2, none, none] H := by
  have nsc := st.ne
  obtain ⟨cells, acc, mix, h1, h2, a0, x0, x1⟩ := id st
  unfold t_law_below_p1
  walk_at "go"
  refine w_ite (fun e1 => ?_) (fun e1 => ?_)
  · walk_at "go"
    have e2 := Int.emod_nonneg acc (show m ≠ 0 by omega)
    have e3 := Int.emod_lt_of_pos acc m0
    have q2 := q (acc % m).toNat (upd H s (.lst [.ref c, .int (acc / m), .int ((n + 1 : Nat) : Int), .int mix])) (by omega) (frm_upd (by simp)) ⟨cells, acc / m, mix, upd_same, by rw [upd_ne nsc.symm]; exact h2, Int.ediv_nonneg a0 (by omega), x0, x1⟩
    rw [Int.toNat_of_nonneg e2] at q2
    exact q2
  · walk_at "go"
    refine pow_i (by omega) (by omega) (by omega) ?_
    walk_at "go"
    refine pow_i (by omega) (by omega) ?_ ?_
    · have e2 := Int.emod_nonneg ((mix + 9049 * ((n + 1 : Nat) : Int) + 130073) ^ (5 : Int).toNat) (show (2147483629 : Int) ≠ 0 by omega)
      have e3 := Int.emod_lt_of_pos ((mix + 9049 * ((n + 1 : Nat) : Int) + 130073) ^ (5 : Int).toNat) (show (0 : Int) < 2147483629 by omega)
      omega
    · walk_at "go"
      generalize (_ : Int) ^ (3 : Int).toNat % 1000000007 = z
      have e2 := Int.emod_nonneg z (show m ≠ 0 by omega)
      have e3 := Int.emod_lt_of_pos z m0
      have q2 := q (z % m).toNat H (by omega) (Frm.refl _ _) st
      rw [Int.toNat_of_nonneg e2] at q2
      exact q2
theorem pure_law_below {K : PySem.W.Frag} (vs : List V) (H : Hp) (Q : VK) (E : XK) (h : sp_law_below K vs H Q E) : t_law_below K { nx := fun _ H' => Q .non H', rt := Q } (start n_law_below vs) H := by
  obtain ⟨s, c, n, m, rfl, st, m0, m1, hn, q⟩ := h
  have nsc := st.ne
  obtain ⟨cells, acc, mix, h1, h2, a0, x0, x1⟩ := st
  unfold t_law_below
  walk_at "go"
  -- the loop
  refine ⟨fun k σ H' => ∃ o2, σ = [some (.ref s), some (.int m), o2, none, none] ∧ Frm [s, c] H H' ∧ ∃ (cells : List Int) (acc mix : Int), cells.length = k ∧ H' s = some (.lst [.ref c, .int acc, .int ((n + 1 : Nat) : Int), .int mix]) ∧ H' c = some (.lst (cells.map V.int)) ∧ 0 ≤ acc ∧ 0 ≤ mix ∧ mix < 2147483647,
    ⟨cells.length, none, rfl, frm_upd (by simp), cells, acc, mix, rfl, ?_, ?_, a0, x0, x1⟩, ?_⟩
  · rw [upd_same]
    simp
  · rw [upd_ne nsc.symm]
    exact h2
  clear h1 h2 a0 x0 x1 cells acc mix
  rintro k σ H1 ⟨o2, rfl, f1, cells, acc, mix, hk, h1, h2, a0, x0, x1⟩
  have out : ∀ H2, Same H1 H2 → t_law_below_p1 K { nx := fun _ H' => Q .non H', rt := Q } [some (.ref s), some (.int m), o2, none, none] H2 := fun H2 s2 =>
    pure_law_below_p1 ⟨cells, acc, mix, s2 _ _ h1, s2 _ _ h2, a0, x0, x1⟩ m0 m1 hn fun r H' hr f st => q r H' hr ((f1.trans (Same.frm s2)).trans f) st
  walk_at "go"
  refine w_ite (fun e1 => ?_) (fun e1 => ?_)
  · walk_at "go"
    refine ⟨Nat.zero_le _, fun p hp => ?_⟩
    have s1 := same_new (o := .lst []) hp
    refine ne_D (.lst (sql_of (s1 _ _ h2)) (dpa_map fun _ _ => .int _)) (.lst (sql_of upd_same) .nil) ((sh_list (n := 0) fun d hd => ?_).ok (by decide)) ((sh_list (n := 0) fun d hd => by cases hd).ok (by decide)) ?_
    · obtain ⟨_, _, rfl⟩ := List.mem_map.mp hd
      exact sh_int
    rw [show PyData.eqv (.list (cells.map PyData.int)) (.list []) = (cells.map PyData.int).isEmpty from eqvAll_nil]
    walk_at "go"
    refine w_ite (fun e2 => ?_) (fun e2 => ?_)
    · obtain ⟨z, r, rfl⟩ : ∃ z r, cells = z :: r := by
        cases cells with
        | nil => cases e2
        | cons z r => exact ⟨z, r, rfl⟩
      refine ⟨fun σ' H' => ∃ o2, σ' = [some (.ref s), some (.int m), o2, none, none] ∧ Frm [s, c] H H' ∧ ∃ (cells : List Int) (acc mix : Int), cells.length = r.length ∧ H' s = some (.lst [.ref c, .int acc, .int ((n + 1 : Nat) : Int), .int mix]) ∧ H' c = some (.lst (cells.map V.int)) ∧ 0 ≤ acc ∧ 0 ≤ mix ∧ mix < 2147483647, fun σ' H' hN => ⟨r.length, by rw [← hk]; exact Nat.lt_succ_self _, hN⟩, ?_⟩
      have h1' := s1 _ _ h1
      have h2' := s1 _ _ h2
      have f1' : Frm [s, c] H (upd H1 p (.lst [])) := f1.trans (Same.frm s1)
      generalize upd H1 p (.lst []) = H2 at h1' h2' f1'
      clear h1 h2 f1 s1
      walk_at "go"
      refine popAt_nat (k := 0) h2' rfl (by decide) ?_
      walk_at "go"
      refine pow_i (by omega) (by omega) (by decide) ?_
      walk_at "go"
      have e3 := Int.emod_nonneg (mix * 69031 + z + 13) (show (2147483647 : Int) ≠ 0 by omega)
      have e4 := Int.emod_lt_of_pos (mix * 69031 + z + 13) (show (0 : Int) < 2147483647 by omega)
      refine w_ite (fun e5 => ?_) (fun e5 => ?_)
      · walk_at "go"
        have e6 : (10 : Int) ^ (18 : Int).toNat ≤ z := of_decide_eq_true e5
        have e7 : (0 : Int) ≤ (10 : Int) ^ (18 : Int).toNat := by decide
        refine ⟨some (.int z), rfl, f1'.trans ((frm_upd (by simp)).trans ((frm_upd (by simp)).trans (frm_upd (by simp)))), r, z, _, rfl, upd_same, ?_, by omega, e3, e4⟩
        rw [upd_ne nsc.symm, upd_ne nsc.symm, upd_same]
        rfl
      · walk_at "go"
        refine ⟨some (.int z), rfl, f1'.trans ((frm_upd (by simp)).trans ((frm_upd (by simp)).trans (frm_upd (by simp)))), r, 0, _, rfl, upd_same, ?_, by omega, e3, e4⟩
        rw [upd_ne nsc.symm, upd_ne nsc.symm, upd_same]
        rfl
    · exact out _ s1
  · refine w_iteF rfl ?_
    exact out _ (Same.refl _)
end Pt
namespace Pt
/-! ### draws of things -/
def SqA (K : PySem.W.Frag) (H : Hp) (p : Addr) (xs : List V) : Prop := SqL K H p xs ∨ SqT K H p xs
theorem sqa_same {K : PySem.W.Frag} {H H' : Hp} {p : Addr} {xs : List V} (e : Same H H') (h : SqA K H p xs) : SqA K H' p xs := h.imp (sql_same e) (sqt_same e)
theorem len_a {K : PySem.W.Frag} {H : Hp} {Q : VK} {p : Addr} {xs : List V} (hs : SqA K H p xs) (q : Q (.int xs.length) H) : cLen K [.ref p] H Q := hs.elim (fun h => len_l h q) (fun h => len_t h q)
theorem ix_a {K : PySem.W.Frag} {H : Hp} {Q : VK} {p : Addr} {xs : List V} {z : Int} {v : V} (hs : SqA K H p xs) (ha : atI xs z = some v) (q : Q v H) : rIxU K (.ref p) (.int z) H Q := hs.elim (fun h => ix_l h ha q) (fun h => ix_t h ha q)
def sp_law_pick (K : PySem.W.Frag) : Sp := fun vs H Q _ => ∃ (s c : Addr) (n : Nat) (p : Addr) (xs : List V), vs = [.ref s, .ref p] ∧ Strm s c n H ∧ n < 1099511627776 ∧ SqA K (hid [s, c] H) p xs ∧ 0 < xs.length ∧ xs.length < 1073741824 ∧
  ∀ (r : Nat) v H', xs[r]? = some v → Frm [s, c] H H' → Strm s c (n + 1) H' → Q v H'
def sp_law_mixed (K : PySem.W.Frag) : Sp := fun vs H Q _ => ∃ (s c : Addr) (n : Nat) (p : Addr) (xs : List V), vs = [.ref s, .ref p] ∧ Strm s c n H ∧ n + xs.length < 1099511627776 ∧ SqA K (hid [s, c] H) p xs ∧ xs.length ≤ 1000000 ∧
  ∀ (ys : List V) q H', ys.Perm xs → Frm [s, c] H H' → Strm s c (n + xs.length) H' → H q = none → H' q = some (.lst ys) → Q (.ref q) H'
def poolS : Str := "!#$&'()*+,-./0123456789:;<=>?@ABCDEFGHIJKLMNOPQRSTUVWXYZ[]^_`abcdefghijklmnopqrstuvwxyz{|}~"
def poolC : List Nat := cs poolS
theorem pool_len : poolC.length = 91 := by decide +kernel
theorem pool_nd : poolC.Nodup := by decide +kernel
theorem pool_sg : ∀ c ∈ poolC, isSgn c = true := by decide +kernel
def sp_law_bpool (K : PySem.W.Frag) : Sp := fun vs H Q _ => vs = [] ∧ ∀ p H', Same H H' → H p = none → H' p = some (.lst (poolC.map sg)) → Q (.ref p) H'
abbrev n_law_pick : List Str := ["stream", "some"]
def t_law_pick (K : PySem.W.Frag) : TS :=
  tRet (tOp (rIxU K) (tVar 1) (tOwn (sp_law_below K) (tCons (tVar 0) (tCons (tCB (cLen K) (tCons (tVar 1) (tNil))) (tNil)))))
abbrev n_law_mixed : List Str := ["stream", "some", "left", "k"]
def t_law_mixed (K : PySem.W.Frag) : TS :=
  tSeq (tAsg (tCB (cList K) (tCons (tVar 1) (tNil))) (gName 2)) (tRet (tLc (iRng1 (tCons (tCB (cLen K) (tCons (tVar 2) (tNil))) (tNil))) (gName 3) (tYes) (tBM K "list" rPopAt (tVar 2) (tCons (tOwn (sp_law_below K) (tCons (tVar 0) (tCons (tCB (cLen K) (tCons (tVar 2) (tNil))) (tNil)))) (tNil))) [3]))
abbrev n_law_bpool : List Str := ["sign"]
def t_law_bpool (K : PySem.W.Frag) : TS :=
  tRet (tLc (iStr (tC (.str "!#$&'()*+,-./0123456789:;<=>?@ABCDEFGHIJKLMNOPQRSTUVWXYZ[]^_`abcdefghijklmnopqrstuvwxyz{|}~"))) (gName 0) (tYes) (tVar 0) [0])
theorem pure_law_pick {K : PySem.W.Frag} (vs : List V) (H : Hp) (Q : VK) (E : XK) (h : sp_law_pick K vs H Q E) : t_law_pick K { nx := fun _ H' => Q .non H', rt := Q } (start n_law_pick vs) H := by
  obtain ⟨s, c, n, p, xs, rfl, st, hn, hs, h0, h1, q⟩ := h
  unfold t_law_pick
  walk_at "go"
  refine len_a (sqa_same hid_sub hs) ?_
  walk_at "go"
  refine ⟨s, c, n, xs.length, rfl, st, by omega, by omega, hn, fun r H' hr f st' => ?_⟩
  obtain ⟨v, hv⟩ : ∃ v, xs[r]? = some v := ⟨_, List.getElem?_eq_getElem (by omega)⟩
  refine ix_a (sqa_same hid_sub (sqa_same (hid_frm f fun _ h => h) hs)) (atI_nat hv) ?_
  exact q r v H' hv f st'
theorem pure_law_mixed {K : PySem.W.Frag} (vs : List V) (H : Hp) (Q : VK) (E : XK) (h : sp_law_mixed K vs H Q E) : t_law_mixed K { nx := fun _ H' => Q .non H', rt := Q } (start n_law_mixed vs) H := by
  obtain ⟨s, c, n, p, xs, rfl, st, hn, hs, h1, q⟩ := h
  unfold t_law_mixed
  walk_at "go"
  refine list_s (sqa_same hid_sub hs) fun l hl => ?_
  have sl := same_new (o := .lst xs) hl
  have st1 := st.same sl
  have nls : l ≠ s := fun e => by
    obtain ⟨_, _, _, h, _⟩ := st
    rw [← e, hl] at h; cases h
  have nlc : l ≠ c := fun e => by
    obtain ⟨_, _, _, _, h, _⟩ := st
    rw [← e, hl] at h; cases h
  have il : InH [l, s, c] (upd H l (.lst xs)) := by
    obtain ⟨_, _, _, g1, g2, _⟩ := st1
    intro a ha
    simp at ha
    rcases ha with rfl | rfl | rfl
    · exact InH.some upd_same
    · exact InH.some g1
    · exact InH.some g2
  walk_at "go"
  refine e_rng (by omega) (by omega) ?_
  refine lc_full (walk_range (lo := 0) (n := xs.length)) [l, s, c] [l, s, c] (fun i acc H' => Strm s c (n + i) H' ∧ ∃ rest, H' l = some (.lst rest) ∧ rest.length + i = xs.length ∧ (acc ++ rest).Perm xs) (fun _ _ _ => True) il (fun _ h => h) ?_ ⟨st1, xs, upd_same, rfl, List.Perm.refl _⟩ (fun _ _ => True.intro) (fun _ _ _ _ _ _ => True.intro) (fun _ _ _ _ _ _ => True.intro) ?_ ?_ ?_
  · rintro i acc H1 D ys hD ⟨st2, rest, e1, e2⟩
    have n1 := il.ne hD
    simp only [List.mem_cons, not_or] at n1
    obtain ⟨n2, n3, n4, _⟩ := n1
    exact ⟨st2.frm (R := [D]) (frm_upd (by simp)) (by simpa using Ne.symm n3) (by simpa using Ne.symm n4), rest, by rw [upd_ne (Ne.symm n2)]; exact e1, e2⟩
  · exact Nat.le_trans h1 (by decide)
  · rintro D i acc x H1 H2 Nx hD hi f kn inn hd' ⟨st2, rest, e1, e2, pm⟩ _ hl ⟨rfl, rfl⟩ kY kN
    walk_at "go"
    refine ⟨rfl, ?_⟩
    walk_at "go"
    refine w_iteT rfl ?_
    walk_at "go"
    have n5 : n + i < 1099511627776 := by omega
    refine ⟨s, c, n + i, rest.length, rfl, st2, by omega, by omega, n5, fun r H3 hr f3 st3 => ?_⟩
    obtain ⟨v, hv⟩ : ∃ v, rest[r]? = some v := ⟨_, List.getElem?_eq_getElem (by omega)⟩
    have e3 : H3 l = some (.lst rest) := f3.at_ _ _ (by simp [nls, nlc]) e1
    walk_at "go"
    refine popAt_nat (k := r) e3 hv (by omega) ?_
    have f4 : Frm [l, s, c] H2 (upd H3 l (.lst (rest.eraseIdx r))) := (f3.mono (by simp)).trans (frm_upd (by simp))
    have hr2 : r < rest.length := by omega
    refine kY v _ f4 ⟨?_, rest.eraseIdx r, upd_same, ?_, ?_⟩ True.intro
    · have st4 := st3.frm (R := [l]) (H' := upd H3 l (.lst (rest.eraseIdx r))) (frm_upd (by simp)) (by simpa using Ne.symm nls) (by simpa using Ne.symm nlc)
      rw [show n + (i + 1) = n + i + 1 by omega]
      exact st4
    · rw [List.length_eraseIdx_of_lt hr2]
      omega
    · have e5 : v = rest[r] := by
        rw [List.getElem?_eq_getElem hr2] at hv
        exact (Option.some.inj hv).symm
      refine List.Perm.trans ?_ pm
      rw [List.append_assoc]
      refine List.Perm.append_left _ ?_
      rw [e5]
      exact perm_erase hr2
  · rintro D acc H1 hD f inn kn hd' ⟨st2, rest, e1, e2, pm⟩ _ _
    have e3 : rest = [] := List.length_eq_zero_iff.mp (by omega)
    rw [e3, List.append_nil] at pm
    refine q acc D H1 pm ⟨fun a o ha e => ?_, fun a ha => f.live a (Same.live sl a ha)⟩ st2 (same_free sl hD) hd'
    have ne : a ≠ l := ne_of_none e hl
    exact f.at_ a o (by simpa [ne] using ha) (sl a o e)
theorem pure_law_bpool {K : PySem.W.Frag} (vs : List V) (H : Hp) (Q : VK) (E : XK) (h : sp_law_bpool K vs H Q E) : t_law_bpool K { nx := fun _ H' => Q .non H', rt := Q } (start n_law_bpool vs) H := by
  obtain ⟨rfl, q⟩ := h
  unfold t_law_bpool
  walk_at "go"
  refine lc_im walk_str (fun _ => true) (fun i => sg (poolC.getD i 0)) (by decide +kernel) (fun _ _ _ _ => True.intro) ?_ ?_
  · rintro i x H1 H2 KY KN hi s1 ⟨rfl, c, hc, rfl⟩ kY kN
    walk_at "go"
    refine ⟨rfl, ?_⟩
    walk_at "go"
    refine w_iteT rfl ?_
    walk_at "go"
    have k2 := kY rfl _ (Same.refl _)
    have e : poolC.getD i 0 = c := by
      have h2 : poolC[i]? = some c := get_cps hc
      rw [List.getD_eq_getElem?_getD, h2]
      rfl
    rw [e] at k2
    exact k2
  · intro D H1 hD s1 h5
    refine q D H1 s1 hD ?_
    refine h5.trans (congrArg (fun l => some (HO.lst l)) (given_all poolC sg (fun i => sg (poolC.getD i 0)) fun i x h => ?_))
    show sg (poolC.getD i 0) = sg x
    rw [List.getD_eq_getElem?_getD, h]
    rfl
end Pt
namespace Pt
/-! ### data of whatever kind -/
def kP : Key → PyData
  | .inl i => .int i
  | .inr x => .str x
mutual
def noDct : PyData → Bool
  | .list xs => noDctAll xs
  | .tuple xs => noDctAll xs
  | .dict _ => false
  | _ => true
def noDctAll : List PyData → Bool
  | [] => true
  | x :: xs => noDct x && noDctAll xs
end
mutual
inductive Dq (K : PySem.W.Frag) (H : Hp) : V → PyData → Prop
  | non : Dq K H .non .none
  | bl (b : Bool) : Dq K H (.bl b) (.bool b)
  | int (i : Int) : Dq K H (.int i) (.int i)
  | str (x : Str) : Dq K H (.str x) (.str x)
  | lst {a : Addr} {xs : List V} {ds : List PyData} : SqL K H a xs → xs.length ≤ 1000000 → DqAll K H xs ds → Dq K H (.ref a) (.list ds)
  | tup {a : Addr} {xs : List V} {ds : List PyData} : SqT K H a xs → xs.length ≤ 1000000 → DqAll K H xs ds → Dq K H (.ref a) (.tuple ds)
  | dct {a : Addr} {kvs : List (Key × V)} {ds : List (PyData × PyData)} : H a = some (.dK kvs) → kvs.length ≤ 1000000 → (kvs.map (·.1)).Nodup → DqKv K H kvs ds → Dq K H (.ref a) (.dict ds)
inductive DqAll (K : PySem.W.Frag) (H : Hp) : List V → List PyData → Prop
  | nil : DqAll K H [] []
  | cons {v : V} {vs : List V} {d : PyData} {ds : List PyData} : Dq K H v d → DqAll K H vs ds → DqAll K H (v :: vs) (d :: ds)
inductive DqKv (K : PySem.W.Frag) (H : Hp) : List (Key × V) → List (PyData × PyData) → Prop
  | nil : DqKv K H [] []
  | cons {k : Key} {v : V} {kvs : List (Key × V)} {d : PyData} {ds : List (PyData × PyData)} : Dq K H v d → noDct d = true → DqKv K H kvs ds → DqKv K H ((k, v) :: kvs) ((kP k, d) :: ds)
end
section
variable {K : PySem.W.Frag} {H H' : Hp}
/-- what could be read can be read -/
def RdS (H H' : Hp) : Prop := ∀ a xs, (Rd H a (.lst xs) → Rd H' a (.lst xs)) ∧ (Rd H a (.tup xs) → Rd H' a (.tup xs))
theorem Same.rds (e : Same H H') : RdS H H' := fun _ _ => ⟨rd_same e, rd_same e⟩
theorem rds_frz {a : Addr} {o : Obj} {kvs : List (Key × V)} (h : H a = some (.dK kvs)) : RdS H (upd H a (.frz o (.dK kvs))) := fun b xs => by
  have ne : ∀ u, (∃ x, H b = some u ∧ u = x) → u ≠ .dK kvs → b ≠ a := fun u hu n z => by
    obtain ⟨_, e, _⟩ := hu
    rw [z, h] at e
    exact n (Option.some.inj e).symm
  constructor <;>
  · rintro (e | ⟨o', e⟩)
    · exact .inl (by rw [upd_ne (ne _ ⟨_, e, rfl⟩ (fun z => nomatch z))]; exact e)
    · exact .inr ⟨o', by rw [upd_ne (ne _ ⟨_, e, rfl⟩ (fun z => nomatch z))]; exact e⟩
theorem rds_unfrz {a : Addr} {o : Obj} {kvs : List (Key × V)} (h : H a = some (.frz o (.dK kvs))) : RdS H (upd H a (.dK kvs)) := fun b xs => by
  constructor <;>
  · rintro (e | ⟨o', e⟩)
    · have ne : b ≠ a := fun z => by
        rw [z, h] at e
        cases e
      exact .inl (by rw [upd_ne ne]; exact e)
    · have ne : b ≠ a := fun z => by
        rw [z, h] at e
        cases e
      exact .inr ⟨o', by rw [upd_ne ne]; exact e⟩
theorem hid_upd_eq {M : List Addr} {a : Addr} {o : HO} (h : a ∉ M) : hid M (upd H a o) = upd (hid M H) a o := by
  funext b
  by_cases q : b = a
  · rw [q, hid_at h, upd_same, upd_same]
  · rw [upd_ne q]
    unfold hid
    rw [upd_ne q]
theorem mergeK_nd : ∀ {more kvs : List (Key × V)}, ((kvs ++ more).map (·.1)).Nodup → mergeK kvs more = kvs ++ more
  | [], kvs, _ => by simp [mergeK]
  | p :: r, kvs, h => by
    have e : putK kvs p.1 p.2 = kvs ++ [p] := by
      unfold putK
      rw [if_neg]
      intro z
      obtain ⟨q, hq, e⟩ := List.any_eq_true.mp z
      rw [List.map_append, List.nodup_append] at h
      exact h.2.2 q.1 (List.mem_map.mpr ⟨q, hq, rfl⟩) p.1 (by simp) (of_decide_eq_true e)
    show mergeK (putK kvs p.1 p.2) r = _
    rw [e, mergeK_nd (by simpa using h)]
    simp
theorem valV_get {κ : Type} [DecidableEq κ] : ∀ {kvs : List (κ × V)} {i : Nat} {k : κ} {v : V}, (kvs.map (·.1)).Nodup → kvs[i]? = some (k, v) → valV kvs k = some v
  | [], i, _, _, _, h => by cases h
  | p :: r, 0, k, v, _, h => by
    cases h
    exact valV_pos rfl
  | p :: r, i + 1, k, v, n, h => by
    have n2 := List.nodup_cons.mp n
    have hm : k ∈ r.map (·.1) := List.mem_map.mpr ⟨(k, v), List.mem_of_getElem? h, rfl⟩
    rw [valV_neg (fun e => n2.1 (by show p.1 ∈ _; rw [show p.1 = k from e]; exact hm))]
    exact valV_get n2.2 h
theorem paired_snoc {α β : Type} {F : α → β → Prop} : ∀ {xs : List α} {ys : List β} {x : α} {y : β}, Paired F xs ys → F x y → Paired F (xs ++ [x]) (ys ++ [y])
  | _, _, _, _, .nil, h => .cons h .nil
  | _, _, _, _, .cons r t, h => .cons r (paired_snoc t h)
theorem sql_rds (e : RdS H H') {a : Addr} {xs : List V} (h : SqL K H a xs) : SqL K H' a xs := h.imp (e a xs).1 id
theorem sqt_rds (e : RdS H H') {a : Addr} {xs : List V} (h : SqT K H a xs) : SqT K H' a xs := h.imp (e a xs).2 id
mutual
theorem dq_same (e : Same H H') : ∀ {d : PyData} {v : V}, Dq K H v d → Dq K H' v d
  | _, _, .non => .non
  | _, _, .bl b => .bl b
  | _, _, .int i => .int i
  | _, _, .str x => .str x
  | _, _, .lst s l h => .lst (sql_same e s) l (dqa_same e h)
  | _, _, .tup s l h => .tup (sqt_same e s) l (dqa_same e h)
  | _, _, .dct s l n h => .dct (e _ _ s) l n (dqk_same e h)
theorem dqa_same (e : Same H H') : ∀ {ds : List PyData} {vs : List V}, DqAll K H vs ds → DqAll K H' vs ds
  | _, _, .nil => .nil
  | _, _, .cons h t => .cons (dq_same e h) (dqa_same e t)
theorem dqk_same (e : Same H H') : ∀ {ds : List (PyData × PyData)} {vs : List (Key × V)}, DqKv K H vs ds → DqKv K H' vs ds
  | _, _, .nil => .nil
  | _, _, .cons h n t => .cons (dq_same e h) n (dqk_same e t)
end
mutual
theorem dq_rds (e : RdS H H') : ∀ {d : PyData} {v : V}, Dq K H v d → noDct d = true → Dq K H' v d
  | _, _, .non, _ => .non
  | _, _, .bl b, _ => .bl b
  | _, _, .int i, _ => .int i
  | _, _, .str x, _ => .str x
  | _, _, .lst s l h, n => .lst (sql_rds e s) l (dqa_rds e h n)
  | _, _, .tup s l h, n => .tup (sqt_rds e s) l (dqa_rds e h n)
theorem dqa_rds (e : RdS H H') : ∀ {ds : List PyData} {vs : List V}, DqAll K H vs ds → noDctAll ds = true → DqAll K H' vs ds
  | _, _, .nil, _ => .nil
  | _, _, .cons h t, n => by
    have n2 : (noDct _ && noDctAll _) = true := n
    rw [Bool.and_eq_true] at n2
    exact .cons (dq_rds e h n2.1) (dqa_rds e t n2.2)
end
theorem dqk_rds (e : RdS H H') : ∀ {ds : List (PyData × PyData)} {vs : List (Key × V)}, DqKv K H vs ds → DqKv K H' vs ds
  | _, _, .nil => .nil
  | _, _, .cons h n t => .cons (dq_rds e h n) n (dqk_rds e t)
theorem DqAll.length : ∀ {vs : List V} {ds : List PyData}, DqAll K H vs ds → vs.length = ds.length
  | _, _, .nil => rfl
  | _, _, .cons _ t => congrArg Nat.succ t.length
theorem DqAll.get : ∀ {vs : List V} {ds : List PyData} {i : Nat} {v : V}, DqAll K H vs ds → vs[i]? = some v → ∃ d, ds[i]? = some d ∧ Dq K H v d
  | _, _, i, _, .nil, h => by cases h
  | _, _, 0, _, .cons h t, e => by
    cases e
    exact ⟨_, rfl, h⟩
  | _, _, i + 1, _, .cons h t, e => t.get (i := i) e
theorem DqAll.snoc : ∀ {vs : List V} {ds : List PyData} {v : V} {d : PyData}, DqAll K H vs ds → Dq K H v d → DqAll K H (vs ++ [v]) (ds ++ [d])
  | _, _, _, _, .nil, h => .cons h .nil
  | _, _, _, _, .cons g t, h => .cons g (t.snoc h)
theorem DqKv.get : ∀ {kvs : List (Key × V)} {ds : List (PyData × PyData)} {i : Nat} {k : Key} {v : V}, DqKv K H kvs ds → kvs[i]? = some (k, v) → ∃ d, ds[i]? = some (kP k, d) ∧ Dq K H v d ∧ noDct d = true
  | _, _, i, _, _, .nil, h => by cases h
  | _, _, 0, _, _, .cons h n t, e => by
    cases e
    exact ⟨_, rfl, h, n⟩
  | _, _, i + 1, _, _, .cons h n t, e => t.get (i := i) e
theorem DqKv.snoc : ∀ {kvs : List (Key × V)} {ds : List (PyData × PyData)} {k : Key} {v : V} {d : PyData}, DqKv K H kvs ds → Dq K H v d → noDct d = true → DqKv K H (kvs ++ [(k, v)]) (ds ++ [(kP k, d)])
  | _, _, _, _, _, .nil, h, n => .cons h n .nil
  | _, _, _, _, _, .cons g m t, h, n => .cons g m (t.snoc h n)
/-! the rank: how deep a walk goes -/
mutual
def rk : PyData → Nat
  | .list xs => rkAll xs + 1
  | .tuple xs => rkAll xs + 1
  | .dict kvs => rkKv kvs + 3
  | _ => 0
def rkAll : List PyData → Nat
  | [] => 0
  | x :: xs => max (rk x) (rkAll xs)
def rkKv : List (PyData × PyData) → Nat
  | [] => 0
  | (_, x) :: xs => max (rk x) (rkKv xs)
end
theorem rkAll_get : ∀ {ds : List PyData} {i : Nat} {d : PyData}, ds[i]? = some d → rk d ≤ rkAll ds
  | [], _, _, h => by cases h
  | x :: xs, 0, _, h => by
    cases h
    exact Nat.le_max_left _ _
  | x :: xs, i + 1, _, h => Nat.le_trans (rkAll_get (ds := xs) (i := i) h) (Nat.le_max_right _ _)
theorem rkKv_get : ∀ {ds : List (PyData × PyData)} {i : Nat} {k d : PyData}, ds[i]? = some (k, d) → rk d ≤ rkKv ds
  | [], _, _, _, h => by cases h
  | (_, x) :: xs, 0, _, _, h => by
    cases h
    exact Nat.le_max_left _ _
  | (_, x) :: xs, i + 1, _, _, h => Nat.le_trans (rkKv_get (ds := xs) (i := i) h) (Nat.le_max_right _ _)
/-! kinds -/
def tyN : PyData → String
  | .none => "NoneType"
  | .bool _ => "bool"
  | .int _ => "int"
  | .str _ => "str"
  | .list _ => "list"
  | .tuple _ => "tuple"
  | .dict _ => "dict"
theorem tyx_l {a : Addr} {xs : List V} (h : SqL K H a xs) : TyX K H (.ref a) (.type "list") := by
  rcases h with (h | ⟨o, h⟩) | ⟨o, its, n, e, c, _⟩
  · exact .base (.lst h)
  · exact .base (.frz h)
  · exact .kList e c
theorem tyx_t {a : Addr} {xs : List V} (h : SqT K H a xs) : TyX K H (.ref a) (.type "tuple") := by
  rcases h with (h | ⟨o, h⟩) | ⟨o, its, n, e, c, _⟩
  · exact .base (.tup h)
  · exact .fTuple h
  · exact .kTuple e c
theorem dq_ty {v : V} {d : PyData} (h : Dq K H v d) : TyX K H v (.type (tyN d)) := by
  cases h with
  | non => exact .base .non
  | bl b => exact .base (.bl b)
  | int i => exact .base (.int i)
  | str x => exact .base (.str x)
  | lst s _ _ => exact tyx_l s
  | tup s _ _ => exact tyx_t s
  | dct s _ _ _ => exact .base (.dK s)
theorem isi_q {v : V} {d : PyData} {tn n : String} {b : Bool} {Q : VK} (h : Dq K H v d) (e : tyN d = tn) (hb : kitB tn n = some b) (q : Q (.bl b) H) : cIsi K [v, .ty n] H Q := isi_1 (dq_ty h) (kit_ty (e ▸ hb)) q
theorem kit_any {a : String} {ns : List String} {b : Bool} (h : (ns.foldr (fun n (r : Option Bool) => match kitB a n with | some true => some true | some false => r | none => none) (some false)) = some b) : PySem.W.kitAny K (.type a) (ns.map Value.type) = some b := by
  induction ns generalizing b with
  | nil => exact h
  | cons n r ih =>
    show PySem.W.kitAny K (.type a) (.type n :: r.map Value.type) = some b
    simp only [List.foldr_cons] at h
    cases e : kitB a n with
    | none => rw [e] at h; cases h
    | some k =>
      rw [e] at h
      cases k with
      | true =>
        cases h
        exact kitAny_cons (kit_ty e) (fun z => by cases z) (fun _ => rfl)
      | false => exact kitAny_cons (kit_ty e) (fun _ => ih h) (fun z => by cases z)
theorem clsv_all : ∀ ns : List String, Paired ClsV (ns.map V.ty) (ns.map Value.type)
  | [] => .nil
  | n :: r => .cons (.ty n) (clsv_all r)
def kitL (a : String) (ns : List String) : Option Bool := ns.foldr (fun n (r : Option Bool) => match kitB a n with | some true => some true | some false => r | none => none) (some false)
/-- isinstance(x, (t1, t2, ..)), the tuple just laid at p -/
theorem isi_qt {v : V} {d : PyData} {p : Addr} (ns : List String) {tn : String} {b : Bool} {Q : VK} (h : Dq K H v d) (e : tyN d = tn) (hp : H p = some (.tup (ns.map V.ty))) (hb : kitL tn ns = some b) (q : Q (.bl b) H) : cIsi K [v, .ref p] H Q :=
  .inr ⟨v, p, _, _, _, b, rfl, hp, clsv_all ns, dq_ty h, kit_any (e ▸ hb), q⟩
theorem dq_hid {M : List Addr} {v : V} {d : PyData} (h : Dq K (hid M H) v d) : Dq K H v d := dq_same hid_sub h
end
end Pt
namespace Pt
def sp_law_copied (K : PySem.W.Frag) : Nat → Sp
  | 0 => fun _ _ _ _ => False
  | n + 1 => fun vs H Q _ => ∃ (M : List Addr) (v : V) (d : PyData), vs = [v] ∧ InH M H ∧ Dq K (hid M H) v d ∧ rk d ≤ n ∧ ∀ v' H', Same H H' → Dq K (hid M H') v' d → Q v' H'
abbrev n_law_copied : List Str := ["thing", "found", "key", "part"]
def t_law_copied (K : PySem.W.Frag) (n : Nat) : TS :=
  tSeq (tIfS (tTru K (tCB (cIsi K) (tCons (tVar 0) (tCons (tC (.ty "dict")) (tNil))))) (tRet (tCB (cDict K) (tCons (tLockE (tLc (iKeys (tVar 0)) (gName 2) (tYes) (tTup (tCons (tVar 2) (tCons (tOwn (sp_law_copied K n) (tCons (tOp (rIxU K) (tVar 0) (tVar 2)) (tNil))) (tNil)))) [2])) (tNil)))) (tNext)) (tSeq (tIfS (tNot (tTru K (tCB (cIsi K) (tCons (tVar 0) (tCons (tTup (tCons (tC (.ty "list")) (tCons (tC (.ty "tuple")) (tNil)))) (tNil)))))) (tRet (tVar 0)) (tNext)) (tSeq (tAsg (tLc (iSeq K (tVar 0)) (gName 3) (tYes) (tOwn (sp_law_copied K n) (tCons (tVar 3) (tNil))) [3]) (gName 1)) (tRet (tIf (tTru K (tCB (cIsi K) (tCons (tVar 0) (tCons (tC (.ty "list")) (tNil))))) (tVar 1) (tCB (cTuple K) (tCons (tVar 1) (tNil)))))))
theorem pure_law_copied {K : PySem.W.Frag} (n : Nat) (vs : List V) (H : Hp) (Q : VK) (E : XK) (h : sp_law_copied K (n + 1) vs H Q E) : t_law_copied K n { nx := fun _ H' => Q .non H', rt := Q } (start n_law_copied vs) H := by
  obtain ⟨M, v, d, rfl, hM, hd, hr, q⟩ := h
  have flat : ∀ tn, tyN d = tn → kitB tn "dict" = some false → kitL tn ["list", "tuple"] = some false → t_law_copied K n { nx := fun _ H' => Q .non H', rt := Q } (start n_law_copied [v]) H := by
    intro tn e k1 k2
    unfold t_law_copied
    walk_at "go"
    refine isi_q (dq_hid hd) e k1 ?_
    walk_at "go"
    refine w_iteF rfl ?_
    walk_at "go"
    refine ⟨by show 2 ≤ sizeLine; decide, fun p hp => ?_⟩
    have s1 := same_new (o := .tup [.ty "list", .ty "tuple"]) hp
    walk_at "go"
    refine isi_qt ["list", "tuple"] (dq_same s1 (dq_hid hd)) e upd_same k2 ?_
    walk_at "go"
    refine w_iteT rfl ?_
    walk_at "go"
    exact q v _ s1 (dq_same (hid_same s1) hd)
  -- what a list's items, a tuple's items come to
  have items : ∀ (ds : List PyData) (xs : List V), rkAll ds + 1 ≤ n → xs.length ≤ 1000000 → DqAll K (hid M H) xs ds → ∀ (a : Addr) (J : It), v = .ref a → ∀ Hb, Same H Hb → (∃ Gw, Walk J xs.length Gw (YAt xs) ∧ ∀ H, Same Hb H → Gw H) →
      ∀ (R : Addr → Hp → Prop), (∀ D acc H1, H D = none → Same H H1 → InH (D :: M) H1 → H1 D = some (.lst acc) → acc.length ≤ xs.length → DqAll K (hid (D :: M) H1) acc ds → R D H1) →
      ∀ D, Hb D = none → ∃ W : Nat → Nat → Hp → Prop, (∃ m, W 0 m (upd Hb D (.lst []))) ∧ ∀ i m H, W i m H →
      (J.stop i H ∧ R D H) ∨ (J.go i H ∧ ∃ Nx : Hp → Prop, (∀ H', Nx H' → ∃ m', m' < m ∧ W (i + 1) m' H') ∧ ∀ x H', J.yld i H x H' → gName 3 x (wipe (start n_law_copied [v]) [3]) H' fun σ2 H2 => wipe σ2 [3] = wipe (start n_law_copied [v]) [3] ∧ tYes σ2 H2 fun b H3 =>
        if b = true then tOwn (sp_law_copied K n) (tCons (tVar 3) tNil) σ2 H3 fun y H4 => ∃ acc, H4 D = some (.lst acc) ∧ acc.length < sizeLine ∧ Nx (upd H4 D (.lst (acc ++ [y]))) else Nx H3) := by
    rintro ds xs hr hl ha a J rfl Hb s1 ⟨Gw, wk, hG⟩ R hR
    refine lc_pure wk M (fun i acc G => DqAll K G acc (ds.take i)) (hM.same s1) (fun _ _ => by simpa using DqAll.nil) (fun i acc G G' e h => dqa_same e h) hG (Nat.le_trans hl (by decide)) ?_ ?_
    · rintro D i acc x H1 H2 Nx hD hi f kn inn hd' hr' ⟨rfl, hx⟩ kY kN
      obtain ⟨di, hdi, hdx⟩ := ha.get hx
      walk_at "go"
      refine ⟨rfl, ?_⟩
      walk_at "go"
      refine w_iteT rfl ?_
      walk_at "go"
      have hr3 : rk di + 1 ≤ n := by
        have := rkAll_get hdi
        omega
      obtain ⟨m, rfl⟩ : ∃ m, n = m + 1 := ⟨n - 1, by omega⟩
      refine ⟨D :: M, x, di, rfl, inn, dq_same kn (dq_same (hid_same s1) hdx), by omega, fun v' H3 s3 hv => ?_⟩
      refine kY v' H3 s3 ?_
      have e : ds.take (i + 1) = ds.take i ++ [di] := by
        rw [List.take_add_one, hdi]
        rfl
      rw [e]
      exact (dqa_same (hid_same s3) hr').snoc hv
    · rintro D acc H1 hD f inn kn hd' hr' hla
      rw [ha.length, List.take_length] at hr'
      exact hR D acc H1 (same_free s1 hD) (fun b o e => f b o (s1 b o e)) inn hd' hla hr'
  cases hd with
  | non => exact flat "NoneType" rfl (by decide +kernel) (by decide +kernel)
  | bl b => exact flat "bool" rfl (by decide +kernel) (by decide +kernel)
  | int i => exact flat "int" rfl (by decide +kernel) (by decide +kernel)
  | str x => exact flat "str" rfl (by decide +kernel) (by decide +kernel)
  | @lst a xs ds hs hl ha =>
    have hd : Dq K (hid M H) (.ref a) (.list ds) := .lst hs hl ha
    unfold t_law_copied
    walk_at "go"
    refine isi_q (tn := "list") (b := false) (dq_hid hd) rfl (by decide +kernel) ?_
    walk_at "go"
    refine w_iteF rfl ?_
    walk_at "go"
    refine ⟨by show 2 ≤ sizeLine; decide, fun p hp => ?_⟩
    have s1 := same_new (o := .tup [.ty "list", .ty "tuple"]) hp
    walk_at "go"
    refine isi_qt ["list", "tuple"] (tn := "list") (b := true) (dq_same s1 (dq_hid hd)) rfl upd_same (by decide +kernel) ?_
    walk_at "go"
    refine w_iteF rfl ?_
    walk_at "go"
    refine w_iseqL ?_
    walk_at "go"
    have hs1 : SqL K (upd H p (.tup [.ty "list", .ty "tuple"])) a xs := sql_same s1 (sql_same hid_sub hs)
    refine e_ilist hs1 ?_
    refine items ds xs hr hl ha a _ rfl _ s1 ⟨_, walk_list (xs := xs), fun H e => sql_same e hs1⟩ _ ?_
    rintro D acc H1 hD f inn hd' hla hr'
    walk_at "go"
    refine isi_q (tn := "list") (b := true) (dq_same f (dq_hid hd)) rfl (by decide +kernel) ?_
    walk_at "go"
    refine w_iteT rfl ?_
    walk_at "go"
    refine q _ H1 f (.lst (sql_of ?_) (Nat.le_trans hla hl) (dqa_same hid_cons hr'))
    rw [hid_at (hM.ne hD)]
    exact hd'
  | @tup a xs ds hs hl ha =>
    have hd : Dq K (hid M H) (.ref a) (.tuple ds) := .tup hs hl ha
    unfold t_law_copied
    walk_at "go"
    refine isi_q (tn := "tuple") (b := false) (dq_hid hd) rfl (by decide +kernel) ?_
    walk_at "go"
    refine w_iteF rfl ?_
    walk_at "go"
    refine ⟨by show 2 ≤ sizeLine; decide, fun p hp => ?_⟩
    have s1 := same_new (o := .tup [.ty "list", .ty "tuple"]) hp
    walk_at "go"
    refine isi_qt ["list", "tuple"] (tn := "tuple") (b := true) (dq_same s1 (dq_hid hd)) rfl upd_same (by decide +kernel) ?_
    walk_at "go"
    refine w_iteF rfl ?_
    walk_at "go"
    refine w_iseqT ?_
    walk_at "go"
    have hs1 : SqT K (upd H p (.tup [.ty "list", .ty "tuple"])) a xs := sqt_same s1 (sqt_same hid_sub hs)
    refine e_itup hs1 ?_
    refine items ds xs hr hl ha a _ rfl _ s1 ⟨_, walk_tup (xs := xs), fun H e => sqt_same e hs1⟩ _ ?_
    rintro D acc H1 hD f inn hd' hla hr'
    walk_at "go"
    refine isi_q (tn := "tuple") (b := false) (dq_same f (dq_hid hd)) rfl (by decide +kernel) ?_
    walk_at "go"
    refine w_iteF rfl ?_
    walk_at "go"
    refine tuple_l (sql_of hd') fun p2 hp2 => ?_
    have s2 := same_new (o := .tup acc) hp2
    refine q _ _ (f.trans s2) (.tup (sqt_of ?_) (Nat.le_trans hla hl) (dqa_same (hid_same s2) (dqa_same hid_cons hr')))
    rw [hid_at (hM.ne (same_free f hp2)), upd_same]
  | @dct a kvs ds hs hl nd ha =>
    have hd : Dq K (hid M H) (.ref a) (.dict ds) := .dct hs hl nd ha
    unfold t_law_copied
    walk_at "go"
    refine isi_q (tn := "dict") (b := true) (dq_hid hd) rfl (by decide +kernel) ?_
    walk_at "go"
    refine w_iteT rfl ?_
    walk_at "go"
    obtain ⟨haM, hsH⟩ := hid_of hs
    refine ⟨a, .dK kvs, hsH, True.intro, fun od => ?_⟩
    have rf : RdS (hid M H) (hid M (upd H a (.frz od (.dK kvs)))) := by
      rw [hid_upd_eq haM]
      exact rds_frz hs
    have iMf : InH M (upd H a (.frz od (.dK kvs))) := hM.upd
    walk_at "go"
    refine ⟨a, od, rfl, .inl ⟨kvs, upd_same, ?_⟩⟩
    refine lc_pure walk_keys M (fun i acc G => ∃ (ps : List Addr) (ks : List (Key × V)), acc = ps.map V.ref ∧ Paired (fun p kv => SqT K G p [kV kv.1, kv.2]) ps ks ∧ ks.map (·.1) = (kvs.take i).map (·.1) ∧ DqKv K G ks (ds.take i) ∧ ps.length = i) iMf ?_ ?_ (fun H e => e _ _ upd_same) (Nat.le_trans hl (by decide)) ?_ ?_
    · exact fun G _ => ⟨[], [], rfl, .nil, by simp, by simpa using DqKv.nil, rfl⟩
    · rintro i acc G G' e ⟨ps, ks, e1, e2, e3, e4, e5⟩
      exact ⟨ps, ks, e1, Paired.mapP e2 fun p kv h => sqt_same e h, e3, dqk_same e e4, e5⟩
    · rintro D i acc x H1 H2 Nx hD hi f kn inn hd' ⟨ps, ks, rfl, e2, e3, e4, e5⟩ ⟨rfl, k, v, hkv, rfl⟩ kY kN
      obtain ⟨di, hdi, hdx, hnd⟩ := ha.get hkv
      walk_at "go"
      refine ⟨rfl, ?_⟩
      walk_at "go"
      refine w_iteT rfl ?_
      walk_at "go"
      refine ix_d (v := v) (.inl ⟨kvs, k, .inr ⟨od, f _ _ upd_same⟩, rfl, ?_⟩) ?_
      · exact (valV_get nd hkv).symm
      walk_at "go"
      have hr3 : rk di + 3 ≤ n := by
        have := rkKv_get hdi
        have h2 : rkKv ds + 3 ≤ n := hr
        omega
      obtain ⟨m, rfl⟩ : ∃ m, n = m + 1 := ⟨n - 1, by omega⟩
      refine ⟨D :: M, v, di, rfl, inn, dq_same kn (dq_rds rf hdx hnd), by omega, fun v' H3 s3 hv => ?_⟩
      walk_at "go"
      refine ⟨by show 2 ≤ sizeLine; decide, fun p hp => ?_⟩
      have s4 := same_new (o := .tup [kV k, v']) hp
      have s34 : Same (hid (D :: M) H2) (hid (D :: M) (upd H3 p (.tup [kV k, v']))) := fun b o e => hid_same s4 b o (hid_same s3 b o e)
      have eds : ds.take (i + 1) = ds.take i ++ [(kP k, di)] := by
        rw [List.take_add_one, hdi]
        rfl
      refine kY _ _ (fun b o e => s4 b o (s3 b o e)) ⟨ps ++ [p], ks ++ [(k, v')], by simp, ?_, ?_, ?_, by simp [e5]⟩
      · refine paired_snoc (Paired.mapP e2 fun p kv h => sqt_same s34 h) (sqt_of ?_)
        rw [hid_at ((inn.same s3).ne hp), upd_same]
      · rw [List.map_append, e3, List.take_add_one, hkv, List.map_append]
        rfl
      · rw [eds]
        exact (dqk_same s34 e4).snoc (dq_same (hid_same s4) hv) hnd
    · rintro D acc H1 hD f inn kn hd' ⟨ps, ks, rfl, e2, e3, e4, e5⟩ hla
      refine ⟨f _ _ upd_same, ?_⟩
      walk_at "go"
      have haf : H1 a = some (.frz od (.dK kvs)) := f _ _ upd_same
      have nDa : D ≠ a := fun z => by
        rw [← z, hd'] at haf
        cases haf
      rw [List.take_of_length_le (Nat.le_refl _)] at e3
      have hln : kvs.length = ds.length := by
        have : ∀ {kvs : List (Key × V)} {ds : List (PyData × PyData)}, DqKv K (hid M H) kvs ds → kvs.length = ds.length := by
          intro kvs ds h
          induction kvs generalizing ds with
          | nil => cases h; rfl
          | cons p r ih => cases h with | cons _ _ t => exact congrArg Nat.succ (ih t)
        exact this ha
      rw [hln, List.take_length] at e4
      have ru : RdS (hid (D :: M) H1) (hid (D :: M) (upd H1 a (.dK kvs))) := by
        have h1 : a ∉ D :: M := by
          simp only [List.mem_cons, not_or]
          exact ⟨Ne.symm nDa, haM⟩
        rw [hid_upd_eq h1]
        exact rds_unfrz (by rw [hid_at h1]; exact haf)
      have rk : RdS (hid (D :: M) (upd H1 a (.dK kvs))) (upd H1 a (.dK kvs)) := Same.rds hid_sub
      have sf : Same H (upd H1 a (.dK kvs)) := fun b o e => by
        by_cases q : b = a
        · rw [q] at e ⊢
          rw [upd_same, ← hsH, e]
        · rw [upd_ne q]
          exact f b o (by rw [upd_ne q]; exact e)
      have hDH : H D = none := by
        rw [upd_ne nDa] at hD
        exact hD
      refine .inl ⟨D, ps, ks, rfl, sql_of (by rw [upd_ne nDa]; exact hd'), Paired.mapP e2 fun p kv h => sqt_rds rk (sqt_rds ru h), fun p hp => ?_⟩
      have s6 := same_new (o := .dK (mergeK [] ks)) hp
      have ndk : (ks.map (·.1)).Nodup := by rw [e3]; exact nd
      have em : mergeK [] ks = ks := mergeK_nd (by simpa using ndk)
      have hk2 : DqKv K (hid M (upd (upd H1 a (.dK kvs)) p (.dK (mergeK [] ks)))) ks ds := by
        exact dqk_same (hid_same s6) (dqk_same hid_cons (dqk_rds ru e4))
      refine q _ _ (fun b o e => s6 b o (sf b o e)) (.dct (by rw [hid_at ((hM.same sf).ne hp), upd_same, em]) ?_ ndk hk2)
      have := congrArg List.length e3
      rw [List.length_map, List.length_map] at this
      rw [this]
      exact hl
end Pt
namespace Pt
theorem walk_zipT {K : PySem.W.Frag} {a b : Addr} {xs ys : List V} {n : Nat} (hn : n = min xs.length ys.length) : Walk (RZ.ItzT K a b) n (fun H => SqT K H a xs ∧ SqT K H b ys) (YPair (fun i => xs[i]?) (fun i => ys[i]?)) := by
  subst hn
  refine ⟨fun i _ hi q => ?_, fun _ q => ⟨xs, ys, q.1, q.2, by omega⟩, fun i H v H' _ q y => ?_⟩
  · have h1 : i < xs.length := by omega
    have h2 : i < ys.length := by omega
    exact ⟨xs, ys, xs[i], ys[i], q.1, q.2, by simp [h1], by simp [h2]⟩
  · obtain ⟨T, x, z, h1, h2, h3, h4, h5⟩ := y
    exact ⟨T, x, z, h1, h2, h3, h4 xs q.1, h5 ys q.2⟩
def sp_law_same (K : PySem.W.Frag) : Nat → Sp
  | 0 => fun _ _ _ _ => False
  | n + 1 => fun vs H Q _ => ∃ (u v : V) (d : PyData), vs = [u, v] ∧ Dq K H u d ∧ Dq K H v d ∧ rk d ≤ n ∧ ∀ H', Same H H' → Q (.bl true) H'
abbrev n_law_same : List Str := ["found", "due", "x", "y"]
def t_law_same (K : PySem.W.Frag) (n : Nat) : TS :=
  tSeq (tIfS (tTru K (tCB (cIsi K) (tCons (tVar 1) (tCons (tTup (tCons (tC (.ty "list")) (tCons (tC (.ty "tuple")) (tNil)))) (tNil))))) (tSeq (tIfS (tOr (tTest (tOp (rNeU K) (tCB (cIsi K) (tCons (tVar 0) (tCons (tC (.ty "list")) (tNil)))) (tCB (cIsi K) (tCons (tVar 1) (tCons (tC (.ty "list")) (tNil)))))) (tTest (tOp (rNeU K) (tCB (cIsi K) (tCons (tVar 0) (tCons (tC (.ty "tuple")) (tNil)))) (tCB (cIsi K) (tCons (tVar 1) (tCons (tC (.ty "tuple")) (tNil))))))) (tRet (tC (.bl false))) (tNext)) (tRet (tAndT K (tOp (rEqU K) (tCB (cLen K) (tCons (tVar 0) (tNil))) (tCB (cLen K) (tCons (tVar 1) (tNil)))) (tCB (rAll K) (tCons (tLc (RZ.iZipA K (tCons (tVar 0) (tCons (tVar 1) (tNil)))) (gTup K 2 (gCons (gName 2) (gCons (gName 3) (gNil)))) (tYes) (tOwn (sp_law_same K n) (tCons (tVar 2) (tCons (tVar 3) (tNil)))) [2, 3]) (tNil)))))) (tNext)) (tSeq (tIfS (tTru K (tCB (cIsi K) (tCons (tVar 1) (tCons (tC (.ty "dict")) (tNil))))) (tRet (tAndT K (tCB (cIsi K) (tCons (tVar 0) (tCons (tC (.ty "dict")) (tNil)))) (tOwn (sp_law_same K n) (tCons (LiI.tListItems (tVar 0)) (tCons (LiI.tListItems (tVar 1)) (tNil)))))) (tNext)) (tSeq (tIfS (tTru K (tCB (cIsi K) (tCons (tVar 1) (tCons (tC (.ty "int")) (tNil))))) (tRet (tAndT K (tCB (cIsi K) (tCons (tVar 0) (tCons (tC (.ty "int")) (tNil)))) (tAndT K (tOp (rEqU K) (tCB (cIsi K) (tCons (tVar 0) (tCons (tC (.ty "bool")) (tNil)))) (tCB (cIsi K) (tCons (tVar 1) (tCons (tC (.ty "bool")) (tNil))))) (tOp (rEqU K) (tVar 0) (tVar 1))))) (tNext)) (tSeq (tIfS (tTest (tOp rIsU (tVar 1) (tC .non))) (tRet (tOp rIsU (tVar 0) (tC .non))) (tNext)) (tSeq (tIfS (tTru K (tCB (cIsi K) (tCons (tVar 1) (tCons (tC (.ty "str")) (tNil))))) (tRet (tAndT K (tCB (cIsi K) (tCons (tVar 0) (tCons (tC (.ty "str")) (tNil)))) (tOp (rEqU K) (tVar 0) (tVar 1)))) (tNext)) (tRet (tAndT K (tNotT K (tCB (cIsi K) (tCons (tVar 0) (tCons (tTup (tCons (tC (.ty "int")) (tCons (tC (.ty "str")) (tCons (tC (.ty "list")) (tCons (tC (.ty "tuple")) (tCons (tC (.ty "dict")) (tNil))))))) (tNil))))) (tOp (rEqU K) (tVar 0) (tVar 1))))))))
theorem pure_law_same {K : PySem.W.Frag} (n : Nat) (vs : List V) (H : Hp) (Q : VK) (E : XK) (h : sp_law_same K (n + 1) vs H Q E) : t_law_same K n { nx := fun _ H' => Q .non H', rt := Q } (start n_law_same vs) H := by
  obtain ⟨u, v, d, rfl, hu, hv, hr, q⟩ := h
  -- the items of both
  have items : ∀ (ds : List PyData) (xs ys : List V), rkAll ds + 1 ≤ n → DqAll K H xs ds → DqAll K H ys ds → xs.length ≤ 1000000 → ∀ (J : It) (Hb : Hp), Same H Hb → (∃ Gw, Walk J xs.length Gw (YPair (fun i => xs[i]?) (fun i => ys[i]?)) ∧ ∀ H, Same Hb H → Gw H) →
      ∀ D, Hb D = none → ∃ W : Nat → Nat → Hp → Prop, (∃ m, W 0 m (upd Hb D (.lst []))) ∧ ∀ i m H, W i m H →
      (J.stop i H ∧ (fun D H => rAll K [.ref D] H Q) D H) ∨ (J.go i H ∧ ∃ Nx : Hp → Prop, (∀ H', Nx H' → ∃ m', m' < m ∧ W (i + 1) m' H') ∧ ∀ x H', J.yld i H x H' → gTup K 2 (gCons (gName 2) (gCons (gName 3) gNil)) x (wipe (start n_law_same [u, v]) [2, 3]) H' fun σ2 H2 => wipe σ2 [2, 3] = wipe (start n_law_same [u, v]) [2, 3] ∧ tYes σ2 H2 fun b H3 =>
        if b = true then tOwn (sp_law_same K n) (tCons (tVar 2) (tCons (tVar 3) tNil)) σ2 H3 fun y H4 => ∃ acc, H4 D = some (.lst acc) ∧ acc.length < sizeLine ∧ Nx (upd H4 D (.lst (acc ++ [y]))) else Nx H3) := by
    rintro ds xs ys hr hx hy hl J Hb s1 ⟨Gw, wk, hG⟩
    refine lc_im wk (fun _ => true) (fun _ => .bl true) (Nat.le_trans hl (by decide)) (fun _ H _ e => hG H e) ?_ ?_
    · rintro i x H1 H2 KY KN hi s2 ⟨T, a, b, rfl, hT, rfl, ea, eb⟩ kY kN
      obtain ⟨di, hdi, hda⟩ := hx.get ea
      obtain ⟨dj, hdj, hdb⟩ := hy.get eb
      rw [hdi] at hdj
      cases hdj
      refine w_gtup (sqt_of upd_same) rfl ?_
      walk_at "go"
      refine ⟨rfl, ?_⟩
      walk_at "go"
      refine w_iteT rfl ?_
      walk_at "go"
      have hr3 : rk di + 1 ≤ n := by
        have := rkAll_get hdi
        omega
      obtain ⟨m, rfl⟩ : ∃ m, n = m + 1 := ⟨n - 1, by omega⟩
      have s3 := same_new (o := .tup [a, b]) hT
      have s4 : Same H (upd H1 T (.tup [a, b])) := fun b o e => s3 b o (s2 b o (s1 b o e))
      exact ⟨a, b, di, rfl, dq_same s4 hda, dq_same s4 hdb, by omega, fun H3 s5 => kY rfl _ (fun b o e => s5 b o (s3 b o e))⟩
    · intro D H1 hD s2 h5
      refine ⟨D, (List.range xs.length).map fun _ => true, rfl, sql_of ?_, ?_⟩
      · rw [h5]
        unfold given
        rw [List.filter_eq_self.mpr (fun _ _ => rfl), List.map_map]
        rfl
      · rw [show ((List.range xs.length).map fun _ => true).all id = true by simp]
        exact q H1 fun b o e => s2 b o (s1 b o e)
  -- the first test: due is neither a list nor a tuple
  have lt : ∀ tn, tyN d = tn → kitL tn ["list", "tuple"] = some false → ∀ (R : TS), (∀ H1, Same H H1 → R { nx := fun _ H' => Q .non H', rt := Q } (start n_law_same [u, v]) H1) → ∀ t1 : TS,
      tSeq (tIfS (tTru K (tCB (cIsi K) (tCons (tVar 1) (tCons (tTup (tCons (tC (.ty "list")) (tCons (tC (.ty "tuple")) (tNil)))) (tNil))))) t1 tNext) R { nx := fun _ H' => Q .non H', rt := Q } (start n_law_same [u, v]) H := by
    intro tn e k1 R hR t1
    walk_at "go"
    refine ⟨by show 2 ≤ sizeLine; decide, fun p hp => ?_⟩
    have s1 := same_new (o := .tup [.ty "list", .ty "tuple"]) hp
    walk_at "go"
    refine isi_qt ["list", "tuple"] (dq_same s1 hv) e upd_same k1 ?_
    walk_at "go"
    refine w_iteF rfl ?_
    walk_at "go"
    exact hR _ s1
  cases hu with
  | non =>
    unfold t_law_same
    refine lt "NoneType" (by cases hv; rfl) (by decide +kernel) _ (fun H1 s1 => ?_) _
    cases hv
    walk_at "go"
    refine isi_q (tn := "NoneType") (b := false) .non rfl (by decide +kernel) ?_
    walk_at "go"
    refine w_iteF rfl ?_
    walk_at "go"
    refine isi_q (tn := "NoneType") (b := false) .non rfl (by decide +kernel) ?_
    walk_at "go"
    refine w_iteF rfl ?_
    walk_at "go"
    refine w_iteT rfl ?_
    walk_at "go"
    exact q _ s1
  | bl b =>
    unfold t_law_same
    refine lt "bool" (by cases hv; rfl) (by decide +kernel) _ (fun H1 s1 => ?_) _
    cases hv
    walk_at "go"
    refine isi_q (tn := "bool") (b := false) (.bl b) rfl (by decide +kernel) ?_
    walk_at "go"
    refine w_iteF rfl ?_
    walk_at "go"
    refine isi_q (tn := "bool") (b := true) (.bl b) rfl (by decide +kernel) ?_
    walk_at "go"
    refine w_iteT rfl ?_
    walk_at "go"
    refine isi_q (tn := "bool") (b := true) (.bl b) rfl (by decide +kernel) ?_
    walk_at "go"
    refine w_iteT rfl ?_
    walk_at "go"
    refine isi_q (tn := "bool") (b := true) (.bl b) rfl (by decide +kernel) ?_
    walk_at "go"
    refine isi_q (tn := "bool") (b := true) (.bl b) rfl (by decide +kernel) ?_
    walk_at "go"
    refine w_iteT rfl ?_
    walk_at "go"
    rw [decide_eq_true rfl]
    exact q _ s1
  | int i =>
    unfold t_law_same
    refine lt "int" (by cases hv; rfl) (by decide +kernel) _ (fun H1 s1 => ?_) _
    cases hv
    walk_at "go"
    refine isi_q (tn := "int") (b := false) (.int i) rfl (by decide +kernel) ?_
    walk_at "go"
    refine w_iteF rfl ?_
    walk_at "go"
    refine isi_q (tn := "int") (b := true) (.int i) rfl (by decide +kernel) ?_
    walk_at "go"
    refine w_iteT rfl ?_
    walk_at "go"
    refine isi_q (tn := "int") (b := true) (.int i) rfl (by decide +kernel) ?_
    walk_at "go"
    refine w_iteT rfl ?_
    walk_at "go"
    refine isi_q (tn := "int") (b := false) (.int i) rfl (by decide +kernel) ?_
    walk_at "go"
    refine isi_q (tn := "int") (b := false) (.int i) rfl (by decide +kernel) ?_
    walk_at "go"
    refine w_iteT rfl ?_
    walk_at "go"
    rw [decide_eq_true rfl]
    exact q _ s1
  | str x =>
    unfold t_law_same
    refine lt "str" (by cases hv; rfl) (by decide +kernel) _ (fun H1 s1 => ?_) _
    cases hv
    walk_at "go"
    refine isi_q (tn := "str") (b := false) (.str x) rfl (by decide +kernel) ?_
    walk_at "go"
    refine w_iteF rfl ?_
    walk_at "go"
    refine isi_q (tn := "str") (b := false) (.str x) rfl (by decide +kernel) ?_
    walk_at "go"
    refine w_iteF rfl ?_
    walk_at "go"
    refine w_iteF rfl ?_
    walk_at "go"
    refine isi_q (tn := "str") (b := true) (.str x) rfl (by decide +kernel) ?_
    walk_at "go"
    refine w_iteT rfl ?_
    walk_at "go"
    refine isi_q (tn := "str") (b := true) (.str x) rfl (by decide +kernel) ?_
    walk_at "go"
    refine w_iteT rfl ?_
    walk_at "go"
    rw [decide_eq_true rfl]
    exact q _ s1
  | @lst a xs ds hs hl ha =>
    obtain ⟨b, ys, rfl, hs2, hl2, hb⟩ : ∃ b ys, v = .ref b ∧ SqL K H b ys ∧ ys.length ≤ 1000000 ∧ DqAll K H ys ds := by
      cases hv with
      | lst s l h => exact ⟨_, _, rfl, s, l, h⟩
    have hu : Dq K H (.ref a) (.list ds) := .lst hs hl ha
    have hv : Dq K H (.ref b) (.list ds) := .lst hs2 hl2 hb
    have ell : xs.length = ys.length := ha.length.trans hb.length.symm
    unfold t_law_same
    walk_at "go"
    refine ⟨by show 2 ≤ sizeLine; decide, fun p hp => ?_⟩
    have s1 := same_new (o := .tup [.ty "list", .ty "tuple"]) hp
    walk_at "go"
    refine isi_qt ["list", "tuple"] (tn := "list") (b := true) (dq_same s1 hv) rfl upd_same (by decide +kernel) ?_
    walk_at "go"
    refine w_iteT rfl ?_
    walk_at "go"
    refine isi_q (tn := "list") (b := true) (dq_same s1 hu) rfl (by decide +kernel) ?_
    walk_at "go"
    refine isi_q (tn := "list") (b := true) (dq_same s1 hv) rfl (by decide +kernel) ?_
    walk_at "go"
    refine w_iteF rfl ?_
    walk_at "go"
    refine isi_q (tn := "list") (b := false) (dq_same s1 hu) rfl (by decide +kernel) ?_
    walk_at "go"
    refine isi_q (tn := "list") (b := false) (dq_same s1 hv) rfl (by decide +kernel) ?_
    walk_at "go"
    refine w_iteF rfl ?_
    walk_at "go"
    refine w_iteT (decide_eq_true (by rw [ell])) ?_
    walk_at "go"
    refine ⟨a, b, xs, ys, rfl, .inl ⟨sql_same s1 hs, sql_same s1 hs2, ?_⟩⟩
    exact items ds xs ys hr ha hb hl _ _ s1 ⟨_, walk_zip (by omega), fun H e => ⟨sql_same e (sql_same s1 hs), sql_same e (sql_same s1 hs2)⟩⟩
  | @tup a xs ds hs hl ha =>
    obtain ⟨b, ys, rfl, hs2, hl2, hb⟩ : ∃ b ys, v = .ref b ∧ SqT K H b ys ∧ ys.length ≤ 1000000 ∧ DqAll K H ys ds := by
      cases hv with
      | tup s l h => exact ⟨_, _, rfl, s, l, h⟩
    have hu : Dq K H (.ref a) (.tuple ds) := .tup hs hl ha
    have hv : Dq K H (.ref b) (.tuple ds) := .tup hs2 hl2 hb
    have ell : xs.length = ys.length := ha.length.trans hb.length.symm
    unfold t_law_same
    walk_at "go"
    refine ⟨by show 2 ≤ sizeLine; decide, fun p hp => ?_⟩
    have s1 := same_new (o := .tup [.ty "list", .ty "tuple"]) hp
    walk_at "go"
    refine isi_qt ["list", "tuple"] (tn := "tuple") (b := true) (dq_same s1 hv) rfl upd_same (by decide +kernel) ?_
    walk_at "go"
    refine w_iteT rfl ?_
    walk_at "go"
    refine isi_q (tn := "tuple") (b := false) (dq_same s1 hu) rfl (by decide +kernel) ?_
    walk_at "go"
    refine isi_q (tn := "tuple") (b := false) (dq_same s1 hv) rfl (by decide +kernel) ?_
    walk_at "go"
    refine w_iteF rfl ?_
    walk_at "go"
    refine isi_q (tn := "tuple") (b := true) (dq_same s1 hu) rfl (by decide +kernel) ?_
    walk_at "go"
    refine isi_q (tn := "tuple") (b := true) (dq_same s1 hv) rfl (by decide +kernel) ?_
    walk_at "go"
    refine w_iteF rfl ?_
    walk_at "go"
    refine w_iteT (decide_eq_true (by rw [ell])) ?_
    walk_at "go"
    refine ⟨a, b, xs, ys, rfl, .inr ⟨sqt_same s1 hs, sqt_same s1 hs2, ?_⟩⟩
    exact items ds xs ys hr ha hb hl _ _ s1 ⟨_, walk_zipT (by omega), fun H e => ⟨sqt_same e (sqt_same s1 hs), sqt_same e (sqt_same s1 hs2)⟩⟩
  | @dct a kvs ds hs hl nd ha =>
    obtain ⟨b, ks, rfl, hs2, hl2, nd2, hb⟩ : ∃ b ks, v = .ref b ∧ H b = some (.dK ks) ∧ ks.length ≤ 1000000 ∧ (ks.map (·.1)).Nodup ∧ DqKv K H ks ds := by
      cases hv with
      | dct s l n h => exact ⟨_, _, rfl, s, l, n, h⟩
    have hu : Dq K H (.ref a) (.dict ds) := .dct hs hl nd ha
    have hv : Dq K H (.ref b) (.dict ds) := .dct hs2 hl2 nd2 hb
    unfold t_law_same
    refine lt "dict" rfl (by decide +kernel) _ (fun H1 s1 => ?_) _
    walk_at "go"
    refine isi_q (tn := "dict") (b := true) (dq_same s1 hv) rfl (by decide +kernel) ?_
    walk_at "go"
    refine w_iteT rfl ?_
    walk_at "go"
    refine isi_q (tn := "dict") (b := true) (dq_same s1 hu) rfl (by decide +kernel) ?_
    walk_at "go"
    refine w_iteT rfl ?_
    walk_at "go"
    refine ⟨.ref a, rfl, a, kvs, rfl, s1 _ _ hs, fun H2 p ts s2 hp hts hpt h2 tup => ?_⟩
    walk_at "go"
    have s12 : Same H H2 := fun b o e => s2 b o (s1 b o e)
    refine ⟨.ref b, rfl, b, ks, rfl, s12 _ _ hs2, fun H3 p3 ts3 s3 hp3 hts3 hpt3 h3 tup3 => ?_⟩
    walk_at "go"
    have s13 : Same H H3 := fun b o e => s3 b o (s12 b o e)
    have pair : ∀ {ts : List Addr} {kvs : List (Key × V)} {ds : List (PyData × PyData)}, Paired (fun (t : Addr) (q : Key × V) => H3 t = some (.tup [kV q.1, q.2])) ts kvs → DqKv K H3 kvs ds → DqAll K H3 (ts.map V.ref) (ds.map fun q => .tuple [q.1, q.2]) := by
      intro ts kvs ds h
      induction h generalizing ds with
      | nil =>
        intro g
        cases g
        exact .nil
      | @cons t q ts kvs e r ih =>
        intro g
        cases g with
        | @cons k v _ d ds hd n g =>
          have hk : Dq K H3 (kV k) (kP k) := by
            cases k with
            | inl i => exact .int i
            | inr x => exact .str x
          exact .cons (.tup (sqt_of e) (by show 2 ≤ 1000000; decide) (.cons hk (.cons hd .nil))) (ih g)
    have rkp : ∀ ds : List (PyData × PyData), (∃ kvs, DqKv K H kvs ds) → rkAll (ds.map fun q => PyData.tuple [q.1, q.2]) ≤ rkKv ds + 1 := by
      intro ds
      induction ds with
      | nil => intro _; exact Nat.zero_le _
      | cons q r ih =>
        rintro ⟨kvs, g⟩
        cases g with
        | @cons k v kvs d _ hd n g =>
          have h2 := ih ⟨_, g⟩
          have h3 : rk (kP k) = 0 := by cases k <;> rfl
          show max (max (rk (kP k)) (max (rk d) 0) + 1) _ ≤ max (rk d) (rkKv r) + 1
          omega
    have e1 := pair (Paired.mapP tup fun t q h => s3 _ _ h) (dqk_same s13 ha)
    have e2 := pair tup3 (dqk_same s13 hb)
    have hr3 : rkKv ds + 3 ≤ n := hr
    have hr4 := rkp ds ⟨_, ha⟩
    obtain ⟨m, rfl⟩ : ∃ m, n = m + 1 := ⟨n - 1, by omega⟩
    have l1 : ts.length = kvs.length := Paired.length tup
    have l2 : ts3.length = ks.length := Paired.length tup3
    refine ⟨.ref p, .ref p3, .list (ds.map fun q => .tuple [q.1, q.2]), rfl, .lst (sql_of (s3 _ _ h2)) (by rw [List.length_map]; omega) e1, .lst (sql_of h3) (by rw [List.length_map]; omega) e2, ?_, fun H4 s4 => q _ fun b o e => s4 b o (s13 b o e)⟩
    show rkAll _ + 1 ≤ m
    omega
end Pt
namespace Pt
/-! ### texts out of signs, and what is no row of signs -/
def sgS (c : Nat) : Str := ⟨#[c]⟩
theorem join_sg (l : List Nat) : Txt.join "" (l.map sgS) = mkS l := by
  have e := join_nil_signs (mkS l)
  rw [show Txt.join _ _ = Str.join _ _ from PySem.StrLaws.glued_eq_join _ _, show ("" : Str) = ⟨#[]⟩ from rfl]
  rw [← e]
  have e2 : signs (mkS l) = l.map sgS := by
    show (cs (mkS l)).map _ = _
    rw [cs_mk]
    rfl
  rw [e2]
theorem join_q {K : PySem.W.Frag} {H : Hp} {Q : VK} {q : Addr} {l : List Nat} (h : H q = some (.lst (l.map sg))) (hl : l.length ≤ 1000000) (k : Q (.str (mkS l)) H) : mJoin K (.str "") [.ref q] H Q := by
  refine ⟨"", q, l.map sgS, rfl, rfl, .inl (sql_of ?_), ?_, ?_⟩
  · rw [h, List.map_map]
    rfl
  · have e : ((l.map sgS).map (·.length)).sum = l.length := by
      induction l with
      | nil => rfl
      | cons c r ih =>
        simp only [List.map_cons, List.sum_cons, List.length_cons] at ih ⊢
        have e1 : (sgS c).length = 1 := rfl
        clear h k hl
        have : ∀ r : List Nat, ((r.map sgS).map (·.length)).sum = r.length := by
          intro r
          induction r with
          | nil => rfl
          | cons c r ih => simp only [List.map_cons, List.sum_cons, List.length_cons, ih]; show 1 + r.length = _; omega
        rw [this, e1]
        omega
    rw [e, show ("" : Str).length = 0 from rfl]
    omega
  · rw [join_sg]
    exact k
def unV : V → Nat
  | .str z => z.cps.toList.headD 0
  | _ => 0
theorem unV_sg (c : Nat) : unV (sg c) = c := rfl
theorem unsg {l0 : List Nat} {ys : List V} (h : ys.Perm (l0.map sg)) : ∃ l : List Nat, l.Perm l0 ∧ ys = l.map sg := by
  refine ⟨ys.map unV, ?_, ?_⟩
  · have := h.map unV
    rw [List.map_map] at this
    have e : l0.map (unV ∘ sg) = l0 := by
      conv => rhs; rw [← List.map_id l0]
      exact List.map_congr_left fun c _ => unV_sg c
    rwa [e] at this
  · rw [List.map_map]
    conv => lhs; rw [← List.map_id ys]
    refine List.map_congr_left fun y hy => ?_
    obtain ⟨c, _, e⟩ := List.mem_map.mp (h.mem_iff.mp hy)
    show y = sg (unV y)
    rw [← e, unV_sg]
theorem cutV_take {xs : List V} {i : Nat} : cutV xs none (some (i : Int)) = xs.take i := by
  unfold cutV
  rw [HT.sIx_none, HT.sIx_nat, List.drop_zero, Nat.sub_zero, List.take_eq_take_iff]
  omega
theorem size_cs {z : Str} : z.cps.size = (cs z).length := by simp [cs]
theorem signs_of {l : List Nat} (h1 : 1 ≤ l.length) (h2 : l.length ≤ 6) (hs : ∀ c ∈ l, isSgn c = true) (hn : l.Nodup) : isSigns (mkS l) = true := by
  unfold isSigns
  rw [size_cs, show (mkS l).cps.toList = l from cs_mk l, cs_mk, decide_eq_true h1, decide_eq_true h2, decide_eq_true hn, List.all_eq_true.mpr hs]
  rfl
theorem signs_len {z : Str} (h : (cs z).length = 0 ∨ 6 < (cs z).length) : isSigns z = false := by
  unfold isSigns
  rw [size_cs]
  rcases h with h | h
  · rw [decide_eq_false (show ¬ 1 ≤ (cs z).length by omega)]
    rfl
  · rw [decide_eq_false (show ¬ (cs z).length ≤ 6 by omega), Bool.and_false]
    rfl
theorem signs_bad {z : Str} {c : Nat} (h : c ∈ cs z) (hb : isSgn c = false) : isSigns z = false := by
  unfold isSigns
  have e : (cs z).all isSgn = false := by
    rw [Bool.eq_false_iff]
    intro q
    rw [List.all_eq_true.mp q c h] at hb
    cases hb
  rw [show z.cps.toList.all isSgn = false from e, Bool.and_false]
  rfl
theorem signs_dup {z : Str} (h : ¬ (cs z).Nodup) : isSigns z = false := by
  unfold isSigns
  rw [show decide (z.cps.toList.Nodup) = false from decide_eq_false h, Bool.and_false]
/-! ### a thing that is no row of signs -/
structure Wrong (K : PySem.W.Frag) (H : Hp) (v : V) : Prop where
  ex : ∃ d, Dq K H v d ∧ rk d ≤ 4 ∧ ((∃ z : Str, v = .str z ∧ z.length ≤ sizeLine ∧ isSigns z = false) ∨ NoStr K H v)
theorem tyx_same {K : PySem.W.Frag} {H H' : Hp} {v : V} {d : PyData} (e : Same H H') (h : Dq K H v d) (n : kitB (tyN d) "str" = some false) : NoStr K H' v := ⟨_, dq_ty (dq_same e h), kit_ty n⟩
theorem Wrong.text {K : PySem.W.Frag} {H : Hp} {z : Str} (h : z.length ≤ sizeLine) (n : isSigns z = false) : Wrong K H (.str z) := ⟨.str z, .str z, Nat.zero_le _, .inl ⟨z, rfl, h, n⟩⟩
structure WrongO (K : PySem.W.Frag) (H : Hp) (v : V) : Prop where
  ex : ∃ d, Dq K H v d ∧ rk d ≤ 4 ∧ kitB (tyN d) "str" = some false
theorem WrongO.same {K : PySem.W.Frag} {H H' : Hp} {v : V} (e : Same H H') (h : WrongO K H v) : WrongO K H' v := let ⟨d, h, r⟩ := h.ex; ⟨d, dq_same e h, r⟩
theorem WrongO.wr {K : PySem.W.Frag} {H : Hp} {v : V} (h : WrongO K H v) : Wrong K H v := let ⟨d, h, r, n⟩ := h.ex; ⟨d, h, r, .inr ⟨_, dq_ty h, kit_ty n⟩⟩
theorem dqa_sg {K : PySem.W.Frag} {H : Hp} : ∀ l : List Nat, DqAll K H (l.map sg) (l.map fun c => PyData.str (sgS c))
  | [] => .nil
  | c :: r => .cons (.str _) (dqa_sg r)
theorem rk_sg : ∀ l : List Nat, rkAll (l.map fun c => PyData.str (sgS c)) = 0
  | [] => rfl
  | c :: r => by
    show max (rk (.str (sgS c))) (rkAll (r.map _)) = 0
    rw [rk_sg r]
    rfl
end Pt
namespace Pt
def sp_law (K : PySem.W.Frag) : Sp := fun vs H Q _ => ∃ (a : Addr) (ns : List Int), vs = [.ref a] ∧ SqL K H a (ns.map V.int) ∧ ns.length ≤ 63 ∧ ∀ H', Q (.bl true) H'
abbrev n_law : List Str := ["script", "stream", "pool", "turn", "lot", "at", "sign", "wrong", "thing", "kept"]
def t_law_p1 (K : PySem.W.Frag) : TS :=
  tRet (tAndT K (tOp (rEqU K) (tLc (iSeq K (tVar 2)) (gName 6) (tTest (tOp rIsNotU (tOwn (sp_is_signs K) (tCons (tVar 6) (tNil))) (tC (.bl true)))) (tVar 6) [6]) (tLst (tNil))) (tAndT K (tOp rIsU (tOwn (sp_is_signs K) (tCons (tC (.str "!~\\")) (tNil))) (tC (.bl true))) (tOp rIsU (tOwn (sp_is_signs K) (tCons (tC (.str "abcdefg")) (tNil))) (tC (.bl false)))))
def t_law (K : PySem.W.Frag) : TS :=
  tSeq (tPar 1 2 (tCons (tOwn (sp_law_start K) (tCons (tVar 0) (tNil))) (tCons (tOwn (sp_law_bpool K) tNil) (tNil)))) (tSeq (tFor (iRng1 (tCons (tC (.int 14)) (tNil))) (gName 3) (tSeq (tAsg (tM1 (mJoin K) (tC (.str "")) (tSl (rSlU K) (tOwn (sp_law_mixed K) (tCons (tVar 1) (tCons (tVar 2) (tNil)))) (tNoPart) (tPart (tOp (rPlus K) (tC (.int 1)) (tOwn (sp_law_below K) (tCons (tVar 1) (tCons (tC (.int 6)) (tNil)))))))) (gName 4)) (tSeq (tIfS (tOr (tTest (tOp rIsNotU (tOwn (sp_is_signs K) (tCons (tVar 4) (tNil))) (tC (.bl true)))) (tTest (tOp rIsNotU (tOwn (sp_is_signs K) (tCons (tVar 4) (tNil))) (tC (.bl true))))) (tRet (tC (.bl false))) (tNext)) (tSeq (tPar 5 6 (tCons (tOwn (sp_law_below K) (tCons (tVar 1) (tCons (tCB (cLen K) (tCons (tVar 4) (tNil))) (tNil)))) (tCons (tOwn (sp_law_pick K) (tCons (tVar 1) (tCons (tLst (tCons (tC (.str "\"")) (tCons (tC (.str " ")) (tCons (tC (.str "\n")) (tCons (tC (.str "\t")) (tNil)))))) (tNil)))) (tNil)))) (tSeq (tAsg (tLst (tCons (tOp (rPlus K) (tOp (rPlus K) (tSl (rSlU K) (tVar 4) (tNoPart) (tPart (tVar 5))) (tVar 6)) (tSl (rSlU K) (tVar 4) (tPart (tOp (rPlus K) (tVar 5) (tC (.int 1)))) (tNoPart))) (tCons (tOp (rPlus K) (tVar 4) (tOp (rIxU K) (tVar 4) (tVar 5))) (tCons (tM1 (mJoin K) (tC (.str "")) (tSl (rSlU K) (tVar 2) (tNoPart) (tPart (tOp (rPlus K) (tC (.int 7)) (tOwn (sp_law_below K) (tCons (tVar 1) (tCons (tC (.int 30)) (tNil)))))))) (tCons (tC (.str "")) (tNil)))))) (gName 7)) (tSeq (tAsg (tOp (rPlus K) (tVar 7) (tLst (tCons (tLst (tCons (tVar 4) (tNil))) (tCons (tTup (tCons (tVar 4) (tNil))) (tCons (tCB (cList K) (tCons (tVar 4) (tNil))) (tCons (tC .non) (tCons (tC (.int 5)) (tCons (tC (.bl true)) (tCons (tDisp ((tVar 4, tC (.int 1)) :: [])) (tCons (tCB (cLen K) (tCons (tVar 4) (tNil))) (tNil))))))))))) (gName 7)) (tFor (iSeq K (tVar 7)) (gName 8) (tSeq (tAsg (tOwn (sp_law_copied K 5) (tCons (tVar 8) (tNil))) (gName 9)) (tIfS (tOr (tTest (tOp rIsNotU (tOwn (sp_is_signs K) (tCons (tVar 8) (tNil))) (tC (.bl false)))) (tNot (tTru K (tOwn (sp_law_same K 5) (tCons (tVar 8) (tCons (tVar 9) (tNil))))))) (tRet (tC (.bl false))) (tNext)))))))))) (t_law_p1 K))
theorem sgs1 {c : Nat} (h : isSgn c = true) : isSigns ⟨#[c]⟩ = true := signs_of (l := [c]) (Nat.le_refl 1) (show 1 ≤ 6 by decide) (by simpa using h) (by simp)
theorem given_none (n : Nat) (v : Nat → V) : given n (fun _ => false) v = [] := by
  have h := (given_empty (n := n) (f := fun _ => false) (v := v)).mpr fun _ _ => rfl
  exact List.isEmpty_iff.mp h
theorem pure_law_p1 {K : PySem.W.Frag} {p : Addr} {H : Hp} {Q : VK} {o0 o1 o3 o4 o5 o6 o7 o8 o9 : Option V} (hp : H p = some (.lst (poolC.map sg))) (q : ∀ H', Q (.bl true) H') :
    t_law_p1 K { nx := fun _ H' => Q .non H', rt := Q } [o0, o1, some (.ref p), o3, o4, o5, o6, o7, o8, o9] H := by
  unfold t_law_p1
  walk_at "go"
  refine w_iseqL ?_
  walk_at "go"
  refine e_ilist (sql_of hp) ?_
  refine lc_im walk_list (fun _ => false) (fun _ => .non) (by decide +kernel) (fun i H' _ e => sql_of (e _ _ hp)) ?_ ?_
  · rintro i x H1 H2 KY KN hi s1 ⟨rfl, hx⟩ kY kN
    obtain ⟨c, hc, rfl⟩ : ∃ c ∈ poolC, x = sg c := by
      obtain ⟨c, h1, h2⟩ := List.mem_map.mp (List.mem_of_getElem? hx)
      exact ⟨c, h1, h2.symm⟩
    walk_at "go"
    refine ⟨rfl, ?_⟩
    walk_at "go"
    refine .inl ⟨⟨#[c]⟩, rfl, by show 1 ≤ sizeLine; decide, fun H3 s3 => ?_⟩
    rw [sgs1 (pool_sg c hc)]
    walk_at "go"
    exact w_iteF rfl (kN rfl _ s3)
  · intro D H1 hD s1 h5
    rw [given_none] at h5
    walk_at "go"
    refine ⟨Nat.zero_le _, fun l hl => ?_⟩
    have s2 := same_new (o := .lst []) hl
    refine eq_D (.lst (sql_of (s2 _ _ h5)) .nil) (.lst (sql_of upd_same) .nil) ((sh_list (n := 0) fun d hd => by cases hd).ok (by decide)) ((sh_list (n := 0) fun d hd => by cases hd).ok (by decide)) ?_
    rw [show PyData.eqv (.list []) (.list []) = true from rfl]
    walk_at "go"
    refine w_iteT rfl ?_
    walk_at "go"
    refine .inl ⟨_, rfl, by decide +kernel, fun H3 s3 => ?_⟩
    rw [show isSigns "!~\\" = true by decide +kernel]
    walk_at "go"
    refine w_iteT rfl ?_
    walk_at "go"
    refine .inl ⟨_, rfl, by decide +kernel, fun H4 s4 => ?_⟩
    rw [show isSigns "abcdefg" = false by decide +kernel]
    walk_at "go"
    exact q _

def Bad (K : PySem.W.Frag) (H : Hp) (v : V) : Prop := (∃ z : Str, v = .str z ∧ z.length ≤ sizeLine ∧ isSigns z = false) ∨ WrongO K H v
theorem Bad.text {K : PySem.W.Frag} {H : Hp} {z : Str} (h : z.length ≤ sizeLine) (n : isSigns z = false) : Bad K H (.str z) := .inl ⟨z, rfl, h, n⟩
theorem Bad.same {K : PySem.W.Frag} {H H' : Hp} {v : V} (e : Same H H') (h : Bad K H v) : Bad K H' v := h.imp id (WrongO.same e)
theorem Bad.oth {K : PySem.W.Frag} {H H' : Hp} {v : V} {d : PyData} (tn : String) (e : Same H H') (h : Dq K H v d) (r : rk d ≤ 4) (et : tyN d = tn) (n : kitB tn "str" = some false) : Bad K H' v := .inr ⟨d, dq_same e h, r, by rw [et]; exact n⟩
theorem Bad.dq {K : PySem.W.Frag} {H : Hp} {v : V} (h : Bad K H v) : ∃ d, Dq K H v d ∧ rk d ≤ 4 := by
  rcases h with ⟨z, rfl, _⟩ | ⟨d, h, r, _⟩
  · exact ⟨.str z, .str z, Nat.zero_le _⟩
  · exact ⟨d, h, r⟩
theorem Bad.no {K : PySem.W.Frag} {H : Hp} {v : V} {Q : VK} {E : XK} (h : Bad K H v) (q : ∀ H', Same H H' → Q (.bl false) H') : sp_is_signs K [v] H Q E := by
  rcases h with ⟨z, rfl, hz, n⟩ | ⟨d, h, r, n⟩
  · exact .inl ⟨z, rfl, hz, fun H' s => n ▸ q H' s⟩
  · exact .inr ⟨v, rfl, ⟨_, dq_ty h, kit_ty n⟩, q⟩
theorem same_new2 {H : Hp} {p : Addr} {o u : HO} (h : H p = none) : Same H (upd (upd H p o) p u) := fun b x e => by
  have ne := ne_of_none e h
  rw [upd_ne ne, upd_ne ne]
  exact e
/-- the state ahead of a turn -/
def T1 (H : Hp) (a s c p : Addr) (i : Nat) (σ : L2.St) (H' : Hp) : Prop := ∃ o3 o4 o5 o6 o7 o8 o9 : Option V, σ = [some (.ref a), some (.ref s), some (.ref p), o3, o4, o5, o6, o7, o8, o9] ∧ ∃ n, n ≤ 100 * i ∧ Strm s c n H' ∧ H' p = some (.lst (poolC.map sg))
theorem bad_sg : ∀ c ∈ [34, 32, 10, 9], isSgn c = false := by decide
theorem pure_law {K : PySem.W.Frag} (vs : List V) (H : Hp) (Q : VK) (E : XK) (h : sp_law K vs H Q E) : t_law K { nx := fun _ H' => Q .non H', rt := Q } (start n_law vs) H := by
  obtain ⟨a, ns, rfl, hs, hn, q⟩ := h
  unfold t_law
  walk_at "go"
  refine ⟨a, ns, rfl, hs, fun s c H1 s1 hs1 hc1 st => ?_⟩
  walk_at "go"
  refine ⟨rfl, fun p H2 s2 hp hp2 => ?_⟩
  walk_at "go"
  have st2 := st.same s2
  have nps : p ≠ s := fun e => by
    obtain ⟨_, _, _, h, _⟩ := st
    rw [← e, hp] at h; cases h
  have npc : p ≠ c := fun e => by
    obtain ⟨_, _, _, _, h, _⟩ := st
    rw [← e, hp] at h; cases h
  refine e_rng (by decide) (by decide) ?_
  refine for_it walk_range (T1 H a s c p) ⟨none, none, none, none, none, none, none, rfl, 0, Nat.zero_le _, st2, hp2⟩ (fun _ _ _ _ _ => True.intro) ?_ ?_
  · rintro i x σ H3 H4 hi ⟨o3, o4, o5, o6, o7, o8, o9, rfl, n, hn2, st3, hp3⟩ ⟨rfl, rfl⟩
    have hi14 : i < 14 := hi
    clear hi
    walk_at "go"
    have pin : ∀ {H' : Hp}, H' p = some (.lst (poolC.map sg)) → SqL K (hid [s, c] H') p (poolC.map sg) := fun {H'} h => sql_of (by rw [hid_at (by simp [nps, npc])]; exact h)
    have pl : (poolC.map sg).length = 91 := by rw [List.length_map, pool_len]
    refine ⟨s, c, n, p, _, rfl, st3, ?_, .inl (pin hp3), ?_, fun ys u H5 pm f5 st5 hu hu5 => ?_⟩
    · rw [pl]; omega
    · rw [pl]; decide
    rw [pl] at st5
    obtain ⟨l, lp, rfl⟩ := unsg pm
    clear pm
    have nus : u ≠ s := fun e => by
      obtain ⟨_, _, _, h, _⟩ := st3
      rw [← e, hu] at h; cases h
    have nuc : u ≠ c := fun e => by
      obtain ⟨_, _, _, _, h, _⟩ := st3
      rw [← e, hu] at h; cases h
    have hp5 := f5.at_ _ _ (by simp [nps, npc]) hp3
    walk_at "go"
    refine ⟨s, c, _, 6, rfl, st5, by decide, by decide, by omega, fun r H6 hr f6 st6 => ?_⟩
    have hu6 := f6.at_ _ _ (by simp [nus, nuc]) hu5
    have hp6 := f6.at_ _ _ (by simp [nps, npc]) hp5
    walk_at "go"
    refine sl_l (sql_of hu6) fun v hv => ?_
    rw [show (1 : Int) + (r : Nat) = ((1 + r : Nat) : Int) by omega, cutV_take, ← List.map_take]
    have lk : (l.take (1 + r)).length = 1 + r := by
      rw [List.length_take, lp.length_eq, pool_len]
      omega
    have ls : ∀ c ∈ l.take (1 + r), isSgn c = true := fun c hc => pool_sg c (lp.mem_iff.mp (List.mem_of_mem_take hc))
    have ln : (l.take (1 + r)).Nodup := (List.take_sublist _ _).nodup (lp.symm.nodup pool_nd)
    generalize l.take (1 + r) = lot at lk ls ln
    have st7 := st6.same (same_new (o := .lst (lot.map sg)) hv)
    have hp7 := same_new (o := .lst (lot.map sg)) hv _ _ hp6
    refine join_q upd_same (by omega) ?_
    generalize upd H6 v (.lst (lot.map sg)) = H7 at st7 hp7
    clear hu6 hp6 hv st6 f6 hu5 hp5 st5 f5 hu hp3 st3 lp
    walk_at "go"
    have zl : (mkS lot).length ≤ sizeLine := by
      rw [len_mk, lk]
      exact Nat.le_trans (show 1 + r ≤ 7 by omega) (by decide)
    have zy : isSigns (mkS lot) = true := signs_of (by omega) (by omega) ls ln
    refine .inl ⟨mkS lot, rfl, zl, fun H8 s8 => ?_⟩
    rw [zy]
    walk_at "go"
    refine w_iteF rfl ?_
    walk_at "go"
    refine .inl ⟨mkS lot, rfl, zl, fun H9 s9 => ?_⟩
    rw [zy]
    walk_at "go"
    refine w_iteF rfl ?_
    walk_at "go"
    have st9 := (st7.same s8).same s9
    have hp9 := s9 _ _ (s8 _ _ hp7)
    clear st7 hp7 s8 s9 H7 H8
    refine len_s zl ?_
    walk_at "go"
    rw [len_mk, lk]
    refine ⟨s, c, _, _, rfl, st9, by omega, by omega, by omega, fun at_ H10 hat f10 st10 => ?_⟩
    have hat2 : at_ < lot.length := by omega
    have hp10 := f10.at_ _ _ (by simp [nps, npc]) hp9
    walk_at "go"
    refine ⟨by show 4 ≤ sizeLine; decide, fun b hb => ?_⟩
    have st11 := st10.same (same_new (o := .lst [.str "\"", .str " ", .str "\n", .str "\t"]) hb)
    have hp11 := same_new (o := .lst [.str "\"", .str " ", .str "\n", .str "\t"]) hb _ _ hp10
    have nbs : b ≠ s := fun e => by
      obtain ⟨_, _, _, h, _⟩ := st10
      rw [← e, hb] at h; cases h
    have nbc : b ≠ c := fun e => by
      obtain ⟨_, _, _, _, h, _⟩ := st10
      rw [← e, hb] at h; cases h
    walk_at "go"
    refine ⟨s, c, _, b, _, rfl, st11, by omega, .inl (sql_of (by rw [hid_at (by simp [nbs, nbc])]; exact upd_same)), by decide, by decide, fun r2 y H12 hy f12 st12 => ?_⟩
    obtain ⟨bad, hbad, rfl⟩ : ∃ bad, isSgn bad = false ∧ y = sg bad := by
      have e : [V.str "\"", .str " ", .str "\n", .str "\t"] = [34, 32, 10, 9].map sg := rfl
      rw [e] at hy
      obtain ⟨c, h1, h2⟩ := List.mem_map.mp (List.mem_of_getElem? hy)
      exact ⟨c, bad_sg c h1, h2.symm⟩
    have hp12 := f12.at_ _ _ (by simp [nps, npc]) hp11
    clear hy hp11 hp10 hp9 st11 st10 st9 f10 f12 hb nbs nbc hat
    walk_at "go"
    refine sl_s zl ?_
    walk_at "go"
    have e1 : (cs (cutS (mkS lot) none (some (at_ : Int)))).length = at_ := by
      rw [cutS_take, cs_mk, List.length_take]
      omega
    have big : 100 ≤ sizeLine := by decide
    refine plus_s (by rw [len_cs, e1]; show at_ + 1 ≤ _; omega) ?_
    walk_at "go"
    refine sl_s zl ?_
    have e2 : (cs (cutS (mkS lot) (some ((at_ : Int) + 1)) none)).length ≤ 6 := by
      rw [show (at_ : Int) + 1 = ((at_ + 1 : Nat) : Int) from rfl, cutS_drop, cs_mk, List.length_drop]
      omega
    have e3 : (cs (cutS (mkS lot) none (some (at_ : Int)) ++ ⟨#[bad]⟩)).length = at_ + 1 := by
      rw [cs_app, List.length_append, e1]
      rfl
    refine plus_s (by rw [len_cs, len_cs, e3]; omega) ?_
    have z1 : Bad K (fun _ => none) (.str (cutS (mkS lot) none (some (at_ : Int)) ++ ⟨#[bad]⟩ ++ cutS (mkS lot) (some ((at_ : Int) + 1)) none)) := by
      refine .text ?_ (signs_bad (c := bad) ?_ hbad)
      · rw [len_cs, cs_app, List.length_append, e3]
        omega
      · rw [cs_app, cs_app]
        simp
    generalize cutS (mkS lot) none (some (at_ : Int)) ++ ⟨#[bad]⟩ ++ cutS (mkS lot) (some ((at_ : Int) + 1)) none = w1 at z1
    clear e1 e2 e3
    walk_at "go"
    have hc : (cs (mkS lot))[at_]? = some lot[at_] := by
      rw [cs_mk]
      exact List.getElem?_eq_getElem hat2
    refine ix_s zl (atI_nat hc) ?_
    refine plus_s (by rw [len_mk]; show lot.length + 1 ≤ _; omega) ?_
    have z2 : Bad K (fun _ => none) (.str (mkS lot ++ ⟨#[lot[at_]]⟩)) := by
      refine .text ?_ (signs_dup ?_)
      · rw [len_cs, cs_app, List.length_append, cs_mk]
        show lot.length + 1 ≤ _
        omega
      · rw [cs_app, cs_mk]
        intro nd
        exact (List.nodup_append.mp nd).2.2 _ (List.getElem_mem hat2) lot[at_] (by simp) rfl
    generalize mkS lot ++ ⟨#[lot[at_]]⟩ = w2 at z2
    clear hc
    walk_at "go"
    refine ⟨s, c, _, 30, rfl, st12, by decide, by decide, by omega, fun r3 H13 hr3 f13 st13 => ?_⟩
    have hp13 := f13.at_ _ _ (by simp [nps, npc]) hp12
    walk_at "go"
    refine sl_l (sql_of hp13) fun v2 hv2 => ?_
    rw [show (7 : Int) + (r3 : Nat) = ((7 + r3 : Nat) : Int) by omega, cutV_take, ← List.map_take]
    have st14 := st13.same (same_new (o := .lst ((poolC.take (7 + r3)).map sg)) hv2)
    have hp14 := same_new (o := .lst ((poolC.take (7 + r3)).map sg)) hv2 _ _ hp13
    have l3 : (poolC.take (7 + r3)).length = 7 + r3 := by
      rw [List.length_take, pool_len]
      omega
    refine join_q upd_same (by omega) ?_
    generalize upd H13 v2 (.lst ((poolC.take (7 + r3)).map sg)) = H14 at st14 hp14
    have z3 : Bad K (fun _ => none) (.str (mkS (poolC.take (7 + r3)))) := by
      refine .text (by rw [len_mk]; omega) (signs_len (.inr ?_))
      rw [cs_mk, l3]
      omega
    generalize mkS (poolC.take (7 + r3)) = w3 at z3
    clear hp12 hp13 hv2 st13 st12 f13 l3
    walk_at "go"
    refine ⟨by show 4 ≤ sizeLine; decide, fun e1 he1 => ?_⟩
    have z4 : Bad K (fun _ => none) (.str "") := .text (Nat.zero_le _) (signs_len (.inl rfl))
    have st15 := st14.same (same_new (o := .lst [.str w1, .str w2, .str w3, .str ""]) he1)
    have hp15 := same_new (o := .lst [.str w1, .str w2, .str w3, .str ""]) he1 _ _ hp14
    have hl15 : upd H14 e1 (.lst [.str w1, .str w2, .str w3, .str ""]) e1 = some (.lst [.str w1, .str w2, .str w3, .str ""]) := upd_same
    generalize upd H14 e1 (.lst [.str w1, .str w2, .str w3, .str ""]) = H15 at st15 hp15 hl15
    clear st14 hp14 he1
    walk_at "go"
    refine ⟨by show 1 ≤ sizeLine; decide, fun b1 hb1 => ?_⟩
    walk_at "go"
    refine ⟨by show 1 ≤ sizeLine; decide, fun b2 hb2 => ?_⟩
    walk_at "go"
    refine .inr (.inr (.inr ⟨_, rfl, zl, fun b3 hb3 => ?_⟩))
    walk_at "go"
    refine fun b4 hb4 => ⟨_, rfl, ?_⟩
    refine ⟨upd_same, [(.inr (mkS lot), .int 1)], rfl, by show 1 ≤ 15; decide, ?_⟩
    have t1 := same_new (o := .lst [V.str (mkS lot)]) hb1
    have t2 := same_new (o := .tup [V.str (mkS lot)]) hb2
    have t3 := same_new (o := .lst ((cs (mkS lot)).map sg)) hb3
    have t4 := same_new2 (o := .dK []) (u := .dK (mergeK [] [(.inr (mkS lot), V.int 1)])) hb4
    have g1 : upd H15 b1 (.lst [V.str (mkS lot)]) b1 = some (.lst [V.str (mkS lot)]) := upd_same
    generalize upd H15 b1 (.lst [V.str (mkS lot)]) = Ha at t1 t2 t3 t4 g1 hb2 hb3 hb4
    have g2 : upd Ha b2 (.tup [V.str (mkS lot)]) b2 = some (.tup [V.str (mkS lot)]) := upd_same
    generalize upd Ha b2 (.tup [V.str (mkS lot)]) = Hb at t2 t3 t4 g2 hb3 hb4
    have g3 : upd Hb b3 (.lst ((cs (mkS lot)).map sg)) b3 = some (.lst ((cs (mkS lot)).map sg)) := upd_same
    generalize upd Hb b3 (.lst ((cs (mkS lot)).map sg)) = Hc at t3 t4 g3 hb4
    have g4 : upd (upd Hc b4 (.dK [])) b4 (.dK (mergeK [] [(.inr (mkS lot), V.int 1)])) b4 = some (.dK [(.inr (mkS lot), V.int 1)]) := upd_same
    generalize upd (upd Hc b4 (.dK [])) b4 (.dK (mergeK [] [(.inr (mkS lot), V.int 1)])) = Hd at t4 g4
    clear hb1 hb2 hb3 hb4
    walk_at "go"
    refine len_s zl ?_
    walk_at "go"
    refine ⟨by show 8 ≤ sizeLine; decide, fun b5 hb5 => ?_⟩
    have t5 := same_new (o := .lst [V.ref b1, .ref b2, .ref b3, .non, .int 5, .bl true, .ref b4, .int (mkS lot).length]) hb5
    have s15 : Same H15 Hd := fun x o h => t4 x o (t3 x o (t2 x o (t1 x o h)))
    refine plus_l (t5 _ _ (s15 _ _ hl15)) upd_same (by show 12 ≤ sizeLine; decide) fun b6 hb6 => ?_
    have t6 := same_new (o := .lst ([V.str w1, .str w2, .str w3, .str ""] ++ [V.ref b1, .ref b2, .ref b3, .non, .int 5, .bl true, .ref b4, .int (mkS lot).length])) hb6
    have s16 := fun x o h => t6 x o (t5 x o h)
    have g6 : upd (upd Hd b5 (.lst [V.ref b1, .ref b2, .ref b3, .non, .int 5, .bl true, .ref b4, .int (mkS lot).length])) b6 (.lst ([V.str w1, .str w2, .str w3, .str ""] ++ [V.ref b1, .ref b2, .ref b3, .non, .int 5, .bl true, .ref b4, .int (mkS lot).length])) b6 = some (.lst ([V.str w1, .str w2, .str w3, .str ""] ++ [V.ref b1, .ref b2, .ref b3, .non, .int 5, .bl true, .ref b4, .int (mkS lot).length])) := upd_same
    generalize upd (upd Hd b5 (.lst [V.ref b1, .ref b2, .ref b3, .non, .int 5, .bl true, .ref b4, .int (mkS lot).length])) b6 (.lst ([V.str w1, .str w2, .str w3, .str ""] ++ [V.ref b1, .ref b2, .ref b3, .non, .int 5, .bl true, .ref b4, .int (mkS lot).length])) = H16 at s16 g6
    clear t5 t6 hb5 hb6
    have sd4 : Same Hd H16 := s16
    have sc4 : Same Hc H16 := fun x o h => sd4 x o (t4 x o h)
    have sb4 : Same Hb H16 := fun x o h => sc4 x o (t3 x o h)
    have sa4 : Same Ha H16 := fun x o h => sb4 x o (t2 x o h)
    have st16 : Strm s c (n + 91 + 1 + 1 + 1 + 1) H16 := st15.same fun x o h => sa4 x o (t1 x o h)
    have hp16 : H16 p = some (.lst (poolC.map sg)) := sa4 _ _ (t1 _ _ hp15)
    have em : ∀ {H : Hp}, Same (fun _ => none) H := fun {H} a o h => by cases h
    have all : ∀ x ∈ [V.str w1, .str w2, .str w3, .str ""] ++ [V.ref b1, .ref b2, .ref b3, .non, .int 5, .bl true, .ref b4, .int (mkS lot).length], Bad K H16 x := by
      intro x hx
      simp only [List.cons_append, List.nil_append, List.mem_cons, List.not_mem_nil, or_false] at hx
      rcases hx with rfl | rfl | rfl | rfl | rfl | rfl | rfl | rfl | rfl | rfl | rfl | rfl
      · exact z1.same em
      · exact z2.same em
      · exact z3.same em
      · exact z4.same em
      · exact .oth "list" sa4 (.lst (sql_of g1) (by show 1 ≤ 1000000; decide) (.cons (.str _) .nil)) (by show 1 ≤ 4; decide) rfl (by decide +kernel)
      · exact .oth "tuple" sb4 (.tup (sqt_of g2) (by show 1 ≤ 1000000; decide) (.cons (.str _) .nil)) (by show 1 ≤ 4; decide) rfl (by decide +kernel)
      · refine .oth "list" sc4 (.lst (sql_of g3) ?_ (dqa_sg _)) ?_ rfl (by decide +kernel)
        · rw [List.length_map, cs_mk]
          omega
        · show rkAll _ + 1 ≤ 4
          rw [rk_sg]
          decide
      · exact .oth "NoneType" (Same.refl _) .non (Nat.zero_le _) rfl (by decide +kernel)
      · exact .oth "int" (Same.refl _) (.int 5) (Nat.zero_le _) rfl (by decide +kernel)
      · exact .oth "bool" (Same.refl _) (.bl true) (Nat.zero_le _) rfl (by decide +kernel)
      · exact .oth "dict" sd4 (.dct g4 (by show 1 ≤ 1000000; decide) (by simp) (.cons (.int 1) rfl .nil)) (by show 3 ≤ 4; decide) rfl (by decide +kernel)
      · exact .oth "int" (Same.refl _) (.int _) (Nat.zero_le _) rfl (by decide +kernel)
    clear z1 z2 z3 z4 g1 g2 g3 g4 sa4 sb4 sc4 sd4 t1 t2 t3 t4 s15 st15 hp15 hl15 s16
    generalize [V.str w1, .str w2, .str w3, .str ""] ++ [V.ref b1, .ref b2, .ref b3, .non, .int 5, .bl true, .ref b4, .int (mkS lot).length] = xs at g6 all
    walk_at "go"
    refine w_iseqL ?_
    walk_at "go"
    refine e_ilist (sql_of g6) ?_
    refine for_it walk_list (fun _ σ H' => (∃ o3 o4 o5 o6 o7 o8 o9 : Option V, σ = [some (.ref a), some (.ref s), some (.ref p), o3, o4, o5, o6, o7, o8, o9]) ∧ Same H16 H') ⟨⟨_, _, _, _, _, _, _, rfl⟩, Same.refl _⟩ (fun _ _ _ _ e => sql_of (e.2 _ _ g6)) ?_ ?_
    · rintro j x σ Hx Hy _ ⟨⟨o3, o4, o5, o6, o7, o8, o9, rfl⟩, sx⟩ ⟨rfl, hx⟩
      have bx := all x (List.mem_of_getElem? hx)
      obtain ⟨d, hd, hr⟩ := (bx.same sx).dq
      walk_at "go"
      refine ⟨[], x, d, rfl, InH.nil, by rw [hid_nil]; exact hd, hr, fun v' Hv sv hv => ?_⟩
      rw [hid_nil] at hv
      walk_at "go"
      refine Bad.no ((bx.same sx).same sv) fun Hw sw => ?_
      walk_at "go"
      refine w_iteF rfl ?_
      walk_at "go"
      refine ⟨x, v', d, rfl, dq_same sw (dq_same sv hd), dq_same sw hv, hr, fun Hz sz => ?_⟩
      walk_at "go"
      refine w_iteF rfl ?_
      exact ⟨⟨_, _, _, _, _, _, _, rfl⟩, fun x o h => sz x o (sw x o (sv x o (sx x o h)))⟩
    · rintro σ Hx ⟨⟨o3, o4, o5, o6, o7, o8, o9, rfl⟩, sx⟩
      exact ⟨_, _, _, _, _, _, _, rfl, _, by omega, st16.same sx, sx _ _ hp16⟩
  · rintro σ H3 ⟨o3, o4, o5, o6, o7, o8, o9, rfl, n, hn2, st3, hp3⟩
    exact pure_law_p1 hp3 q
end Pt
namespace Pt
theorem bindsKw {K : PySem.W.Frag} {x qual : Str} {params : Arguments} {body : List Stmt} {scope : Scope} {kws : List (Str × V)} {f : Addr} {fd : FuncData} {ps : List Str} (F : FunD K x qual params body scope [] kws f fd)
    (h : ∀ (kV doc pm : Value) (an : Option Addr) (cdv ct : Value) (us : List Value), us.length = ps.length → bindArgs (PySem.W.fnOf x qual params body scope .none kV doc pm an cdv ct) ⟨[], ps.zip us⟩ = pure (ps.zip us)) (s : Shared) (us : List Value) (hl : us.length = ps.length) : BindsTo s fd ⟨[], ps.zip us⟩ (ps.zip us) := by
  obtain ⟨oc, od, dV, kV, doc, pm, an, cdv, ct, osl, rfl, lk, hcd, hD, hK⟩ := F.ex
  rcases hD with ⟨_, rfl⟩ | ⟨e, _⟩
  · exact .of_eq (h kV doc pm an cdv ct us hl)
  · exact absurd rfl e
end Pt
namespace Pt
/-! ### the text -/
def topS (i : Nat) : Stmt := PySem.Challenge.pw_primetexts_k01_signs_told_from_others.main.body.getD i (.Pass ⟨0, 0, 0, 0⟩)
abbrev s_is_sign : Stmt := topS 1
theorem sc_is_sign : FnScope n_is_sign ["thing"] (defScope s_is_sign) := ⟨rfl, rfl, rfl, by decide +kernel, rfl, by decide +kernel, by decide +kernel⟩
def dd_is_sign : He.DefD := ⟨("is_sign", none), "is_sign", "is_sign", defArgs s_is_sign, defBody s_is_sign, defScope s_is_sign, [], []⟩
abbrev s_is_signs : Stmt := topS 2
theorem sc_is_signs : FnScope n_is_signs ["thing"] (defScope s_is_signs) := ⟨rfl, rfl, rfl, by decide +kernel, rfl, by decide +kernel, by decide +kernel⟩
def dd_is_signs : He.DefD := ⟨("is_signs", none), "is_signs", "is_signs", defArgs s_is_signs, defBody s_is_signs, defScope s_is_signs, [], []⟩
abbrev s_law_start : Stmt := topS 4
theorem sc_law_start : FnScope n_law_start ["script"] (defScope s_law_start) := ⟨rfl, rfl, rfl, by decide +kernel, rfl, by decide +kernel, by decide +kernel⟩
def dd_law_start : He.DefD := ⟨("_law_start", none), "_law_start", "_law_start", defArgs s_law_start, defBody s_law_start, defScope s_law_start, [], []⟩
abbrev s_law_below : Stmt := topS 5
theorem sc_law_below : FnScope n_law_below ["stream", "many"] (defScope s_law_below) := ⟨rfl, rfl, rfl, by decide +kernel, rfl, by decide +kernel, by decide +kernel⟩
def dd_law_below : He.DefD := ⟨("_law_below", none), "_law_below", "_law_below", defArgs s_law_below, defBody s_law_below, defScope s_law_below, [], []⟩
abbrev s_law_pick : Stmt := topS 6
theorem sc_law_pick : FnScope n_law_pick ["stream", "some"] (defScope s_law_pick) := ⟨rfl, rfl, rfl, by decide +kernel, rfl, by decide +kernel, by decide +kernel⟩
def dd_law_pick : He.DefD := ⟨("_law_pick", none), "_law_pick", "_law_pick", defArgs s_law_pick, defBody s_law_pick, defScope s_law_pick, [], []⟩
abbrev s_law_mixed : Stmt := topS 7
theorem sc_law_mixed : FnScope n_law_mixed ["stream", "some"] (defScope s_law_mixed) := ⟨rfl, rfl, rfl, by decide +kernel, rfl, by decide +kernel, by decide +kernel⟩
def dd_law_mixed : He.DefD := ⟨("_law_mixed", none), "_law_mixed", "_law_mixed", defArgs s_law_mixed, defBody s_law_mixed, defScope s_law_mixed, [], []⟩
abbrev s_law_copied : Stmt := topS 8
theorem sc_law_copied : FnScope n_law_copied ["thing"] (defScope s_law_copied) := ⟨rfl, rfl, rfl, by decide +kernel, rfl, by decide +kernel, by decide +kernel⟩
def dd_law_copied : He.DefD := ⟨("_law_copied", none), "_law_copied", "_law_copied", defArgs s_law_copied, defBody s_law_copied, defScope s_law_copied, [], []⟩
abbrev s_law_same : Stmt := topS 9
theorem sc_law_same : FnScope n_law_same ["found", "due"] (defScope s_law_same) := ⟨rfl, rfl, rfl, by decide +kernel, rfl, by decide +kernel, by decide +kernel⟩
def dd_law_same : He.DefD := ⟨("_law_same", none), "_law_same", "_law_same", defArgs s_law_same, defBody s_law_same, defScope s_law_same, [], []⟩
abbrev s_law_bpool : Stmt := topS 10
theorem sc_law_bpool : FnScope n_law_bpool [] (defScope s_law_bpool) := ⟨rfl, rfl, rfl, by decide +kernel, rfl, by decide +kernel, by decide +kernel⟩
def dd_law_bpool : He.DefD := ⟨("_law_bpool", none), "_law_bpool", "_law_bpool", defArgs s_law_bpool, defBody s_law_bpool, defScope s_law_bpool, [], []⟩
abbrev s_law : Stmt := topS 11
theorem sc_law : FnScope n_law ["script"] (defScope s_law) := ⟨rfl, rfl, rfl, by decide +kernel, rfl, by decide +kernel, by decide +kernel⟩
def dd_law : He.DefD := ⟨("law", none), "law", "law", defArgs s_law, defBody s_law, defScope s_law, [], []⟩
def fn : List He.DefD := [dd_is_sign, dd_is_signs, dd_law_start, dd_law_below, dd_law_pick, dd_law_mixed, dd_law_copied, dd_law_same, dd_law_bpool, dd_law]
def fa : List He.Fa := [.free "str", .free "isinstance", .free "len", .free "ord", .free "enumerate", .free "list", .free "int", .free "range", .free "dict", .free "tuple", .free "zip", .free "all", .free "bool", .glo "is_sign", .glo "is_signs", .glo "_law_start", .glo "_law_below", .glo "_law_pick", .glo "_law_mixed", .glo "_law_copied", .glo "_law_same", .glo "_law_bpool", .glo "law"]
structure Txt (K : PySem.W.Frag) (mg : Str → Option Value) : Prop where
  ex : ∃ h : Heap, K.In h ∧ h.Ns mainGlobals mg
  says : He.SaysD fa fn K
section
variable {K : PySem.W.Frag} {mg : Str → Option Value}
theorem Txt.fr (T : Txt K mg) (i : Nat) {x : Str} (h : fa[i]? = some (.free x) := by rfl) : mg x = none := by
  obtain ⟨_, X, G⟩ := T.ex
  exact He.free_ok X G (T.says.fact i h)
theorem Txt.g (T : Txt K mg) (i : Nat) {x : Str} (h : fa[i]? = some (.glo x) := by rfl) : mg x = some (.ref (He.ga K x)) := by
  obtain ⟨_, X, G⟩ := T.ex
  exact He.glo_ok X G (T.says.fact i h)
theorem Txt.gi (T : Txt K mg) (i : Nat) {x : Str} {z : Int} (h : fa[i]? = some (.int x z) := by rfl) : ∃ t, mg x = some (.int z t) := by
  obtain ⟨_, X, G⟩ := T.ex
  exact He.int_ok X G (T.says.fact i h)
theorem Txt.gs (T : Txt K mg) (i : Nat) {x z : Str} (h : fa[i]? = some (.str x z) := by rfl) : ∃ t, mg x = some (.str z t) := by
  obtain ⟨_, X, G⟩ := T.ex
  exact He.str_ok X G (T.says.fact i h)
end
set_option maxHeartbeats 4000000 in
theorem der_is_sign {P : Program} {w : World} {K : PySem.W.Frag} {mg : Str → Option Value} {base : Heap} (T : Txt K mg) {cdv : Value} {A : Around} {outer : List Env} {s : Shared} {H : Hp} {E : XK} {f : Addr} (hr : Room 0 (A.deeper (envOfC "is_sign" (defScope s_is_sign) s.heap.objs.size f cdv))) :
    PSs (cxOf CX0 P w K mg base n_is_sign "is_sign" (defScope s_is_sign) f cdv A outer s H E).nox (defBody s_is_sign) (t_is_sign K) :=
  pss_one (ps_ret (pe_andT (pe_callB call_isiU (by rfl) (T.fr 1) (by decide +kernel) (pa_cons (pv 0) (pa_cons (pe_bltn (by rfl) (T.fr 0) (by decide +kernel) rfl) (pa_nil)))) (pe_andT (pe_cmpR (op_eqU hr.units) (pe_callB call_lenU (by rfl) (T.fr 2) (by decide +kernel) (pa_cons (pv 0) (pa_nil))) (pe_int) (nomark _)) (pe_andT (pe_chain op_leI op_leI (pe_int) (pe_callB call_ordU (by rfl) (T.fr 3) (by decide +kernel) (pa_cons (pv 0) (pa_nil))) (pe_int)) (pe_one (pe_cmpR (op_notInU hr.units) (pe_callB call_ordU (by rfl) (T.fr 3) (by decide +kernel) (pa_cons (pv 0) (pa_nil))) (pe_tup (pa_cons (pe_int) (pa_cons (pe_int) (pa_nil)))) (by rfl)))))))
theorem has_is_sign {P : Program} {w : World} {K : PySem.W.Frag} {mg : Str → Option Value} {base : Heap} (T : Txt K mg) : Has P w K mg base "is_sign" ["thing"] 1 (sp_is_sign K) := by
  obtain ⟨fd, F⟩ := T.says.def_ 0 (d := dd_is_sign) rfl
  exact ⟨⟨fd, F.ok sc_is_sign (fun vs H Q E => by walk_at "ln") (fun cdv A outer s H vs Q E hr h => ⟨t_is_sign K, PSs.nox (der_is_sign T  hr), pure_is_sign vs H Q E h⟩), F.bindsN fun _ _ _ _ _ _ us hl => match us, hl with | [_], _ => rfl⟩, F.kp, T.g 13⟩
set_option maxHeartbeats 4000000 in
theorem der_is_signs {P : Program} {w : World} {K : PySem.W.Frag} {mg : Str → Option Value} {base : Heap} (T : Txt K mg) (h_is_sign : Has P w K mg base "is_sign" ["thing"] 1 (sp_is_sign K)) {cdv : Value} {A : Around} {outer : List Env} {s : Shared} {H : Hp} {E : XK} {f : Addr} (hr : Room 1 (A.deeper (envOfC "is_signs" (defScope s_is_signs) s.heap.objs.size f cdv))) :
    PSs (cxOf CX0 P w K mg base n_is_signs "is_signs" (defScope s_is_signs) f cdv A outer s H E).nox (defBody s_is_signs) (t_is_signs K) :=
  pss_cons (ps_if (PW.pt (pw_or (pt_not (pt_truU (pe_callB call_isiU (by rfl) (T.fr 1) (by decide +kernel) (pa_cons (pv 0) (pa_cons (pe_bltn (by rfl) (T.fr 0) (by decide +kernel) rfl) (pa_nil)))) (by intro _; rfl))) (pw_or1 (pt_not (pt_chain op_leI op_leI (pe_int) (pe_callB call_lenU (by rfl) (T.fr 2) (by decide +kernel) (pa_cons (pv 0) (pa_nil))) (pe_int)))))) (pss_one (ps_ret (pe_bl))) (pss_nil)) (pss_one (ps_ret (pe_cmpR (op_eqU hr.units) (pe_lc (own := [("at", 1), ("sign", 2)]) rfl sc_is_signs.nd (pi_enumS (by rfl) (T.fr 4) (pa_cons (pv 0) (pa_nil))) (blkOk_by (own := [("at", 1), ("sign", 2)]) (N := n_is_signs) (sc := defScope s_is_signs) (by decide +kernel)) (fun _ _ _ _ _ => pg_tup (by rfl) (pgs_cons (pg_name (i := 1) sc_is_signs.nd rfl (Or.inl rfl)) (pgs_cons (pg_name (i := 2) sc_is_signs.nd rfl (Or.inl rfl)) (pgs_nil)))) (fun _ _ _ _ _ => pts_one (PW.pt (pw_or (pt_not (pt_truU (pe_own h_is_sign hr (by decide) (by rfl) (pa_cons (pv 2) (pa_nil))) (by intro _; rfl))) (pw_or1 (pt_cmpR (op_inU hr.units) (pv 2) (pe_slice sl_U (pv 0) (po_none) (po_some (pv 1))) (by rfl)))))) (fun _ _ _ _ _ => pe_int)) (pe_lst (pa_nil)) (nomark _))))
theorem has_is_signs {P : Program} {w : World} {K : PySem.W.Frag} {mg : Str → Option Value} {base : Heap} (T : Txt K mg) : Has P w K mg base "is_signs" ["thing"] 2 (sp_is_signs K) := by
  obtain ⟨fd, F⟩ := T.says.def_ 1 (d := dd_is_signs) rfl
  exact ⟨⟨fd, F.ok sc_is_signs (fun vs H Q E => by walk_at "ln") (fun cdv A outer s H vs Q E hr h => ⟨t_is_signs K, PSs.nox (der_is_signs T (has_is_sign T) hr), pure_is_signs vs H Q E h⟩), F.bindsN fun _ _ _ _ _ _ us hl => match us, hl with | [_], _ => rfl⟩, F.kp, T.g 14⟩
theorem hask_is_signs {P : Program} {w : World} {K : PySem.W.Frag} {mg : Str → Option Value} {base : Heap} (T : Txt K mg) : HasK P w K mg base "is_signs" ["thing"] 2 (sp_is_signs K) := by
  obtain ⟨fd, F⟩ := T.says.def_ 1 (d := dd_is_signs) rfl
  exact ⟨⟨fd, F.ok sc_is_signs (fun vs H Q E => by walk_at "ln") (fun cdv A outer s H vs Q E hr h => ⟨t_is_signs K, PSs.nox (der_is_signs T (has_is_sign T) hr), pure_is_signs vs H Q E h⟩), fun s ws hl => bindsKw F (fun _ _ _ _ _ _ us hl => match us, hl with | [_], _ => rfl) s ws hl⟩, F.kp, T.g 14⟩
set_option maxHeartbeats 4000000 in
theorem der_law_start {P : Program} {w : World} {K : PySem.W.Frag} {mg : Str → Option Value} {base : Heap} (T : Txt K mg) {cdv : Value} {A : Around} {outer : List Env} {s : Shared} {H : Hp} {E : XK} {f : Addr} (hr : Room 0 (A.deeper (envOfC "_law_start" (defScope s_law_start) s.heap.objs.size f cdv))) :
    PSs (cxOf CX0 P w K mg base n_law_start "_law_start" (defScope s_law_start) f cdv A outer s H E).nox (defBody s_law_start) (t_law_start K) :=
  pss_one (ps_ret (pe_lst (pa_cons (pe_callTy (call_listU rfl) (by rfl) (T.fr 5) (by decide +kernel) (pa_cons (pv 0) (pa_nil))) (pa_cons (pe_int) (pa_cons (pe_int) (pa_cons (pe_int) (pa_nil)))))))
theorem has_law_start {P : Program} {w : World} {K : PySem.W.Frag} {mg : Str → Option Value} {base : Heap} (T : Txt K mg) : Has P w K mg base "_law_start" ["script"] 1 (sp_law_start K) := by
  obtain ⟨fd, F⟩ := T.says.def_ 2 (d := dd_law_start) rfl
  exact ⟨⟨fd, F.ok sc_law_start (fun vs H Q E => by walk_at "ln") (fun cdv A outer s H vs Q E hr h => ⟨t_law_start K, PSs.nox (der_law_start T  hr), pure_law_start vs H Q E h⟩), F.bindsN fun _ _ _ _ _ _ us hl => match us, hl with | [_], _ => rfl⟩, F.kp, T.g 15⟩
set_option maxHeartbeats 4000000 in
theorem der_law_below {P : Program} {w : World} {K : PySem.W.Frag} {mg : Str → Option Value} {base : Heap} (T : Txt K mg) {cdv : Value} {A : Around} {outer : List Env} {s : Shared} {H : Hp} {E : XK} {f : Addr} (hr : Room 0 (A.deeper (envOfC "_law_below" (defScope s_law_below) s.heap.objs.size f cdv))) :
    PSs (cxOf CX0 P w K mg base n_law_below "_law_below" (defScope s_law_below) f cdv A outer s H E).nox (defBody s_law_below) (t_law_below K) :=
  pss_cons (ps_asg (pe_op op_plus (pe_ix (ix_U hr.units) (pv 0) (pe_int) (fun _ _ => rfl)) (pe_int)) (pg_sub (pv 0) (pe_int) (set_U hr.units))) (pss_cons (ps_while PassesOwn.never (PW.pt (pw_and (pt_cmpR (op_eqU hr.units) (pe_ix (ix_U hr.units) (pv 0) (pe_int) (fun _ _ => rfl)) (pe_int) (nomark _)) (pw_and1 (pt_cmpR (op_neU hr.units) (pe_ix (ix_U hr.units) (pv 0) (pe_int) (fun _ _ => rfl)) (pe_lst (pa_nil)) (nomark _))))) (pss_cons (ps_set (i := 2) sc_law_below.nd rfl (Or.inl rfl) (pe_bm PySem.F.plainAttrs_list PySem.F.slot_list_pop PySem.F.type_list_pop mt_popAt (pe_ix (ix_U hr.units) (pv 0) (pe_int) (fun _ _ => rfl)) (pa_cons (pe_int) (pa_nil)))) (pss_cons (ps_asg (pe_op op_modU (pe_callTy call_intU (by rfl) (T.fr 6) (by decide +kernel) (pa_cons (pe_op op_plus (pe_op op_plus (pe_op op_times (pe_ix (ix_U hr.units) (pv 0) (pe_int) (fun _ _ => rfl)) (pe_int)) (pv 2)) (pe_int)) (pa_nil))) (pe_int)) (pg_sub (pv 0) (pe_int) (set_U hr.units))) (pss_one (ps_asg (pe_ifExp (pt_cmpR op_geI (pv 2) (pe_op op_powU (pe_int) (pe_int)) (nomark _)) (pv 2) (pe_int)) (pg_sub (pv 0) (pe_int) (set_U hr.units))))))) (pss_cons (ps_if (pt_cmpR op_gtI (pe_ix (ix_U hr.units) (pv 0) (pe_int) (fun _ _ => rfl)) (pe_int) (nomark _)) (pss_cons (ps_set (i := 3) sc_law_below.nd rfl (Or.inl rfl) (pe_op op_modU (pe_callTy call_intU (by rfl) (T.fr 6) (by decide +kernel) (pa_cons (pe_ix (ix_U hr.units) (pv 0) (pe_int) (fun _ _ => rfl)) (pa_nil))) (pv 1))) (pss_cons (ps_asg (pe_op op_divU (pe_ix (ix_U hr.units) (pv 0) (pe_int) (fun _ _ => rfl)) (pv 1)) (pg_sub (pv 0) (pe_int) (set_U hr.units))) (pss_one (ps_ret (pv 3))))) (pss_nil)) (pss_cons (ps_set (i := 4) sc_law_below.nd rfl (Or.inl rfl) (pe_op op_modU (pe_callTy call_intU (by rfl) (T.fr 6) (by decide +kernel) (pa_cons (pe_op op_powU (pe_op op_plus (pe_op op_plus (pe_ix (ix_U hr.units) (pv 0) (pe_int) (fun _ _ => rfl)) (pe_op op_times (pe_int) (pe_ix (ix_U hr.units) (pv 0) (pe_int) (fun _ _ => rfl)))) (pe_int)) (pe_int)) (pa_nil))) (pe_int))) (pss_one (ps_ret (pe_op op_modU (pe_op op_modU (pe_callTy call_intU (by rfl) (T.fr 6) (by decide +kernel) (pa_cons (pe_op op_powU (pe_op op_plus (pe_op op_plus (pe_op op_times (pv 4) (pe_int)) (pe_op op_times (pe_int) (pe_ix (ix_U hr.units) (pv 0) (pe_int) (fun _ _ => rfl)))) (pe_int)) (pe_int)) (pa_nil))) (pe_int)) (pv 1)))))))
theorem has_law_below {P : Program} {w : World} {K : PySem.W.Frag} {mg : Str → Option Value} {base : Heap} (T : Txt K mg) : Has P w K mg base "_law_below" ["stream", "many"] 1 (sp_law_below K) := by
  obtain ⟨fd, F⟩ := T.says.def_ 3 (d := dd_law_below) rfl
  exact ⟨⟨fd, F.ok sc_law_below (fun vs H Q E => by walk_at "ln") (fun cdv A outer s H vs Q E hr h => ⟨t_law_below K, PSs.nox (der_law_below T  hr), pure_law_below vs H Q E h⟩), F.bindsN fun _ _ _ _ _ _ us hl => match us, hl with | [_, _], _ => rfl⟩, F.kp, T.g 16⟩
set_option maxHeartbeats 4000000 in
theorem der_law_pick {P : Program} {w : World} {K : PySem.W.Frag} {mg : Str → Option Value} {base : Heap} (T : Txt K mg) (h_law_below : Has P w K mg base "_law_below" ["stream", "many"] 1 (sp_law_below K)) {cdv : Value} {A : Around} {outer : List Env} {s : Shared} {H : Hp} {E : XK} {f : Addr} (hr : Room 1 (A.deeper (envOfC "_law_pick" (defScope s_law_pick) s.heap.objs.size f cdv))) :
    PSs (cxOf CX0 P w K mg base n_law_pick "_law_pick" (defScope s_law_pick) f cdv A outer s H E).nox (defBody s_law_pick) (t_law_pick K) :=
  pss_one (ps_ret (pe_ix (ix_U hr.units) (pv 1) (pe_own h_law_below hr (by decide) (by rfl) (pa_cons (pv 0) (pa_cons (pe_callB call_lenU (by rfl) (T.fr 2) (by decide +kernel) (pa_cons (pv 1) (pa_nil))) (pa_nil)))) (fun _ _ => rfl)))
theorem has_law_pick {P : Program} {w : World} {K : PySem.W.Frag} {mg : Str → Option Value} {base : Heap} (T : Txt K mg) : Has P w K mg base "_law_pick" ["stream", "some"] 2 (sp_law_pick K) := by
  obtain ⟨fd, F⟩ := T.says.def_ 4 (d := dd_law_pick) rfl
  exact ⟨⟨fd, F.ok sc_law_pick (fun vs H Q E => by walk_at "ln") (fun cdv A outer s H vs Q E hr h => ⟨t_law_pick K, PSs.nox (der_law_pick T (has_law_below T) hr), pure_law_pick vs H Q E h⟩), F.bindsN fun _ _ _ _ _ _ us hl => match us, hl with | [_, _], _ => rfl⟩, F.kp, T.g 17⟩
set_option maxHeartbeats 4000000 in
theorem der_law_mixed {P : Program} {w : World} {K : PySem.W.Frag} {mg : Str → Option Value} {base : Heap} (T : Txt K mg) (h_law_below : Has P w K mg base "_law_below" ["stream", "many"] 1 (sp_law_below K)) {cdv : Value} {A : Around} {outer : List Env} {s : Shared} {H : Hp} {E : XK} {f : Addr} (hr : Room 1 (A.deeper (envOfC "_law_mixed" (defScope s_law_mixed) s.heap.objs.size f cdv))) :
    PSs (cxOf CX0 P w K mg base n_law_mixed "_law_mixed" (defScope s_law_mixed) f cdv A outer s H E).nox (defBody s_law_mixed) (t_law_mixed K) :=
  pss_cons (ps_set (i := 2) sc_law_mixed.nd rfl (Or.inr rfl) (pe_callTy (call_listU rfl) (by rfl) (T.fr 5) (by decide +kernel) (pa_cons (pv 1) (pa_nil)))) (pss_one (ps_ret (pe_lc (own := [("k", 3)]) rfl sc_law_mixed.nd (pi_range1 (by rfl) (T.fr 7) (pa_cons (pe_callB call_lenU (by rfl) (T.fr 2) (by decide +kernel) (pa_cons (pv 2) (pa_nil))) (pa_nil))) (blkOk_by (own := [("k", 3)]) (N := n_law_mixed) (sc := defScope s_law_mixed) (by decide +kernel)) (fun _ _ _ _ _ => pg_name (i := 3) sc_law_mixed.nd rfl (Or.inl rfl)) (fun _ _ _ _ _ => pts_nil) (fun _ _ _ _ _ => pe_bm PySem.F.plainAttrs_list PySem.F.slot_list_pop PySem.F.type_list_pop mt_popAt (pv 2) (pa_cons (pe_own h_law_below hr (by decide) (by rfl) (pa_cons (pv 0) (pa_cons (pe_callB call_lenU (by rfl) (T.fr 2) (by decide +kernel) (pa_cons (pv 2) (pa_nil))) (pa_nil)))) (pa_nil))))))
theorem has_law_mixed {P : Program} {w : World} {K : PySem.W.Frag} {mg : Str → Option Value} {base : Heap} (T : Txt K mg) : Has P w K mg base "_law_mixed" ["stream", "some"] 2 (sp_law_mixed K) := by
  obtain ⟨fd, F⟩ := T.says.def_ 5 (d := dd_law_mixed) rfl
  exact ⟨⟨fd, F.ok sc_law_mixed (fun vs H Q E => by walk_at "ln") (fun cdv A outer s H vs Q E hr h => ⟨t_law_mixed K, PSs.nox (der_law_mixed T (has_law_below T) hr), pure_law_mixed vs H Q E h⟩), F.bindsN fun _ _ _ _ _ _ us hl => match us, hl with | [_, _], _ => rfl⟩, F.kp, T.g 18⟩
set_option maxHeartbeats 4000000 in
theorem der_law_copied {P : Program} {w : World} {K : PySem.W.Frag} {mg : Str → Option Value} {base : Heap} (T : Txt K mg) (n : Nat) (h_law_copied : Has P w K mg base "_law_copied" ["thing"] (0 + n + 1) (sp_law_copied K n)) {cdv : Value} {A : Around} {outer : List Env} {s : Shared} {H : Hp} {E : XK} {f : Addr} (hr : Room (0 + n + 1) (A.deeper (envOfC "_law_copied" (defScope s_law_copied) s.heap.objs.size f cdv))) :
    PSs (cxOf CX0 P w K mg base n_law_copied "_law_copied" (defScope s_law_copied) f cdv A outer s H E).nox (defBody s_law_copied) (t_law_copied K n) :=
  pss_cons (ps_if (pt_truU (pe_callB call_isiU (by rfl) (T.fr 1) (by decide +kernel) (pa_cons (pv 0) (pa_cons (pe_bltn (by rfl) (T.fr 8) (by decide +kernel) rfl) (pa_nil)))) (by intro _; rfl)) (pss_one (ps_ret (pe_callTy (call_dictU rfl) (by rfl) (T.fr 8) (by decide +kernel) (pa_cons (pe_lock (pe_lc (own := [("key", 2)]) rfl sc_law_copied.nd (pi_keys (pv 0)) (blkOk_by (own := [("key", 2)]) (N := n_law_copied) (sc := defScope s_law_copied) (by decide +kernel)) (fun _ _ _ _ _ => pg_name (i := 2) sc_law_copied.nd rfl (Or.inl rfl)) (fun _ _ _ _ _ => pts_nil) (fun _ _ _ _ _ => pe_tup (pa_cons (pv 2) (pa_cons (pe_own h_law_copied hr (by omega) (by rfl) (pa_cons (pe_ix (ix_U hr.units) (pv 0) (pv 2) (fun _ _ => rfl)) (pa_nil))) (pa_nil)))))) (pa_nil))))) (pss_nil)) (pss_cons (ps_if (pt_not (pt_truU (pe_callB call_isiU (by rfl) (T.fr 1) (by decide +kernel) (pa_cons (pv 0) (pa_cons (pe_tup (pa_cons (pe_bltn (by rfl) (T.fr 5) (by decide +kernel) rfl) (pa_cons (pe_bltn (by rfl) (T.fr 9) (by decide +kernel) rfl) (pa_nil)))) (pa_nil)))) (by intro _; rfl))) (pss_one (ps_ret (pv 0))) (pss_nil)) (pss_cons (ps_setLc (i := 1) (own := [("part", 3)]) rfl sc_law_copied.nd rfl rfl (sw_true rfl rfl rfl (by decide +kernel)) (pi_seq (pv 0)) (blkOk_by (own := [("part", 3)]) (N := n_law_copied) (sc := defScope s_law_copied) (by decide +kernel)) (fun _ _ _ _ _ => pg_name (i := 3) sc_law_copied.nd rfl (Or.inl rfl)) (fun _ _ _ _ _ => pts_nil) (fun _ _ _ _ _ => pe_own h_law_copied hr (by omega) (by rfl) (pa_cons (pv 3) (pa_nil)))) (pss_one (ps_ret (pe_ifExp (pt_truU (pe_callB call_isiU (by rfl) (T.fr 1) (by decide +kernel) (pa_cons (pv 0) (pa_cons (pe_bltn (by rfl) (T.fr 5) (by decide +kernel) rfl) (pa_nil)))) (by intro _; rfl)) (pv 1) (pe_callTy call_tupU (by rfl) (T.fr 9) (by decide +kernel) (pa_cons (pv 1) (pa_nil))))))))
theorem hasn_law_copied {P : Program} {w : World} {K : PySem.W.Frag} {mg : Str → Option Value} {base : Heap} (T : Txt K mg) (n : Nat) : Has P w K mg base "_law_copied" ["thing"] (0 + n + 1) (sp_law_copied K n) := by
  obtain ⟨fd, F⟩ := T.says.def_ 6 (d := dd_law_copied) rfl
  have b : Binds K fd ["thing"] [] := F.bindsN fun _ _ _ _ _ _ us hl => match us, hl with | [_], _ => rfl
  induction n with
  | zero => exact ⟨⟨fd, F.ok sc_law_copied (fun vs H Q E h => h.elim) (fun cdv A outer s H vs Q E hr h => h.elim), b⟩, F.kp, T.g 19⟩
  | succ n ih => exact ⟨⟨fd, F.ok sc_law_copied (fun vs H Q E => by walk_at "ln") (fun cdv A outer s H vs Q E hr h => ⟨t_law_copied K n, PSs.nox (der_law_copied T  n ih hr), pure_law_copied n vs H Q E h⟩), b⟩, F.kp, T.g 19⟩
theorem has_law_copied {P : Program} {w : World} {K : PySem.W.Frag} {mg : Str → Option Value} {base : Heap} (T : Txt K mg) : Has P w K mg base "_law_copied" ["thing"] 6 (sp_law_copied K 5) := hasn_law_copied T 5
set_option maxHeartbeats 4000000 in
theorem der_law_same {P : Program} {w : World} {K : PySem.W.Frag} {mg : Str → Option Value} {base : Heap} (T : Txt K mg) (n : Nat) (h_law_same : Has P w K mg base "_law_same" ["found", "due"] (0 + n + 1) (sp_law_same K n)) {cdv : Value} {A : Around} {outer : List Env} {s : Shared} {H : Hp} {E : XK} {f : Addr} (hr : Room (0 + n + 1) (A.deeper (envOfC "_law_same" (defScope s_law_same) s.heap.objs.size f cdv))) :
    PSs (cxOf CX0 P w K mg base n_law_same "_law_same" (defScope s_law_same) f cdv A outer s H E).nox (defBody s_law_same) (t_law_same K n) :=
  pss_cons (ps_if (pt_truU (pe_callB call_isiU (by rfl) (T.fr 1) (by decide +kernel) (pa_cons (pv 1) (pa_cons (pe_tup (pa_cons (pe_bltn (by rfl) (T.fr 5) (by decide +kernel) rfl) (pa_cons (pe_bltn (by rfl) (T.fr 9) (by decide +kernel) rfl) (pa_nil)))) (pa_nil)))) (by intro _; rfl)) (pss_cons (ps_if (PW.pt (pw_or (pt_cmpR (op_neU hr.units) (pe_callB call_isiU (by rfl) (T.fr 1) (by decide +kernel) (pa_cons (pv 0) (pa_cons (pe_bltn (by rfl) (T.fr 5) (by decide +kernel) rfl) (pa_nil)))) (pe_callB call_isiU (by rfl) (T.fr 1) (by decide +kernel) (pa_cons (pv 1) (pa_cons (pe_bltn (by rfl) (T.fr 5) (by decide +kernel) rfl) (pa_nil)))) (nomark _)) (pw_or1 (pt_cmpR (op_neU hr.units) (pe_callB call_isiU (by rfl) (T.fr 1) (by decide +kernel) (pa_cons (pv 0) (pa_cons (pe_bltn (by rfl) (T.fr 9) (by decide +kernel) rfl) (pa_nil)))) (pe_callB call_isiU (by rfl) (T.fr 1) (by decide +kernel) (pa_cons (pv 1) (pa_cons (pe_bltn (by rfl) (T.fr 9) (by decide +kernel) rfl) (pa_nil)))) (nomark _))))) (pss_one (ps_ret (pe_bl))) (pss_nil)) (pss_one (ps_ret (pe_andT (pe_cmpR (op_eqU hr.units) (pe_callB call_lenU (by rfl) (T.fr 2) (by decide +kernel) (pa_cons (pv 0) (pa_nil))) (pe_callB call_lenU (by rfl) (T.fr 2) (by decide +kernel) (pa_cons (pv 1) (pa_nil))) (nomark _)) (pe_one (pe_callB (cr_all rfl) (by rfl) (T.fr 11) (by decide +kernel) (pa_cons (pe_lc (own := [("x", 2), ("y", 3)]) rfl sc_law_same.nd (RZ.pi_zipA (by rfl) (T.fr 10) (pa_cons (pv 0) (pa_cons (pv 1) (pa_nil)))) (blkOk_by (own := [("x", 2), ("y", 3)]) (N := n_law_same) (sc := defScope s_law_same) (by decide +kernel)) (fun _ _ _ _ _ => pg_tup (by rfl) (pgs_cons (pg_name (i := 2) sc_law_same.nd rfl (Or.inl rfl)) (pgs_cons (pg_name (i := 3) sc_law_same.nd rfl (Or.inl rfl)) (pgs_nil)))) (fun _ _ _ _ _ => pts_nil) (fun _ _ _ _ _ => pe_own h_law_same hr (by omega) (by rfl) (pa_cons (pv 2) (pa_cons (pv 3) (pa_nil))))) (pa_nil)))))))) (pss_nil)) (pss_cons (ps_if (pt_truU (pe_callB call_isiU (by rfl) (T.fr 1) (by decide +kernel) (pa_cons (pv 1) (pa_cons (pe_bltn (by rfl) (T.fr 8) (by decide +kernel) rfl) (pa_nil)))) (by intro _; rfl)) (pss_one (ps_ret (pe_andT (pe_callB call_isiU (by rfl) (T.fr 1) (by decide +kernel) (pa_cons (pv 0) (pa_cons (pe_bltn (by rfl) (T.fr 8) (by decide +kernel) rfl) (pa_nil)))) (pe_one (pe_own h_law_same hr (by omega) (by rfl) (pa_cons (LiI.pe_listItems rfl (pv 0) (by rfl) (T.fr 5) (by decide +kernel)) (pa_cons (LiI.pe_listItems rfl (pv 1) (by rfl) (T.fr 5) (by decide +kernel)) (pa_nil)))))))) (pss_nil)) (pss_cons (ps_if (pt_truU (pe_callB call_isiU (by rfl) (T.fr 1) (by decide +kernel) (pa_cons (pv 1) (pa_cons (pe_bltn (by rfl) (T.fr 6) (by decide +kernel) rfl) (pa_nil)))) (by intro _; rfl)) (pss_one (ps_ret (pe_andT (pe_callB call_isiU (by rfl) (T.fr 1) (by decide +kernel) (pa_cons (pv 0) (pa_cons (pe_bltn (by rfl) (T.fr 6) (by decide +kernel) rfl) (pa_nil)))) (pe_andT (pe_cmpR (op_eqU hr.units) (pe_callB call_isiU (by rfl) (T.fr 1) (by decide +kernel) (pa_cons (pv 0) (pa_cons (pe_bltn (by rfl) (T.fr 12) (by decide +kernel) rfl) (pa_nil)))) (pe_callB call_isiU (by rfl) (T.fr 1) (by decide +kernel) (pa_cons (pv 1) (pa_cons (pe_bltn (by rfl) (T.fr 12) (by decide +kernel) rfl) (pa_nil)))) (nomark _)) (pe_one (pe_cmpR (op_eqU hr.units) (pv 0) (pv 1) (nomark _))))))) (pss_nil)) (pss_cons (ps_if (pt_cmpR op_isU (pv 1) (pe_non) (nomark _)) (pss_one (ps_ret (pe_cmpR op_isU (pv 0) (pe_non) (nomark _)))) (pss_nil)) (pss_cons (ps_if (pt_truU (pe_callB call_isiU (by rfl) (T.fr 1) (by decide +kernel) (pa_cons (pv 1) (pa_cons (pe_bltn (by rfl) (T.fr 0) (by decide +kernel) rfl) (pa_nil)))) (by intro _; rfl)) (pss_one (ps_ret (pe_andT (pe_callB call_isiU (by rfl) (T.fr 1) (by decide +kernel) (pa_cons (pv 0) (pa_cons (pe_bltn (by rfl) (T.fr 0) (by decide +kernel) rfl) (pa_nil)))) (pe_one (pe_cmpR (op_eqU hr.units) (pv 0) (pv 1) (nomark _)))))) (pss_nil)) (pss_one (ps_ret (pe_andT (pe_notT (pe_callB call_isiU (by rfl) (T.fr 1) (by decide +kernel) (pa_cons (pv 0) (pa_cons (pe_tup (pa_cons (pe_bltn (by rfl) (T.fr 6) (by decide +kernel) rfl) (pa_cons (pe_bltn (by rfl) (T.fr 0) (by decide +kernel) rfl) (pa_cons (pe_bltn (by rfl) (T.fr 5) (by decide +kernel) rfl) (pa_cons (pe_bltn (by rfl) (T.fr 9) (by decide +kernel) rfl) (pa_cons (pe_bltn (by rfl) (T.fr 8) (by decide +kernel) rfl) (pa_nil))))))) (pa_nil))))) (pe_one (pe_cmpR (op_eqU hr.units) (pv 0) (pv 1) (nomark _))))))))))
theorem hasn_law_same {P : Program} {w : World} {K : PySem.W.Frag} {mg : Str → Option Value} {base : Heap} (T : Txt K mg) (n : Nat) : Has P w K mg base "_law_same" ["found", "due"] (0 + n + 1) (sp_law_same K n) := by
  obtain ⟨fd, F⟩ := T.says.def_ 7 (d := dd_law_same) rfl
  have b : Binds K fd ["found", "due"] [] := F.bindsN fun _ _ _ _ _ _ us hl => match us, hl with | [_, _], _ => rfl
  induction n with
  | zero => exact ⟨⟨fd, F.ok sc_law_same (fun vs H Q E h => h.elim) (fun cdv A outer s H vs Q E hr h => h.elim), b⟩, F.kp, T.g 20⟩
  | succ n ih => exact ⟨⟨fd, F.ok sc_law_same (fun vs H Q E => by walk_at "ln") (fun cdv A outer s H vs Q E hr h => ⟨t_law_same K n, PSs.nox (der_law_same T  n ih hr), pure_law_same n vs H Q E h⟩), b⟩, F.kp, T.g 20⟩
theorem has_law_same {P : Program} {w : World} {K : PySem.W.Frag} {mg : Str → Option Value} {base : Heap} (T : Txt K mg) : Has P w K mg base "_law_same" ["found", "due"] 6 (sp_law_same K 5) := hasn_law_same T 5
set_option maxHeartbeats 4000000 in
theorem der_law_bpool {P : Program} {w : World} {K : PySem.W.Frag} {mg : Str → Option Value} {base : Heap} (T : Txt K mg) {cdv : Value} {A : Around} {outer : List Env} {s : Shared} {H : Hp} {E : XK} {f : Addr} (hr : Room 0 (A.deeper (envOfC "_law_bpool" (defScope s_law_bpool) s.heap.objs.size f cdv))) :
    PSs (cxOf CX0 P w K mg base n_law_bpool "_law_bpool" (defScope s_law_bpool) f cdv A outer s H E).nox (defBody s_law_bpool) (t_law_bpool K) :=
  pss_one (ps_ret (pe_lc (own := [("sign", 0)]) rfl sc_law_bpool.nd (pi_str (pe_str)) (blkOk_by (own := [("sign", 0)]) (N := n_law_bpool) (sc := defScope s_law_bpool) (by decide +kernel)) (fun _ _ _ _ _ => pg_name (i := 0) sc_law_bpool.nd rfl (Or.inl rfl)) (fun _ _ _ _ _ => pts_nil) (fun _ _ _ _ _ => pv 0)))
theorem has_law_bpool {P : Program} {w : World} {K : PySem.W.Frag} {mg : Str → Option Value} {base : Heap} (T : Txt K mg) : Has P w K mg base "_law_bpool" [] 1 (sp_law_bpool K) := by
  obtain ⟨fd, F⟩ := T.says.def_ 8 (d := dd_law_bpool) rfl
  exact ⟨⟨fd, F.ok sc_law_bpool (fun vs H Q E => by walk_at "ln") (fun cdv A outer s H vs Q E hr h => ⟨t_law_bpool K, PSs.nox (der_law_bpool T  hr), pure_law_bpool vs H Q E h⟩), F.bindsN fun _ _ _ _ _ _ us hl => match us, hl with | [], _ => rfl⟩, F.kp, T.g 21⟩
set_option maxHeartbeats 4000000 in
theorem der_law {P : Program} {w : World} {K : PySem.W.Frag} {mg : Str → Option Value} {base : Heap} (T : Txt K mg) (h_law_bpool : Has P w K mg base "_law_bpool" [] 1 (sp_law_bpool K)) (h_law_start : Has P w K mg base "_law_start" ["script"] 1 (sp_law_start K)) (h_law_mixed : Has P w K mg base "_law_mixed" ["stream", "some"] 2 (sp_law_mixed K)) (h_law_below : Has P w K mg base "_law_below" ["stream", "many"] 1 (sp_law_below K)) (h_is_signs : Has P w K mg base "is_signs" ["thing"] 2 (sp_is_signs K)) (hk_is_signs : HasK P w K mg base "is_signs" ["thing"] 2 (sp_is_signs K)) (h_law_pick : Has P w K mg base "_law_pick" ["stream", "some"] 2 (sp_law_pick K)) (h_law_copied : Has P w K mg base "_law_copied" ["thing"] 6 (sp_law_copied K 5)) (h_law_same : Has P w K mg base "_law_same" ["found", "due"] 6 (sp_law_same K 5)) {cdv : Value} {A : Around} {outer : List Env} {s : Shared} {H : Hp} {E : XK} {f : Addr} (hr : Room 6 (A.deeper (envOfC "law" (defScope s_law) s.heap.objs.size f cdv))) :
    PSs (cxOf CX0 P w K mg base n_law "law" (defScope s_law) f cdv A outer s H E).nox (defBody s_law) (t_law K) :=
  pss_cons (ps_par (i := 1) (j := 2) (by rfl) sc_law.nd rfl rfl (by decide) rfl rfl (pa_cons (pe_own h_law_start hr (by decide) (by rfl) (pa_cons (pv 0) (pa_nil))) (pa_cons (pe_own0 h_law_bpool hr (by decide) (by rfl)) (pa_nil))) (by rfl)) (pss_cons (ps_for PassesOwn.never rfl (pi_range1 (by rfl) (T.fr 7) (pa_cons (pe_int) (pa_nil))) (pg_name (i := 3) sc_law.nd rfl (Or.inl rfl)) (pss_cons (ps_set (i := 4) sc_law.nd rfl (Or.inl rfl) (pe_joinU (pe_str) (pe_slice sl_U (pe_own h_law_mixed hr (by decide) (by rfl) (pa_cons (pv 1) (pa_cons (pv 2) (pa_nil)))) (po_none) (po_some (pe_op op_plus (pe_int) (pe_own h_law_below hr (by decide) (by rfl) (pa_cons (pv 1) (pa_cons (pe_int) (pa_nil))))))))) (pss_cons (ps_if (PW.pt (pw_or (pt_cmpR op_isNotU (pe_own h_is_signs hr (by decide) (by rfl) (pa_cons (pv 4) (pa_nil))) (pe_bl) (nomark _)) (pw_or1 (pt_cmpR op_isNotU (pe_ownK1 hk_is_signs hr (by decide) (by rfl) (pk_cons (pv 4) (pk_nil))) (pe_bl) (nomark _))))) (pss_one (ps_ret (pe_bl))) (pss_nil)) (pss_cons (ps_par (i := 5) (j := 6) (by rfl) sc_law.nd rfl rfl (by decide) rfl rfl (pa_cons (pe_own h_law_below hr (by decide) (by rfl) (pa_cons (pv 1) (pa_cons (pe_callB call_lenU (by rfl) (T.fr 2) (by decide +kernel) (pa_cons (pv 4) (pa_nil))) (pa_nil)))) (pa_cons (pe_own h_law_pick hr (by decide) (by rfl) (pa_cons (pv 1) (pa_cons (pe_lst (pa_cons (pe_str) (pa_cons (pe_str) (pa_cons (pe_str) (pa_cons (pe_str) (pa_nil)))))) (pa_nil)))) (pa_nil))) (by rfl)) (pss_cons (ps_set (i := 7) sc_law.nd rfl (Or.inl rfl) (pe_lst (pa_cons (pe_op op_plus (pe_op op_plus (pe_slice sl_U (pv 4) (po_none) (po_some (pv 5))) (pv 6)) (pe_slice sl_U (pv 4) (po_some (pe_op op_plus (pv 5) (pe_int))) (po_none))) (pa_cons (pe_op op_plus (pv 4) (pe_ix (ix_U hr.units) (pv 4) (pv 5) (fun _ _ => rfl))) (pa_cons (pe_joinU (pe_str) (pe_slice sl_U (pv 2) (po_none) (po_some (pe_op op_plus (pe_int) (pe_own h_law_below hr (by decide) (by rfl) (pa_cons (pv 1) (pa_cons (pe_int) (pa_nil)))))))) (pa_cons (pe_str) (pa_nil))))))) (pss_cons (ps_set (i := 7) sc_law.nd rfl (Or.inl rfl) (pe_op op_plus (pv 7) (pe_lst (pa_cons (pe_lst (pa_cons (pv 4) (pa_nil))) (pa_cons (pe_tup (pa_cons (pv 4) (pa_nil))) (pa_cons (pe_callTy (call_listU rfl) (by rfl) (T.fr 5) (by decide +kernel) (pa_cons (pv 4) (pa_nil))) (pa_cons (pe_non) (pa_cons (pe_int) (pa_cons (pe_bl) (pa_cons (pe_disp (pps_cons (pv 4) (pe_int) (pps_nil)) (by rfl) (by rfl) (fun z => by cases z) (by decide)) (pa_cons (pe_callB call_lenU (by rfl) (T.fr 2) (by decide +kernel) (pa_cons (pv 4) (pa_nil))) (pa_nil)))))))))))) (pss_one (ps_for PassesOwn.never rfl (pi_seq (pv 7)) (pg_name (i := 8) sc_law.nd rfl (Or.inl rfl)) (pss_cons (ps_set (i := 9) sc_law.nd rfl (Or.inl rfl) (pe_own h_law_copied hr (by decide) (by rfl) (pa_cons (pv 8) (pa_nil)))) (pss_one (ps_if (PW.pt (pw_or (pt_cmpR op_isNotU (pe_own h_is_signs hr (by decide) (by rfl) (pa_cons (pv 8) (pa_nil))) (pe_bl) (nomark _)) (pw_or1 (pt_not (pt_truU (pe_own h_law_same hr (by decide) (by rfl) (pa_cons (pv 8) (pa_cons (pv 9) (pa_nil)))) (by intro _; rfl)))))) (pss_one (ps_ret (pe_bl))) (pss_nil)))))))))))) (pss_one (ps_ret (pe_andT (pe_cmpR (op_eqU hr.units) (pe_lc (own := [("sign", 6)]) rfl sc_law.nd (pi_seq (pv 2)) (blkOk_by (own := [("sign", 6)]) (N := n_law) (sc := defScope s_law) (by decide +kernel)) (fun _ _ _ _ _ => pg_name (i := 6) sc_law.nd rfl (Or.inl rfl)) (fun _ _ _ _ _ => pts_one (pt_cmpR op_isNotU (pe_own h_is_signs hr (by decide) (by rfl) (pa_cons (pv 6) (pa_nil))) (pe_bl) (nomark _))) (fun _ _ _ _ _ => pv 6)) (pe_lst (pa_nil)) (nomark _)) (pe_andT (pe_cmpR op_isU (pe_own h_is_signs hr (by decide) (by rfl) (pa_cons (pe_str) (pa_nil))) (pe_bl) (nomark _)) (pe_one (pe_cmpR op_isU (pe_own h_is_signs hr (by decide) (by rfl) (pa_cons (pe_str) (pa_nil))) (pe_bl) (nomark _))))))))
theorem has_law {P : Program} {w : World} {K : PySem.W.Frag} {mg : Str → Option Value} {base : Heap} (T : Txt K mg) : Has P w K mg base "law" ["script"] 7 (sp_law K) := by
  obtain ⟨fd, F⟩ := T.says.def_ 9 (d := dd_law) rfl
  exact ⟨⟨fd, F.ok sc_law (fun vs H Q E => by walk_at "ln") (fun cdv A outer s H vs Q E hr h => ⟨t_law K, PSs.nox (der_law T (has_law_bpool T) (has_law_start T) (has_law_mixed T) (has_law_below T) (has_is_signs T) (hask_is_signs T) (has_law_pick T) (has_law_copied T) (has_law_same T) hr), pure_law vs H Q E h⟩), F.bindsN fun _ _ _ _ _ _ us hl => match us, hl with | [_], _ => rfl⟩, F.kp, T.g 22⟩
def ls0 : List Str := ["is_sign", "is_signs", "_law_start", "_law_below", "_law_pick", "_law_mixed", "_law_copied", "_law_same", "_law_bpool"]
abbrev loose : List Str := ls0
abbrev R : PySem.W.OpenRow := PySem.W.OpenLaw.row PySem.Challenge.rw_primetexts_k01_signs_told_from_others
abbrev hk : PySem.W.Hook := He.hookD 4 fa fn
def ob (s : PySem.W.SharedT) : He.AlD := He.obsDG 4 fa fn (HandSHeadRun.getT s)
theorem ob_eq (s : PySem.W.SharedT) : ob s = hk.obs s.abs := He.obsDG_eq (HandSHeadRun.getT_eq s)
theorem run (w : World) : HandSHeadRun.RunEq R (PySem.W.view R.prog [11]) hk ob 4000 loose w := by
  intro os
  kernel_rfl
theorem facts {P : Program} {w : World} {K : PySem.W.Frag} {h : Heap} {mg : Str → Option Value} {f : Addr} (X : K.In h) (G : h.Ns mainGlobals mg) (hfa : mg ("law" : Str) = some (.ref f)) (c : He.SaysD fa fn K) :
    ∃ fd : FuncData, (∀ (s : Shared) (v : Value), BindsTo s fd ⟨[v], []⟩ [("script", v)]) ∧ ∀ base : Heap, K.In base → base.Ns mainGlobals mg → FnOk P w K mg base CX0 7 f fd ["script"] (sp_law K) := by
  obtain ⟨fd, F⟩ := c.def_ 9 (d := dd_law) rfl
  have T : Txt K mg := ⟨⟨h, X, G⟩, c⟩
  have e := hfa.symm.trans (T.g 22)
  cases e
  have b := FunD.bindsA (ps := ["script"]) F fun _ _ _ _ _ _ us hl => match us, hl with | [_], _ => rfl
  exact ⟨fd, fun s v => b s [v] rfl, fun base _ _ => F.ok sc_law (fun vs H Q E => by walk_at "ln") (fun cdv A outer s H vs Q E hr h => ⟨t_law K, PSs.nox (der_law T (has_law_bpool T) (has_law_start T) (has_law_mixed T) (has_law_below T) (has_is_signs T) (hask_is_signs T) (has_law_pick T) (has_law_copied T) (has_law_same T) hr), pure_law vs H Q E h⟩)⟩
end Pt
open PySem PySem.W PySem.Calls PyProof.Rows
theorem PySem.Challenge.cw_primetexts_k01_signs_told_from_others_holds : PySem.Challenge.rw_primetexts_k01_signs_told_from_others.Holds := by
  w_on; o_law
  refine HandSHeadRun.head_any (r := OpenLaw.row PySem.Challenge.rw_primetexts_k01_signs_told_from_others) (q := view (OpenLaw.row PySem.Challenge.rw_primetexts_k01_signs_told_from_others).prog [11]) (H := Pt.hk) (ob := Pt.ob) (M := 4000) (loose := Pt.loose) (d := HandSHeadRun.topDef (OpenLaw.row PySem.Challenge.rw_primetexts_k01_signs_told_from_others).prog 11) (kwd := []) Pt.ob_eq
    (by kernel_rfl) (fun s => by kernel_rfl) Pt.run (by kernel_rfl) (by kernel_rfl) (by kernel_rfl) (by rfl) (by first | assumption | decide +kernel) (by decide +kernel) ⟨rfl, rfl, rfl, rfl, rfl, by decide +kernel⟩ ?hw ?hc
  case hw => w_witness2
  case hc =>
    refine L2.walk_ofE (l := PySem.Challenge.rw_primetexts_k01_signs_told_from_others) (n := 63) (k := 7) (x := "script") (CX := L2.CX0) rfl (by decide) (by kernel_rfl) ⟨rfl, by decide, by decide⟩ ?F (fun _ _ _ _ z => z)
    intro w mg fa h Y G hmg0
    obtain ⟨K, KX, c⟩ := Y
    have hmg : mg ("law" : PySem.Str) = some (.ref fa) := by
      have e : (HandSHeadRun.topDef (OpenLaw.row PySem.Challenge.rw_primetexts_k01_signs_told_from_others).prog 11).name = ("law" : PySem.Str) := by kernel_rfl
      rw [← e]
      exact hmg0
    obtain ⟨fd, hb, hF⟩ := Pt.facts (P := (PySem.Challenge.rw_primetexts_k01_signs_told_from_others).prog) (w := w) KX G hmg c
    exact ⟨K, fd, Pt.sp_law K, KX, hb, fun H a ns hl _ hS => ⟨a, ns, rfl, hS, hl, fun _ => rfl⟩, hF⟩
