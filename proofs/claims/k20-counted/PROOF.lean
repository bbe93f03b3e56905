import PyProof.Rows.All
import Wide.All
import OpenK.AllK
import Wide.FinOn
import HandS.ForMost
import HandS.IsInst
import HandS.Style
import HandS.TupAny
import HandS.Deep
import HandS.Defaults
import HandS.Flow
import HandS.ListItems
import HandS.Walk
import HandS.Wide
import HandS.Conv
import HandS.DictComp
import HandS.HeadHook2
import KE.GoesEnum
import PyProof.Draws
import HandS.Zip
import HandS.TupLen
import HandS.Small
import KE.SortData
import KE.KDictSum
import KE.DataCmp
import HandS.DictTup
import HandS.SortRule
import HandS.MakeKw
import KE.KDictPairs
import KE.KRevSl
import HandS.Head0
import HandS.Head1
import HandS.Head2
import HandS.HeadEnd
import HandS.HeadHook1
import KE.DataFind
import KE.KDictWalk
import KE.KDictCopyH
import KE.KDictKeyed
import KE.SortKeyHeap
import HandS.SetKeys
import HandS.SortKw
import PySem.Challenge.RW_primetexts_k20_whole_counted
set_option Elab.async false
set_option linter.all false
set_option maxRecDepth 100000
set_option maxHeartbeats 2000000
namespace Pt
open PySem PySem.Spec PyProof.Rows L2
/-! ### enumerate(text) -/
def Ites (x : Str) : It := ⟨fun i _ => i < x.cps.size, fun i H v H' => ∃ T c, v = .ref T ∧ H T = none ∧ H' = upd H T (.tup [.int (i : Nat), .str ⟨#[c]⟩]) ∧ x.cps[i]? = some c, fun i _ => i = x.cps.size⟩
theorem turn_enumS {P : Program} {w : World} {K : PySem.W.Frag} {elts : List Expr} {kk : Nat} {tpos : Pos} (e it : Addr) (x : Str) (t : Tok) :
    Turn P w K (.Tuple elts kk tpos) (Ites x) [e, it] e (fun i h => (∃ old, IsEnum h e it ((i : Nat) : Int) old) ∧ h.IsStrIter it (strIterType x) x t i ∧ e ≠ it) where
  mem := by simp
  obj := fun i h st b hb => by
    obtain ⟨⟨old, he⟩, ⟨o, ho, hc, hd⟩, _⟩ := st
    have e' : b = e ∨ b = it := by simpa using hb
    rcases e' with z | z
    · rw [z]; exact ⟨_, he, fun v q => nomatch q⟩
    · rw [z]; exact ⟨o, ho, fun v q => by rw [hd] at q; cases q⟩
  keep := fun i h h' st k => let ⟨⟨old, he⟩, ⟨o, ho, r⟩, hne⟩ := st; ⟨⟨old, k e (by simp) _ he⟩, ⟨o, k it (by simp) o ho, r⟩, hne⟩
  item := by
    intro X hP hw hK hc i pins s σ H E I hf st hg
    subst hP hw hK
    obtain ⟨⟨old, he⟩, hit, hne⟩ := st
    have hel : e < s.heap.objs.size := Heap.lt_size he
    have hil : it < s.heap.objs.size := by obtain ⟨o, q, _⟩ := hit; exact Heap.lt_size q
    have hh : X.A.in1.handled = none := I.ok.hd hc
    refine wpAny_pyNext_enum_itemD (Draws.text (prog := X.prog) (w := X.w) hh it x t) he hit hg hne (by simpa using hne) fun u h' tk hu ho hit' hT hsz hk => ?_
    obtain ⟨c, tu, hcx, rfl⟩ := hu
    refine ⟨_, rfl, wpAny_letOwnedTupleGo_enum (s := { s with heap := h', toks := tk + 1 }) ho fun h'' he' sb => ?_⟩
    have hT2 := (sb.2 _ (Nat.ne_of_gt hel)).trans hT
    have new : ObjOk X.prog X.w (upd H s.heap.objs.size (.tup [.int (i : Nat), .str ⟨#[c]⟩])) h'' s.heap.objs.size (.tup [.int (i : Nat), .str ⟨#[c]⟩]) :=
      ⟨by show 2 ≤ sizeLine; decide, [.int i tk, .str ⟨#[c]⟩ tu], .cons ⟨_, rfl⟩ (.cons ⟨_, rfl⟩ .nil), ⟨_, hT2, rfl, _, rfl⟩⟩
    have I1 : Inv X pins σ (upd H s.heap.objs.size (.tup [.int (i : Nat), .str ⟨#[c]⟩])) { s with heap := h'', toks := tk + 1 } :=
      I.turnedNew (ch := [e, it]) (fun b ob hb q => (sb.2 b (fun z => hb (by simp [z]))).trans (hk b ob (fun z => hb (by simp [z])) (fun z => hb (by simp [z])) q)) hf (Nat.le_refl _) new
    refine ⟨.ref s.heap.objs.size, _, I1, rfl, ⟨_, c, rfl, I.hok.fresh (Nat.le_refl _), rfl, hcx⟩, ⟨⟨.str ⟨#[c]⟩ tu, ?_⟩, ?_, hne⟩, fun b hb => ?_⟩
    · have e1 : ((i + 1 : Nat) : Int) = (i : Int) + 1 := by omega
      rw [e1]; exact he'
    · obtain ⟨o, ho2, r⟩ := hit'
      exact ⟨o, (sb.2 it (Ne.symm hne)).trans ho2, r⟩
    · have hb' : b < s.heap.objs.size := by
        have e' : b = e ∨ b = it := by simpa using hb
        rcases e' with z | z
        · rw [z]; exact hel
        · rw [z]; exact hil
      rw [upd_ne (Nat.ne_of_lt hb')]
      exact (hf b hb).1
  done := by
    intro X hP hw hK hc i pins s σ H E I hf st hg
    subst hP hw hK
    obtain ⟨⟨old, he⟩, hit, hne⟩ := st
    obtain ⟨f0, f1, f2, f3, f4, f5⟩ := hf it (by simp)
    have hh : X.A.in1.handled = none := I.ok.hd hc
    have hle : i = x.cps.size := hg
    subst hle
    have D := Draws.text (prog := X.prog) (w := X.w) (A := X.A.in1) hh it x t
    exact wpAny_pyNext_enum_endD D he hit fun h' eb => ⟨rfl, I.turned (t' := s.toks) (fun b o hb q => eb b o hb q) f0 f1 f3 f4 f5⟩
  self := fun A i s Q E st h => let ⟨⟨_, he⟩, _⟩ := st; wpAny_pyIter_enum he h
def iEnumS (ta : TA) : TI := fun σ H R => ta σ H fun vs H1 => ∃ x, vs = [.str x] ∧ R (Ites x) H1
theorem pi_enumS {X : Cx} {e : Expr} {ta : TA} {p pos tpos : Pos} {elts : List Expr} {kk : Nat} (hg : Gl X "enumerate") (hm : X.mg "enumerate" = none) (ha : PA X [e] ta) (hs : starEach [e] X.env = [(false, eval e X.env)] := by rfl) :
    PI X (.Tuple elts kk tpos) (.Call (.Name "enumerate" p) [e] [] pos) (iEnumS ta) := by
  refine ⟨fun pins s σ H R I h => ?_⟩
  refine Call_ (ld_blt I hg hm boot_enumerate (PyProof.Rows.callWith_type1 (thn (ha.run pos pins s σ H _ I h) fun us s1 ⟨vs, H1, I1, r1, q1⟩ => ?_) hs rfl))
  obtain ⟨x, ex, q⟩ := q1
  subst ex
  cases r1 with
  | cons r rr =>
    cases rr
    obtain ⟨t, rfl⟩ := r
    refine call_enumerate_str fun h' he hit hsz hk => wpAny_pyIter_enum he ?_
    have I2 : Inv X pins σ H1 { s1 with heap := h' } := I1.kept (t' := s1.toks) hk
    refine ⟨s1.heap.objs.size + 1, [s1.heap.objs.size + 1, s1.heap.objs.size], _, _, H1, rfl, I2, turn_enumS (s1.heap.objs.size + 1) s1.heap.objs.size x t, ⟨⟨.none, he⟩, hit, Nat.succ_ne_self _⟩, fun b hb => ?_, q⟩
    have e' : b = s1.heap.objs.size + 1 ∨ b = s1.heap.objs.size := by simpa using hb
    have hle : s1.heap.objs.size ≤ b := by
      rcases e' with z | z
      · rw [z]; exact Nat.le_add_right _ _
      · rw [z]; exact Nat.le_refl _
    exact I1.fpOk hle (I1.hok.fresh hle)
theorem walk_enumS {x : Str} : Walk (Ites x) x.cps.size (fun _ => True) (fun i H v H' => ∃ T c, v = .ref T ∧ H T = none ∧ H' = upd H T (.tup [.int (i : Nat), .str ⟨#[c]⟩]) ∧ x.cps[i]? = some c) :=
  ⟨fun _ _ hi _ => hi, fun _ _ => rfl, fun _ _ _ _ _ _ y => y⟩
/-! ### alternatives -/
section
variable {X : Cx}
theorem PE.or {e : Expr} {t u : TE} (h : PE X e t) (k : PE X e u) : PE X e (fun σ H Q => t σ H Q ∨ u σ H Q) := ⟨fun pins s σ H Q I d => d.elim (h.run pins s σ H Q I) (k.run pins s σ H Q I)⟩
theorem PI.or {tg e : Expr} {t u : TI} (h : PI X tg e t) (k : PI X tg e u) : PI X tg e (fun σ H R => t σ H R ∨ u σ H R) := ⟨fun pins s σ H R I d => d.elim (h.run pins s σ H R I) (k.run pins s σ H R I)⟩
theorem PT.or {e : Expr} {t u : TT} (h : PT X e t) (k : PT X e u) : PT X e (fun σ H Q => t σ H Q ∨ u σ H Q) := ⟨fun pins s σ H Q I d => d.elim (h.run pins s σ H Q I) (k.run pins s σ H Q I)⟩
end
end Pt
namespace Pt
open PySem PySem.Spec PyProof.Rows L2
/-! ### list(text) -/
section
variable {P : Program} {w : World} {A : Around} {E : Value → Shared → Prop} {s : Shared} {x : Str} {t : Tok}
theorem ts_hint {Q : Bool → Shared → Prop} (q : Q false s) : wpAny (model P w) A (Builtin.List.listLengthHint (.str x t)) Q E s := by
  have ty := typeIs_str s x t
  unfold Builtin.List.listLengthHint
  refine wpAny_bind (wpAny_specialOf ty PySem.F.slot_str_len.lookup ?_)
  generalize nm : ("str.__len__" : String) = id0
  wp_delta
  rw [show splitId id0 = some ("str", "__len__") from by subst nm; decide +kernel]
  subst nm
  refine wpAny_bind (wpAny_isInstance (T := "str") (b := true) ty (by rw [isSubtype_type]; kernel_rfl) ?_)
  refine wpAny_ite_split (fun no => absurd no (by decide)) (fun _ => ?_)
  refine wpAny_ite_split (fun _ => ?_) (fun no => absurd (by decide +kernel) no)
  exact wpAny_bind (wpAny_typeOf ty (wpAny_pure q))
theorem ts_iter (hh : A.handled = none) (s : Shared) (x : Str) (t : Tok) : ∃ (oI : Obj) (St : Nat → Heap → Prop),
    (∀ (E : Value → Shared → Prop) (Q : Value → Shared → Prop), Q (.ref s.heap.objs.size) { s with heap := s.heap.push oI } → wpAny (model P w) A (pyIter (.str x t)) Q E s) ∧
    Walks P w A s.heap.objs.size [s.heap.objs.size] [s.heap.objs.size] x.cps.size (SignAt x) St ∧ St 0 (s.heap.push oI) := by
  cases ha : x.cps.all (· < 128)
  · exact ⟨_, _, fun _ _ q => wpAny_pyIter_wide ha q, Walks.strWide hh _ x t, ⟨_, Heap.get?_push_size _ rfl, rfl, rfl⟩⟩
  · exact ⟨_, _, fun _ _ q => wpAny_pyIter_ascii ha q, Walks.strAscii hh _ x t, ⟨_, Heap.get?_push_size _ rfl, rfl, rfl⟩⟩
theorem ts_extend {R : Result → Shared → Prop} (hh : A.handled = none) (l : Addr) (res : Value) (c₀ : Nat) (el : s.heap.get? l = some { cls := .type "list", data := .seq #[] c₀ })
    (out : ∀ h' tk acc' c', (∀ b o, b ≠ l → s.heap.get? b = some o → h'.get? b = some o) → h'.get? l = some { cls := .type "list", dict := none, data := .seq acc' c', slots := #[] } → ItemsOf (SignAt x) acc' x.cps.size → R (.ok (.ret res)) { s with heap := h', toks := tk }) (hn : x.cps.size ≤ sizeLine) :
    wpAny (model P w) A.in1 (Builtin.List.listExtendWith (.ref l) (.str x t) res)
      (fun fin s' => match fin with | .done f => R (.ok f) s' | .again c' => c'.quiet = true ∧ codeAny (model P w) A c' R s') (fun e s' => R (.error e) s') s := by
  have ne : l ≠ s.heap.objs.size := Nat.ne_of_lt (Heap.lt_size el)
  have nin : l ∉ [s.heap.objs.size] := by simpa using ne
  obtain ⟨oI, St, hit, W, st⟩ := ts_iter (P := P) (w := w) (A := A.in1) hh s x t
  have loop : ∀ (h : Heap) (c₁ tk : Nat), St 0 h → (∀ b o, b ≠ l → s.heap.get? b = some o → h.get? b = some o) →
      h.get? l = some { cls := .type "list", data := .seq #[] c₁ } → codeAny (model P w) A (.builtin "list.extend.loop" ⟨[.ref l, .ref s.heap.objs.size, res], []⟩) R { s with heap := h, toks := tk } := by
    intro h c₁ tk hst hk e1
    refine codeAny_extend_loopS W.toS hn l nin res x.cps.size 0 _ #[] c₁ rfl (Nat.zero_le _) hst e1 (ItemsOf.nil _) fun s' acc' c' mv e2 its => ?_
    rw [Moved.eq_with mv]
    refine out s'.heap s'.toks acc' c' (fun b o hb e => mv.heap b o (fun hm => ?_) (hk b o hb e)) e2 its
    rcases List.mem_cons.mp hm with e' | hm
    · exact hb e'
    · exact absurd (Heap.lt_size e) (by rw [List.mem_singleton.mp hm]; exact Nat.lt_irrefl _)
  unfold Builtin.List.listExtendWith
  refine wpAny_bind (wpAny_typeOf (T := "str") (typeIs_str s x t) ?_)
  have g1 : Builtin.List.listSameRef (.ref l) (.str x t) = false := rfl
  have g2 : (Value.type "str" == Value.type "list") = false := by decide
  have g3 : (Value.type "str" == Value.type "tuple") = false := by decide
  simp only [g1, g2, g3, Bool.or_false, Bool.false_eq_true, if_false]
  refine wpAny_bind (hit _ _ ?_)
  have e1 := Heap.get?_push_of_some oI el
  refine wpAny_bind (wpAny_holding (ts_hint ?_))
  refine wpAny_ite_split (fun _ => ?_) (fun _ => wpAny_pure ⟨plainId_quiet PySem.F.plain_extend_loop _, loop _ c₀ _ st (fun b o _ e => Heap.get?_push_of_some _ e) e1⟩)
  refine wpAny_bind (wpAny_rule (wpAny_bind ?_))
  show wpAny _ _ (updateSeq l (·.push .none) >>= fun _ => updateSeq l (·.pop)) _ _ _
  refine wpAny_bind (wpAny_updateSeq e1 rfl ?_)
  have e2 := Heap.get?_update_self (Obj.mapSeq (·.push Value.none)) e1 rfl
  refine wpAny_updateSeq (hz := by seq_fits) e2 rfl ?_
  have e3 := Heap.get?_update_self (Obj.mapSeq (·.pop)) e2 rfl
  refine wpAny_pure ⟨plainId_quiet PySem.F.plain_extend_loop _, loop _ _ _ ?_ (fun b o hb e => ?_) e3⟩
  · refine W.frame 0 _ _ st fun b hb o e => ?_
    have nb : l ≠ b := fun h => nin (h ▸ hb)
    exact (Heap.get?_update_other _ _ nb).trans ((Heap.get?_update_other _ _ nb).trans e)
  · exact (Heap.get?_update_other _ _ (Ne.symm hb)).trans ((Heap.get?_update_other _ _ (Ne.symm hb)).trans (Heap.get?_push_of_some _ e))
theorem ts_init {R : Result → Shared → Prop} (hh : A.handled = none) (l : Addr) (el : s.heap.get? l = some { cls := .type "list", data := .seq #[] })
    (out : ∀ h' tk acc' c', (∀ b o, b ≠ l → s.heap.get? b = some o → h'.get? b = some o) → h'.get? l = some { cls := .type "list", dict := none, data := .seq acc' c', slots := #[] } → ItemsOf (SignAt x) acc' x.cps.size → R (.ok (.ret .none)) { s with heap := h', toks := tk }) (hn : x.cps.size ≤ sizeLine) :
    wpAny (model P w) A.in1 (Builtin.«list.__init__» ⟨[.ref l, .str x t], []⟩)
      (fun fin s' => match fin with | .done f => R (.ok f) s' | .again c' => c'.quiet = true ∧ codeAny (model P w) A c' R s') (fun e s' => R (.error e) s') s := by
  show wpAny _ _ (do let was ← Builtin.List.listItems (.ref l); Builtin.List.listUpdate (.ref l) (fun _ => #[]); letGo was.toList.reverse; Builtin.List.listExtendWith (.ref l) (.str x t) .none) _ _ s
  refine wpAny_bind ?_
  unfold Builtin.List.listItems
  refine wpAny_bind (wpAny_seqItems el rfl (wpAny_pure ?_))
  show wpAny _ _ (updateSeq l (fun _ => #[]) >>= fun _ => letGo (#[] : Array Value).toList.reverse >>= fun _ => Builtin.List.listExtendWith (.ref l) (.str x t) .none) _ _ s
  refine wpAny_bind (wpAny_updateSeq el rfl ?_)
  have e2 := Heap.get?_update_self (Obj.mapSeq (fun _ => (#[] : Array Value))) el rfl
  refine wpAny_bind (wpAny_letGo ?_)
  refine ts_extend hh l .none _ e2 (fun h' tk acc' c' hk e3 its => ?_) hn
  exact out h' tk acc' c' (fun b o hb e => hk b o hb ((Heap.get?_update_other _ _ (Ne.symm hb)).trans e)) e3 its
theorem ts_call {Q : Value → Shared → Prop} (hh : A.handled = none) (hn : x.cps.size ≤ sizeLine)
    (out : ∀ h' tk acc' c', (∀ b o, s.heap.get? b = some o → h'.get? b = some o) → h'.get? s.heap.objs.size = some { cls := .type "list", dict := none, data := .seq acc' c', slots := #[] } → ItemsOf (SignAt x) acc' x.cps.size → Q (.ref s.heap.objs.size) { s with heap := h', toks := tk }) :
    wpAny (model P w) A (call (.type "list") [.str x t]) Q E s := by
  refine callType_codes (Q₁ := fun u z => u = .ref s.heap.objs.size ∧ z = { s with heap := s.heap.push { cls := .type "list", data := .seq #[] } }) PySem.F.called_list (PySem.F.typeCall_list_1 _) PySem.F.entry_list_init
    (code_list_new _ ⟨rfl, rfl⟩) fun u z hz => ?_
  obtain ⟨rfl, rfl⟩ := hz
  have el : (s.heap.push { cls := .type "list", data := .seq #[] }).get? s.heap.objs.size = some { cls := .type "list", data := .seq #[] } := Heap.get?_push_size _ rfl
  refine ⟨⟨_, el, rfl⟩, PySem.F.args_list_init_2 _ _, ts_init (A := A.in1) hh _ el (fun h' tk acc' c' hk e2 its => ?_) hn⟩
  exact ⟨rfl, out h' tk acc' c' (fun b o e => hk b o (Nat.ne_of_lt (Heap.lt_size e)) (Heap.get?_push_of_some _ e)) e2 its⟩
end
def sg (c : Nat) : V := .str ⟨#[c]⟩
section
variable {X : Cx}
def cListX : List V → Hp → VK → Prop := fun xs H Q => ∃ z : Str, xs = [.str z] ∧ z.cps.size ≤ sizeLine ∧ ∀ l, H l = none → Q (.ref l) (upd H l (.lst (z.cps.toList.map sg)))
theorem vals_signs {x : Str} : ∀ {us : List Value} {cs : List Nat} (k : Nat), us.length = cs.length → (∀ j v, us[j]? = some v → SignAt x (k + j) v) → (∀ j c, cs[j]? = some c → x.cps[k + j]? = some c) → Vals (cs.map sg) us
  | [], [], _, _, _, _ => .nil
  | [], c :: cs, _, h, _, _ => by cases h
  | u :: us, [], _, h, _, _ => by cases h
  | u :: us, c :: cs, k, h, h1, h2 => by
    refine .cons ?_ (vals_signs (x := x) (k + 1) (by simpa using h) (fun j v e => ?_) (fun j c e => ?_))
    · obtain ⟨c', tk, e1, rfl⟩ := h1 0 u rfl
      have e2 := h2 0 c rfl
      rw [e2] at e1
      cases e1
      exact ⟨_, rfl⟩
    · have := h1 (j + 1) v e
      rwa [show k + (j + 1) = k + 1 + j by omega] at this
    · have := h2 (j + 1) c e
      rwa [show k + (j + 1) = k + 1 + j by omega] at this
theorem call_list_text (hc : X.calm = true) : CallR X (.type "list") cListX := by
  intro pins s σ H xs us Q I r h
  obtain ⟨z, rfl, hz, q⟩ := h
  obtain ⟨u, rfl, rx⟩ := vals1 r
  obtain ⟨tk, rfl⟩ := rx
  have hh : X.A.handled = none := I.ok.hd hc
  refine ts_call hh hz fun h' tk acc' c' hk el its => ?_
  refine ⟨.ref s.heap.objs.size, _, I.laid (t' := tk) hk (Nat.le_refl _) (show ObjOk X.prog X.w _ h' _ (.lst (z.cps.toList.map sg)) from ⟨?_, acc'.toList, c', ?_, ?_⟩), rfl, q _ (I.hok.fresh (Nat.le_refl _))⟩
  · simpa using hz
  · refine vals_signs (x := z) 0 ?_ (fun j v e => ?_) (fun j c e => ?_)
    · have := its.1
      simpa using this
    · have := its.2 j v (by rw [← Array.getElem?_toList]; exact e)
      simpa using this
    · rw [Nat.zero_add, ← Array.getElem?_toList]
      exact e
  · exact el
end
end Pt
namespace Pt
open PySem PySem.Spec PyProof.Rows L2
/-! ### rules for whatever kinds -/
section
variable {X : Cx}
abbrev rInt (g : Int → Int → Int) : R2 := rI0 fun i j => .int (g i j)
def rAddS : R2 := fun x y H Q => ∃ i j, x = .str i ∧ y = .str j ∧ i.length + j.length ≤ sizeLine ∧ Q (.str (i ++ j)) H
def rPlus (K : PySem.W.Frag) : R2 := fun x y H Q => rI0 (fun i j => .int (i + j)) x y H Q ∨ rAddS x y H Q ∨ rCat x y H Q ∨ rCatA K x y H Q
theorem op_plus : OpR X (binaryOp .Add) (rPlus X.K) := op_add.or ((show OpR X (binaryOp .Add) rAddS from op_add_str).or (op_cat.or op_catA))
def rMinus : R2 := rI0 fun i j => .int (i - j)
theorem op_minus : OpR X (binaryOp .Sub) rMinus := op_sub
def rTimes : R2 := fun x y H Q => rI CMul (fun i j => .int (i * j)) x y H Q ∨ rI CMulW (fun i j => .int (i * j)) x y H Q ∨ rRep x y H Q
theorem op_times : OpR X (binaryOp .Mult) rTimes := op_mul.or (op_mulW.or op_rep)
def rMod : R2 := rI (fun _ j => 0 < j) fun i j => .int (i % j)
theorem op_modU : OpR X (binaryOp .Mod) rMod := op_mod
def rDiv : R2 := rI CDiv fun i j => .int (i / j)
theorem op_divU : OpR X (binaryOp .FloorDiv) rDiv := op_fdiv
def rPow : R2 := rI CPow fun i j => .int (i ^ j.toNat)
theorem op_powU : OpR X (binaryOp .Pow) rPow := op_pow
def rLtI : R2 := rI0 fun i j => .bl (decide (i < j))
def rLeI : R2 := rI0 fun i j => .bl (decide (i ≤ j))
def rGtI : R2 := rI0 fun i j => .bl (decide (j < i))
def rGeI : R2 := rI0 fun i j => .bl (decide (j ≤ i))
theorem op_ltI : OpR X (compareOp .Lt) rLtI := op_lt
theorem op_leI : OpR X (compareOp .LtE) rLeI := op_le
theorem op_gtI : OpR X (compareOp .Gt) rGtI := op_gt
theorem op_geI : OpR X (compareOp .GtE) rGeI := op_ge
def rEqU (K : PySem.W.Frag) : R2 := fun x y H Q => rEq x y H Q ∨ rEqD K x y H Q
theorem op_eqU (hu : X.A.units + 64 < cLine) : OpR X (compareOp .Eq) (rEqU X.K) := op_eq.or (op_eqD hu)
def rNeU (K : PySem.W.Frag) : R2 := fun x y H Q => rNe x y H Q ∨ rNeD K x y H Q
theorem op_neU (hu : X.A.units + 64 < cLine) : OpR X (compareOp .NotEq) (rNeU X.K) := op_ne.or (op_neD hu)
def rIsNon : R2 := fun x y H Q => y = .non ∧ Q (.bl (decide (x = .non))) H
def rNotNon : R2 := fun x y H Q => y = .non ∧ Q (.bl (!decide (x = .non))) H
def rIsU : R2 := fun x y H Q => rIsNon x y H Q ∨ rIsB x y H Q
theorem op_isU : OpR X (compareOp .Is) rIsU := (show OpR X (compareOp .Is) rIsNon from op_isN).or op_isBl
def rIsNotU : R2 := fun x y H Q => rNotNon x y H Q ∨ rNotB x y H Q
theorem op_isNotU : OpR X (compareOp .IsNot) rIsNotU := (show OpR X (compareOp .IsNot) rNotNon from op_notN).or op_notBl
def rInSg : R2 := fun x y H Q => ∃ (c : Nat) (z : Str), x = .str ⟨#[c]⟩ ∧ y = .str z ∧ Q (.bl (decide (c ∈ z.cps.toList))) H
def rNotInSg : R2 := fun x y H Q => ∃ (c : Nat) (z : Str), x = .str ⟨#[c]⟩ ∧ y = .str z ∧ Q (.bl (!decide (c ∈ z.cps.toList))) H
def rInDct : R2 := fun y x H Q => ∃ a o, x = .ref a ∧ DGet H a y o ∧ Q (.bl o.isSome) H
def rNotInDct : R2 := fun y x H Q => ∃ a o, x = .ref a ∧ DGet H a y o ∧ Q (.bl (!o.isSome)) H
theorem op_inDct (hu : X.A.units + 64 < cLine) : OpR X (compareOp .In) rInDct := by
  intro pins s σ H y x iv u Q I ry rx h
  obtain ⟨a, ov, ex, g, q⟩ := h
  subst ex
  obtain rfl : u = Value.ref a := rx
  exact d_in (by omega) I g ry fun s3 I3 => ⟨.bl ov.isSome, H, I3, rfl, q⟩
theorem op_notInDct (hu : X.A.units + 64 < cLine) : OpR X (compareOp .NotIn) rNotInDct := by
  intro pins s σ H y x iv u Q I ry rx h
  obtain ⟨a, ov, ex, g, q⟩ := h
  subst ex
  obtain rfl : u = Value.ref a := rx
  exact d_notIn (by omega) I g ry fun s3 I3 => ⟨.bl (!ov.isSome), H, I3, rfl, q⟩
def rInU (K : PySem.W.Frag) : R2 := fun x y H Q => rInSg x y H Q ∨ rInDct x y H Q ∨ rIn K false x y H Q
theorem op_inU (hu : X.A.units + 64 < cLine) : OpR X (compareOp .In) (rInU X.K) := (show OpR X (compareOp .In) rInSg from op_in_sign).or ((op_inDct hu).or op_in_seq)
def rNotInU (K : PySem.W.Frag) : R2 := fun x y H Q => rNotInSg x y H Q ∨ rNotInDct x y H Q ∨ rIn K true x y H Q
theorem op_notInU (hu : X.A.units + 64 < cLine) : OpR X (compareOp .NotIn) (rNotInU X.K) := (show OpR X (compareOp .NotIn) rNotInSg from op_notIn_sign).or ((op_notInDct hu).or op_notIn_seq)
def rIxDct : R2 := fun x y H Q => ∃ a v, x = .ref a ∧ DGet H a y (some v) ∧ Q v H
theorem ix_dct (hu : X.A.units + 64 < cLine) : IxR X rIxDct := by
  intro value slice pins s σ H x y v u Q I rx ry h hs
  obtain ⟨a, z, rfl, g, q⟩ := h
  obtain rfl : v = Value.ref a := rx
  have hT := dict_typeIs I g
  unfold subscriptTail
  refine wpAny_bind ?_
  rw [getitemInPython_of_ne hT.not_modules]
  refine wpAny_bind (wpAny_specialOf hT PySem.F.slot_dict_getitem.lookup ?_)
  have fin : wpAny (model X.prog X.w) X.A (subscripted slice false (.ref a) u) (fun r s₃ => wpAny (model X.prog X.w) X.A (letTemporaryGo value (.ref a) r >>= fun _ => pure r) (EP X pins σ Q) X.xe s₃) X.xe s := by
    rw [hs]
    exact wpAny_operating (wpAny_mono (d_getItem (by omega) I g ry fun w' s3 I3 rw' => (⟨z, H, I3, rw', q⟩ : EP X pins σ Q w' s3)) (fun r s₃ h₃ => wpAny_bind (wpAny_letTemporaryGo (wpAny_pure h₃))) fun _ _ x => x)
  first
    | exact wpAny_pure (wpAny_bind fin)
    | exact wpAny_bind (wpAny_pure (wpAny_bind fin))
    | exact wpAny_bind fin
def rIxU (K : PySem.W.Frag) : R2 := fun x y H Q => rIx K x y H Q ∨ rIxDct x y H Q
theorem ix_U (hu : X.A.units + 64 < cLine) : IxR X (rIxU X.K) := ix_seq.or (ix_dct hu)
abbrev TSl := V → Option Int → Option Int → Hp → VK → Prop
def rSlU (K : PySem.W.Frag) : TSl := fun x lo hi H Q => rSlL K x lo hi H Q ∨ rSlS x lo hi H Q ∨ rSlA K x lo hi H Q
theorem sl_U : SlR X (rSlU X.K) := sl_list.or (sl_str.or sl_tupA)
end
end Pt
namespace Pt
open PySem PySem.Spec PyProof.Rows L2
section
variable {X : Cx}
theorem PSet.or {t u : TSet} (h : PSet X t) (k : PSet X u) : PSet X (fun o i v H Q => t o i v H Q ∨ u o i v H Q) := fun pins s σ H o i v ov iv w Q I ro ri rv d => d.elim (h pins s σ H o i v ov iv w Q I ro ri rv) (k pins s σ H o i v ov iv w Q I ro ri rv)
def rSetU : TSet := fun o i v H Q => rSetL o i v H Q ∨ rSetD o i v H Q
theorem set_U (hu : X.A.units + 64 < cLine) : PSet X rSetU := PSet.or set_list (set_dict (by omega))
abbrev TC := List V → Hp → VK → Prop
def cLen (K : PySem.W.Frag) : TC := fun xs H Q => (∃ x n, xs = [x] ∧ LenV K x H n ∧ Q (.int n) H) ∨ (∃ a kvs, xs = [V.ref a] ∧ H a = some (.dK kvs) ∧ Q (.int kvs.length) H) ∨ rLenT xs H Q
theorem call_lenU : CallR X (.builtin "len") (cLen X.K) := call_len.or (call_lenD.or call_len_dT)
def cListS (K : PySem.W.Frag) : TC := fun xs H Q => ∃ p ys, xs = [.ref p] ∧ (SqL K H p ys ∨ SqT K H p ys) ∧ ∀ l, H l = none → Q (.ref l) (upd H l (.lst ys))
def cListD : TC := fun xs H Q => ∃ (a : Addr) (kvs : List (Key × V)), xs = [.ref a] ∧ Rd H a (.dK kvs) ∧ ∀ p, H p = none → Q (.ref p) (upd H p (.lst (kvs.map fun kv => kV kv.1)))
def cListT : TC := fun xs H Q => ∃ d kvs, xs = [V.ref d] ∧ Rd H d (.dT kvs) ∧ ∀ p bs, H p = none → IsKeys H kvs bs → Q (.ref p) (upd H p (.lst (bs.map V.ref)))
def cList (K : PySem.W.Frag) : TC := fun xs H Q => cListS K xs H Q ∨ cListD xs H Q ∨ cListT xs H Q ∨ cListX xs H Q
theorem call_listU (hc : X.calm = true) : CallR X (.type "list") (cList X.K) := (show CallR X (.type "list") (cListS X.K) from call_list_of).or ((show CallR X (.type "list") cListD from call_listD hc).or ((show CallR X (.type "list") cListT from call_list_dT hc).or (call_list_text hc)))
def cTuple (K : PySem.W.Frag) : TC := fun xs H Q => ∃ p ys, xs = [.ref p] ∧ ((SqL K H p ys ∧ ∀ l, H l = none → Q (.ref l) (upd H l (.tup ys))) ∨ (SqT K H p ys ∧ Q (.ref p) H))
theorem call_tupU : CallR X (.type "tuple") (cTuple X.K) := call_tuple_of
def cInt : TC := fun xs H Q => (∃ i, xs = [.int i] ∧ Q (.int i) H) ∨ ∃ k, xs = [.bl k] ∧ Q (.int (if k then 1 else 0)) H
theorem call_intU : CallR X (.type "int") cInt := call_int1
def cMax2 : TC := fun xs H Q => ∃ i j, xs = [.int i, .int j] ∧ Q (.int (if j > i then j else i)) H
def cMin2 : TC := fun xs H Q => ∃ i j, xs = [.int i, .int j] ∧ Q (.int (if j < i then j else i)) H
def cMax (K : PySem.W.Frag) : TC := fun xs H Q => cMax2 xs H Q ∨ rMax K xs H Q
def cMin (K : PySem.W.Frag) : TC := fun xs H Q => cMin2 xs H Q ∨ rMin K xs H Q
theorem call_maxU (hc : X.calm = true) : CallR X (.builtin "max") (cMax X.K) := (show CallR X (.builtin "max") cMax2 from call_max2 hc).or (cr_max hc)
theorem call_minU (hc : X.calm = true) : CallR X (.builtin "min") (cMin X.K) := (show CallR X (.builtin "min") cMin2 from call_min2 hc).or (cr_min hc)
def cIsi (K : PySem.W.Frag) : TC := fun xs H Q => rIsi K xs H Q ∨ rIsiT K xs H Q
theorem call_isiU : CallR X (.builtin "isinstance") (cIsi X.K) := call_isi.or call_isiT
def cOrd : TC := fun xs H Q => ∃ x, xs = [.str x] ∧ x.length = 1 ∧ Q (.int (x.cps.getD 0 0 : Nat)) H
theorem call_ordU : CallR X (.builtin "ord") cOrd := call_ord
def cDictP (K : PySem.W.Frag) : TC := fun xs H Q => ∃ (a : Addr) (ps : List Addr) (kvs : List (Key × V)), xs = [.ref a] ∧ SqL K H a (ps.map V.ref) ∧ Paired (fun p kv => SqT K H p [kV kv.1, kv.2]) ps kvs ∧ ∀ p, H p = none → Q (.ref p) (upd H p (.dK (mergeK [] kvs)))
def cDictD : TC := fun xs H Q => ∃ (a : Addr) (kvs : List (Key × V)), xs = [.ref a] ∧ Rd H a (.dK kvs) ∧ ∀ p, H p = none → Q (.ref p) (upd H p (.dK kvs))
def cDict (K : PySem.W.Frag) : TC := fun xs H Q => cDictP K xs H Q ∨ cDictD xs H Q
theorem call_dictU (hc : X.calm = true) : CallR X (.type "dict") (cDict X.K) := (show CallR X (.type "dict") (cDictP X.K) from call_dictP hc).or (show CallR X (.type "dict") cDictD from call_dictD)
/-! ### names -/
theorem pe_gi {x : Str} {pos : Pos} {i : Int} (hg : Gl X x) (h : ∃ t, X.mg x = some (.int i t)) (hd : (x == ("__debug__" : Str)) = false := by decide) : PE X (.Name x pos) (tC (.int i)) := by
  obtain ⟨t, h⟩ := h
  exact pe_glob hg h ⟨t, rfl⟩ hd
theorem pe_gs {x : Str} {pos : Pos} {z : Str} (hg : Gl X x) (h : ∃ t, X.mg x = some (.str z t)) (hd : (x == ("__debug__" : Str)) = false := by decide) : PE X (.Name x pos) (tC (.str z)) := by
  obtain ⟨t, h⟩ := h
  exact pe_glob hg h ⟨t, rfl⟩ hd
end
/-! ### own defs by name -/
structure Has (P : Program) (w : World) (K : PySem.W.Frag) (mg : Str → Option Value) (base : Heap) (x : Str) (ps : List Str) (k : Nat) (sp : Sp) : Prop where
  ex : ∃ fd, FnOk P w K mg base CX0 k (He.ga K x) fd ps sp ∧ Binds K fd ps []
  kp : PySem.W.keepIn K (.ref (He.ga K x)) = true
  gl : mg x = some (.ref (He.ga K x))
theorem Has.mono {P : Program} {w : World} {K : PySem.W.Frag} {mg : Str → Option Value} {base : Heap} {x : Str} {ps : List Str} {k k' : Nat} {sp : Sp} (h : Has P w K mg base x ps k sp) (hk : k ≤ k') : Has P w K mg base x ps k' sp := by
  obtain ⟨fd, F, b⟩ := h.ex
  exact ⟨⟨fd, F.mono hk, b⟩, h.kp, h.gl⟩
theorem Has.imp {P : Program} {w : World} {K : PySem.W.Frag} {mg : Str → Option Value} {base : Heap} {x : Str} {ps : List Str} {k : Nat} {sp sp' : Sp} (h : Has P w K mg base x ps k sp) (hs : ∀ vs H Q E, sp' vs H Q E → sp vs H Q E) : Has P w K mg base x ps k sp' := by
  obtain ⟨fd, F, b⟩ := h.ex
  exact ⟨⟨fd, F.imp hs, b⟩, h.kp, h.gl⟩
/-- f(e, ..) of an own def from which no exception leaves -/
def tOwn (sp : Sp) (t : TA) : TE := fun σ H Q => t σ H fun vs H1 => sp vs H1 Q E0
section
variable {X : Cx} {x : Str} {ps : List Str} {k k' : Nat} {sp : Sp} {p pos : Pos} {e : Expr} {es : List Expr} {t : TA}
theorem pe_own (h : Has X.prog X.w X.K X.mg X.base x ps k sp) (hr : Room k' X.A) (hk : k ≤ k') (hg : Gl X x) (ha : PA X (e :: es) t) (hdb : (x == ("__debug__" : Str)) = false := by decide)
    (he : starEach (e :: es) X.env = (false, eval e X.env) :: starEach es X.env := by rfl) (hpl : (backTo pos (starEach es X.env)).any (·.1) = false := by rfl) : PE X (.Call (.Name x p) (e :: es) [] pos) (tOwn sp t) := by
  obtain ⟨fd, F, b⟩ := h.ex
  have q := pe_call (p := p) (pos := pos) F (hr.mono hk) hg h.gl h.kp b .nil pass0 ha hdb he hpl
  refine ⟨fun pins s σ H Q I d => q.run pins s σ H Q I ?_⟩
  have e1 : tCall sp [] E0 t = tOwn sp t := by
    funext σ H Q
    unfold tCall tOwn
    simp only [List.append_nil]
  rw [e1]
  exact d
theorem pe_own0 (h : Has X.prog X.w X.K X.mg X.base x ps k sp) (hr : Room k' X.A) (hk : k ≤ k') (hg : Gl X x) (hdb : (x == ("__debug__" : Str)) = false := by decide) : PE X (.Call (.Name x p) [] [] pos) (tOwn sp tNil) := by
  obtain ⟨fd, F, b⟩ := h.ex
  have q := pe_call0 (p := p) (pos := pos) F (hr.mono hk) hg h.gl h.kp b .nil pass0 (hdb := hdb)
  refine ⟨fun pins s σ H Q I d => q.run pins s σ H Q I ?_⟩
  exact d
end
end Pt
namespace Pt
open PySem PySem.Spec PyProof.Rows L2
section
variable {X : Cx}
def mJoin (K : PySem.W.Frag) : V → List V → Hp → VK → Prop := fun x xs H Q => ∃ a p, ∃ ys : List Str, x = .str a ∧ xs = [.ref p] ∧ (SqL K H p (ys.map V.str) ∨ SqT K H p (ys.map V.str)) ∧ (ys.map (·.length)).sum + ys.length * a.length ≤ 16777216 ∧ Q (.str (Txt.join a ys)) H
theorem pe_joinU {o e : Expr} {to te : TE} {apos pos : Pos} (ho : PE X o to) (he : PE X e te) (hs : starEach [e] X.env = [(false, eval e X.env)] := by rfl) (hbase : attributeBase o "join" X.env (eval o X.env) = eval o X.env := by rfl) (hline : (apos.endLine == pos.line) = true := by rfl) :
    PE X (.Call (.Attribute o "join" apos) [e] [] pos) (tM1 (mJoin X.K) to te) := pe_join ho he hs hbase hline
/-- a test that is a value's truth -/
def tTru (K : PySem.W.Frag) (ta : TE) : TT := fun σ H Q => ta σ H fun x H' => ∃ k, TruV K x H' k ∧ Q k H'
theorem pt_truU {a : Expr} {ta : TE} (ha : PE X a ta) (he : ∀ whole, isTrue a X.env whole = (do let v ← whole; standAt a.pos; holding [v] (truthy v))) : PT X a (tTru X.K ta) := pt_truth ha he
def iSeq (K : PySem.W.Frag) (te : TE) : TI := fun σ H R => iList K te σ H R ∨ iTup K te σ H R ∨ iStr te σ H R
theorem pi_seq {tg e : Expr} {te : TE} (he : PE X e te) : PI X tg e (iSeq X.K te) := PI.or (pi_list he) (PI.or (pi_tup he) (pi_str he))
theorem hu64 {k : Nat} {A : Around} (hr : Room k A) : A.units + 1 < cLine := by have := hr.units; omega
end
/-- a def called by the names of all its parameters, in their order -/
structure HasK (P : Program) (w : World) (K : PySem.W.Frag) (mg : Str → Option Value) (base : Heap) (x : Str) (ps : List Str) (k : Nat) (sp : Sp) : Prop where
  ex : ∃ fd, FnOk P w K mg base CX0 k (He.ga K x) fd ps sp ∧ ∀ (s : Shared) (ws : List Value), ws.length = ps.length → BindsTo s fd ⟨[], ps.zip ws⟩ (ps.zip ws)
  kp : PySem.W.keepIn K (.ref (He.ga K x)) = true
  gl : mg x = some (.ref (He.ga K x))
section
variable {X : Cx} {x : Str} {ps : List Str} {k k' : Nat} {sp : Sp} {p pos : Pos} {kws : List Keyword} {t : TA}
theorem pe_ownK1 (h : HasK X.prog X.w X.K X.mg X.base x ps k sp) (hr : Room k' X.A) (hk : k ≤ k') (hg : Gl X x) (hkw : PK X kws t) (hall : (backToKw pos (keywordEach kws X.env)).all (·.1.isSome) = true := by rfl) (hks : (backToKw pos (keywordEach kws X.env)).filterMap (·.1) = ps := by rfl)
    (hdb : (x == ("__debug__" : Str)) = false := by decide) (hpl : ((backTo pos (starEach [] X.env)).any (·.1) || (backToKw pos (keywordEach kws X.env)).any (·.1.isNone)) = false := by rfl) : PE X (.Call (.Name x p) [] kws pos) (tOwn sp t) := by
  obtain ⟨fd, F, b⟩ := h.ex
  refine ⟨fun pins s σ H Q I d => ?_⟩
  refine wpAny_Call_Name_kw (ld_glob I hg h.gl ?_ hdb)
  refine PySem.W.callWith_KW0 (first := []) (h₀ := X.base) I.ok.mod.kin h.kp hall (thn (hkw.run pos pins s σ H _ I d) fun ws s2 ⟨zs, H2, I2, rz, q2⟩ => ⟨I2.kIn, ?_⟩) hpl
  rw [hks]
  have hl : ws.length = ps.length := by rw [← rz.length]; exact F.len _ _ _ _ q2
  refine wpAny_call (codeAny_mono (F.run X.A X.stack s2 H2 ⟨[], ps.zip ws⟩ ws zs Q E0 (hr.mono hk) I2.env0 (b s2 ws hl) rz q2) fun r s' hq => ?_)
  cases r with
  | error e => exact pass0 pins σ H2 s2 e s' I2 hq
  | ok fl =>
    cases fl with
    | ret u => exact I2.after hq
    | next => exact False.elim hq
    | brk => exact False.elim hq
    | cont => exact False.elim hq
end
end Pt
namespace Pt
open PySem PySem.Spec PyProof.Rows L2
/-! ### steps of a reading -/
section
variable {K : PySem.W.Frag} {σ : L2.St} {H : Hp} {D : Ends} {Q : VK} {v x y : V} {i j : Nat} {te ta tb tc to ti : TE} {t u : TS} {tt tu : TT} {as ar : TA} {g : TG} {gs : TGs}
theorem w_seq (h : t { D with nx := u D } σ H) : tSeq t u D σ H := h
theorem w_next (h : D.nx σ H) : tNext D σ H := h
theorem w_brk (h : D.bk σ H) : tBreak D σ H := h
theorem w_cont (h : D.ct σ H) : tCont D σ H := h
theorem w_ret (h : te σ H D.rt) : tRet te D σ H := h
theorem w_retN (h : D.rt .non H) : tRetN D σ H := h
theorem w_asg (h : te σ H fun x H1 => g x σ H1 D.nx) : tAsg te g D σ H := h
theorem w_drop (h : te σ H fun _ H1 => D.nx σ H1) : tDrop te D σ H := h
theorem w_if (h : tt σ H fun b H1 => if b = true then t D σ H1 else u D σ H1) : tIfS tt t u D σ H := h
theorem w_par (h : as σ H fun vs H1 => ∃ v w, vs = [v, w] ∧ D.nx ((σ.set i (some v)).set j (some w)) H1) : tPar i j as D σ H := h
theorem w_par3 {l : Nat} (h : as σ H fun vs H1 => ∃ u v w, vs = [u, v, w] ∧ D.nx (((σ.set i (some u)).set j (some v)).set l (some w)) H1) : tPar3 i j l as D σ H := h
theorem e_two {a b : V} {P : V → V → Prop} (h : P a b) : ∃ v w, [a, b] = [v, w] ∧ P v w := ⟨a, b, rfl, h⟩
theorem e_three {a b c : V} {P : V → V → V → Prop} (h : P a b c) : ∃ u v w, [a, b, c] = [u, v, w] ∧ P u v w := ⟨a, b, c, rfl, h⟩
theorem w_gn {R : L2.St → Hp → Prop} (h : R (σ.set i (some v)) H) : gName i v σ H R := h
theorem w_gsub {s : TSet} {R : L2.St → Hp → Prop} (h : to σ H fun o H1 => ti σ H1 fun i H2 => s o i v H2 fun H3 => R σ H3) : gSub to ti s v σ H R := h
theorem w_gtup {R : L2.St → Hp → Prop} {n : Nat} {a : Addr} {xs : List V} (hs : SqT K H a xs) (hn : xs.length = n) (h : gs xs σ H R) : gTup K n gs (.ref a) σ H R := ⟨a, xs, rfl, hs, hn, h⟩
theorem w_gcons {R : L2.St → Hp → Prop} {r : List V} (h : g v σ H fun σ' H' => gs r σ' H' R) : gCons g gs (v :: r) σ H R := ⟨v, r, rfl, h⟩
theorem w_gnil {R : L2.St → Hp → Prop} (h : R σ H) : gNil [] σ H R := ⟨rfl, h⟩
theorem w_var (h : σ[i]? = some (some v)) (q : Q v H) : tVar i σ H Q := ⟨v, h, q⟩
theorem w_c (q : Q v H) : tC v σ H Q := q
theorem w_op {r : R2} (h : ta σ H fun x H1 => tb σ H1 fun y H2 => r x y H2 Q) : tOp r ta tb σ H Q := h
theorem w_un {r : V → Hp → VK → Prop} (h : ta σ H fun x H1 => r x H1 Q) : tUn r ta σ H Q := h
theorem w_chain {r r' : R2} (h : ta σ H fun x H1 => tb σ H1 fun y H2 => r x y H2 fun z H3 => ∃ k, z = .bl k ∧ (if k = true then tc σ H3 fun w' H4 => r' y w' H4 Q else Q (.bl false) H3)) : tChain r r' ta tb tc σ H Q := h
theorem w_andT (h : ta σ H fun x H1 => ∃ k, TruV K x H1 k ∧ if k = true then tb σ H1 Q else Q x H1) : tAndT K ta tb σ H Q := h
theorem w_orT (h : ta σ H fun x H1 => ∃ k, TruV K x H1 k ∧ if k = true then Q x H1 else tb σ H1 Q) : tOrT K ta tb σ H Q := h
theorem w_notT (h : ta σ H fun x H1 => ∃ k, TruV K x H1 k ∧ Q (.bl (!k)) H1) : tNotT K ta σ H Q := h
theorem w_ifx (h : tt σ H fun c H1 => if c = true then ta σ H1 Q else tb σ H1 Q) : tIf tt ta tb σ H Q := h
theorem w_cb {r : TC} (h : as σ H fun vs H1 => r vs H1 Q) : tCB r as σ H Q := h
theorem w_own {sp : Sp} (h : as σ H fun vs H1 => sp vs H1 Q E0) : tOwn sp as σ H Q := h
theorem w_tup (h : as σ H fun xs H1 => xs.length ≤ sizeLine ∧ ∀ p, H1 p = none → Q (.ref p) (upd H1 p (.tup xs))) : tTup as σ H Q := h
theorem w_lst (h : as σ H fun xs H1 => xs.length ≤ sizeLine ∧ ∀ p, H1 p = none → Q (.ref p) (upd H1 p (.lst xs))) : tLst as σ H Q := h
theorem w_cons {R : List V → Hp → Prop} (h : ta σ H fun x H1 => ar σ H1 fun xs H2 => R (x :: xs) H2) : tCons ta ar σ H R := h
theorem w_nil {R : List V → Hp → Prop} (h : R [] H) : tNil σ H R := h
theorem w_bm {T : String} {r : V → List V → Hp → VK → Prop} (h : to σ H fun x H1 => tyV K T x H1 ∧ as σ H1 fun xs H2 => r x xs H2 Q) : tBM K T r to as σ H Q := h
theorem w_bm0 {T : String} {r : V → List V → Hp → VK → Prop} (h : to σ H fun x H1 => tyV K T x H1 ∧ r x [] H1 Q) : tBM0 K T r to σ H Q := h
theorem w_m1 {r : V → List V → Hp → VK → Prop} (h : to σ H fun x H1 => (∃ a, x = .str a) ∧ te σ H1 fun y H2 => r x [y] H2 Q) : tM1 r to te σ H Q := h
theorem w_part {R : Option Int → Hp → Prop} (h : te σ H fun x H1 => ∃ i, x = .int i ∧ R (some i) H1) : tPart te σ H R := h
theorem w_nopart {R : Option Int → Hp → Prop} (h : R none H) : tNoPart σ H R := h
theorem w_sl {r : TSl} {tl th : TO} (h : te σ H fun x H1 => tl σ H1 fun lo H2 => th σ H2 fun hi H3 => r x lo hi H3 Q) : tSl r te tl th σ H Q := h
theorem w_test {R : Bool → Hp → Prop} (h : te σ H fun x H' => ∃ k, x = .bl k ∧ R k H') : tTest te σ H R := h
theorem w_tru {R : Bool → Hp → Prop} (h : te σ H fun x H' => ∃ k, TruV K x H' k ∧ R k H') : tTru K te σ H R := h
theorem w_tnot {R : Bool → Hp → Prop} (h : tt σ H fun c H1 => R (!c) H1) : tNot tt σ H R := h
theorem w_tand {R : Bool → Hp → Prop} (h : tt σ H fun c H1 => if c = true then tu σ H1 R else R false H1) : tAnd tt tu σ H R := h
theorem w_tor {R : Bool → Hp → Prop} (h : tt σ H fun c H1 => if c = true then R true H1 else tu σ H1 R) : tOr tt tu σ H R := h
theorem w_yes {R : Bool → Hp → Prop} (h : R true H) : tYes σ H R := h
/-! ### values -/
theorem e_bl {b : Bool} {P : Bool → Prop} (h : P b) : ∃ k, V.bl b = .bl k ∧ P k := ⟨b, rfl, h⟩
theorem e_int {z : Int} {P : Int → Prop} (h : P z) : ∃ i, V.int z = .int i ∧ P i := ⟨z, rfl, h⟩
theorem e_str {z : Str} {P : Prop} (h : P) : (∃ a, V.str z = .str a) ∧ P := ⟨⟨z, rfl⟩, h⟩
theorem e_tb {b : Bool} {P : Bool → Prop} (h : P b) : ∃ k, TruV K (.bl b) H k ∧ P k := ⟨b, rfl, h⟩
theorem e_ti {z : Int} {P : Bool → Prop} (h : P (z != 0)) : ∃ k, TruV K (.int z) H k ∧ P k := ⟨_, rfl, h⟩
theorem e_tn {P : Bool → Prop} (h : P false) : ∃ k, TruV K .non H k ∧ P k := ⟨_, rfl, h⟩
theorem e_tl {a : Addr} {xs : List V} {P : Bool → Prop} (hs : SqL K H a xs) (h : P (!xs.isEmpty)) : ∃ k, TruV K (.ref a) H k ∧ P k := ⟨_, .inl ⟨xs, hs, rfl⟩, h⟩
theorem e_tt {a : Addr} {xs : List V} {P : Bool → Prop} (hs : SqT K H a xs) (h : P (!xs.isEmpty)) : ∃ k, TruV K (.ref a) H k ∧ P k := ⟨_, .inr (.inl ⟨xs, hs, rfl⟩), h⟩
theorem e_tyl {a : Addr} {xs : List V} {P : Prop} (hs : SqL K H a xs) (h : P) : tyV K "list" (.ref a) H ∧ P := ⟨.inl ⟨rfl, _, hs⟩, h⟩
theorem w_ite {b : Bool} {A B : Prop} (h1 : b = true → A) (h2 : b = false → B) : if b = true then A else B := by
  cases b with
  | true => rw [if_pos rfl]; exact h1 rfl
  | false => rw [if_neg Bool.false_ne_true]; exact h2 rfl
theorem w_iteT {b : Bool} {A B : Prop} (hb : b = true) (h : A) : if b = true then A else B := by rw [if_pos hb]; exact h
theorem w_iteF {b : Bool} {A B : Prop} (hb : b = false) (h : B) : if b = true then A else B := by rw [hb, if_neg Bool.false_ne_true]; exact h
/-! ### operators by values -/
theorem plus_i {a b : Int} (q : Q (.int (a + b)) H) : rPlus K (.int a) (.int b) H Q := .inl ⟨a, b, rfl, rfl, q⟩
theorem plus_s {a b : Str} (hl : a.length + b.length ≤ sizeLine) (q : Q (.str (a ++ b)) H) : rPlus K (.str a) (.str b) H Q := .inr (.inl ⟨a, b, rfl, rfl, hl, q⟩)
theorem plus_l {a b : Addr} {xs ys : List V} (ha : H a = some (.lst xs)) (hb : H b = some (.lst ys)) (hl : xs.length + ys.length ≤ sizeLine) (q : ∀ p, H p = none → Q (.ref p) (upd H p (.lst (xs ++ ys)))) : rPlus K (.ref a) (.ref b) H Q := .inr (.inr (.inl ⟨a, b, xs, ys, rfl, rfl, ha, hb, hl, q⟩))
theorem minus_i {a b : Int} (q : Q (.int (a - b)) H) : rMinus (.int a) (.int b) H Q := ⟨a, b, rfl, rfl, q⟩
theorem times_l {a b : Int} (h : -(2 ^ 64) < a ∧ a < 2 ^ 64) (q : Q (.int (a * b)) H) : rTimes (.int a) (.int b) H Q := .inl ⟨a, b, rfl, rfl, .inl h, q⟩
theorem times_r {a b : Int} (h : -(2 ^ 64) < b ∧ b < 2 ^ 64) (q : Q (.int (a * b)) H) : rTimes (.int a) (.int b) H Q := .inl ⟨a, b, rfl, rfl, .inr h, q⟩
theorem mod_i {a b : Int} (h : 0 < b) (q : Q (.int (a % b)) H) : rMod (.int a) (.int b) H Q := ⟨a, b, rfl, rfl, h, q⟩
theorem div_i {a b : Int} (h : 0 < b) (h2 : b < 1073741824) (q : Q (.int (a / b)) H) : rDiv (.int a) (.int b) H Q := ⟨a, b, rfl, rfl, ⟨h, h2⟩, q⟩
theorem pow_i {a b : Int} (h : 0 ≤ b) (h2 : b ≤ 1000000) (h3 : a.natAbs < 2 ^ 64) (q : Q (.int (a ^ b.toNat)) H) : rPow (.int a) (.int b) H Q := ⟨a, b, rfl, rfl, ⟨h, h2, h3⟩, q⟩
theorem lt_i {a b : Int} (q : Q (.bl (decide (a < b))) H) : rLtI (.int a) (.int b) H Q := ⟨a, b, rfl, rfl, q⟩
theorem le_i {a b : Int} (q : Q (.bl (decide (a ≤ b))) H) : rLeI (.int a) (.int b) H Q := ⟨a, b, rfl, rfl, q⟩
theorem gt_i {a b : Int} (q : Q (.bl (decide (b < a))) H) : rGtI (.int a) (.int b) H Q := ⟨a, b, rfl, rfl, q⟩
theorem ge_i {a b : Int} (q : Q (.bl (decide (b ≤ a))) H) : rGeI (.int a) (.int b) H Q := ⟨a, b, rfl, rfl, q⟩
theorem dec_i {a b : Int} : decide (V.int a = V.int b) = decide (a = b) := by simp
theorem dec_s {a b : Str} : decide (V.str a = V.str b) = decide (a = b) := by simp
theorem dec_b {a b : Bool} : decide (V.bl a = V.bl b) = decide (a = b) := by simp
theorem eq_i {a b : Int} (q : Q (.bl (decide (a = b))) H) : rEqU K (.int a) (.int b) H Q := .inl ⟨rfl, by rw [dec_i]; exact q⟩
theorem eq_s {a b : Str} (q : Q (.bl (decide (a = b))) H) : rEqU K (.str a) (.str b) H Q := .inl ⟨rfl, by rw [dec_s]; exact q⟩
theorem eq_b {a b : Bool} (q : Q (.bl (decide (a = b))) H) : rEqU K (.bl a) (.bl b) H Q := .inl ⟨rfl, by rw [dec_b]; exact q⟩
theorem ne_i {a b : Int} (q : Q (.bl (!decide (a = b))) H) : rNeU K (.int a) (.int b) H Q := .inl ⟨rfl, by rw [dec_i]; exact q⟩
theorem ne_s {a b : Str} (q : Q (.bl (!decide (a = b))) H) : rNeU K (.str a) (.str b) H Q := .inl ⟨rfl, by rw [dec_s]; exact q⟩
theorem ne_b {a b : Bool} (q : Q (.bl (!decide (a = b))) H) : rNeU K (.bl a) (.bl b) H Q := .inl ⟨rfl, by rw [dec_b]; exact q⟩
theorem eq_D {d e : PyData} (hx : Dp K H x d) (hy : Dp K H y e) (sd : SeqAt.shaped d = true) (se : SeqAt.shaped e = true) (q : Q (.bl (PyData.eqv d e)) H) : rEqU K x y H Q := .inr ⟨d, e, hx, hy, sd, se, q⟩
theorem ne_D {d e : PyData} (hx : Dp K H x d) (hy : Dp K H y e) (sd : SeqAt.shaped d = true) (se : SeqAt.shaped e = true) (q : Q (.bl (!PyData.eqv d e)) H) : rNeU K x y H Q := .inr ⟨d, e, hx, hy, sd, se, q⟩
theorem is_N {b : Bool} (hb : decide (x = .non) = b) (q : Q (.bl b) H) : rIsU x .non H Q := .inl ⟨rfl, by rw [hb]; exact q⟩
theorem isnt_N {b : Bool} (hb : decide (x = .non) = b) (q : Q (.bl (!b)) H) : rIsNotU x .non H Q := .inl ⟨rfl, by rw [hb]; exact q⟩
theorem is_b {a b : Bool} (q : Q (.bl (decide (a = b))) H) : rIsU (.bl a) (.bl b) H Q := .inr ⟨a, b, rfl, rfl, q⟩
theorem isnt_b {a b : Bool} (q : Q (.bl (!decide (a = b))) H) : rIsNotU (.bl a) (.bl b) H Q := .inr ⟨a, b, rfl, rfl, q⟩
theorem in_sg {c : Nat} {z : Str} (q : Q (.bl (decide (c ∈ z.cps.toList))) H) : rInU K (.str ⟨#[c]⟩) (.str z) H Q := .inl ⟨c, z, rfl, rfl, q⟩
theorem notin_sg {c : Nat} {z : Str} (q : Q (.bl (!decide (c ∈ z.cps.toList))) H) : rNotInU K (.str ⟨#[c]⟩) (.str z) H Q := .inl ⟨c, z, rfl, rfl, q⟩
theorem in_d {a : Addr} {o : Option V} (g : DGet H a x o) (q : Q (.bl o.isSome) H) : rInU K x (.ref a) H Q := .inr (.inl ⟨a, o, rfl, g, q⟩)
theorem notin_d {a : Addr} {o : Option V} (g : DGet H a x o) (q : Q (.bl (!o.isSome)) H) : rNotInU K x (.ref a) H Q := .inr (.inl ⟨a, o, rfl, g, q⟩)
theorem in_l {a : Addr} {xs : List V} (hs : SqL K H a xs ∨ SqT K H a xs) (hx : flatV x = true) (ha : xs.all flatV = true) (q : Q (.bl (inV x xs)) H) : rInU K x (.ref a) H Q := .inr (.inr ⟨a, xs, rfl, hs, hx, ha, q⟩)
theorem notin_l {a : Addr} {xs : List V} (hs : SqL K H a xs ∨ SqT K H a xs) (hx : flatV x = true) (ha : xs.all flatV = true) (q : Q (.bl (!inV x xs)) H) : rNotInU K x (.ref a) H Q := .inr (.inr ⟨a, xs, rfl, hs, hx, ha, q⟩)
theorem ix_l {p : Addr} {xs : List V} {z : Int} (hs : SqL K H p xs) (ha : atI xs z = some v) (q : Q v H) : rIxU K (.ref p) (.int z) H Q := .inl (.inl ⟨p, xs, z, v, rfl, rfl, hs, ha, q⟩)
theorem ix_t {p : Addr} {xs : List V} {z : Int} (hs : SqT K H p xs) (ha : atI xs z = some v) (q : Q v H) : rIxU K (.ref p) (.int z) H Q := .inl (.inr (.inl ⟨p, xs, z, v, rfl, rfl, hs, ha, q⟩))
theorem ix_s {z : Str} {k : Int} {c : Nat} (hl : z.length ≤ sizeLine) (ha : atI z.cps.toList k = some c) (q : Q (.str ⟨#[c]⟩) H) : rIxU K (.str z) (.int k) H Q := .inl (.inr (.inr ⟨z, k, c, rfl, rfl, hl, ha, q⟩))
theorem ix_d {p : Addr} (g : DGet H p y (some v)) (q : Q v H) : rIxU K (.ref p) y H Q := .inr ⟨p, v, rfl, g, q⟩
theorem sl_l {p : Addr} {xs : List V} {lo hi : Option Int} (hs : SqL K H p xs) (q : ∀ l, H l = none → Q (.ref l) (upd H l (.lst (cutV xs lo hi)))) : rSlU K (.ref p) lo hi H Q := .inl ⟨p, xs, rfl, hs, q⟩
theorem sl_s {z : Str} {lo hi : Option Int} (hl : z.length ≤ sizeLine) (q : Q (.str (cutS z lo hi)) H) : rSlU K (.str z) lo hi H Q := .inr (.inl ⟨z, rfl, hl, q⟩)
theorem set_l {p : Addr} {xs : List V} {z : Int} {k : Nat} {R : Hp → Prop} (h : H p = some (.lst xs)) (hk : ixN xs.length z = some k) (q : R (upd H p (.lst (xs.set k v)))) : rSetU (.ref p) (.int z) v H R := .inl ⟨p, xs, z, k, rfl, rfl, h, hk, q⟩
theorem set_d {p : Addr} {H' : Hp} {R : Hp → Prop} (g : DPut H p y v H') (q : R H') : rSetU (.ref p) y v H R := .inr ⟨p, H', rfl, g, q⟩
theorem len_l {p : Addr} {xs : List V} (hs : SqL K H p xs) (q : Q (.int xs.length) H) : cLen K [.ref p] H Q := .inl ⟨_, _, rfl, .inl ⟨xs, hs, rfl⟩, q⟩
theorem len_t {p : Addr} {xs : List V} (hs : SqT K H p xs) (q : Q (.int xs.length) H) : cLen K [.ref p] H Q := .inl ⟨_, _, rfl, .inr ⟨xs, hs, rfl⟩, q⟩
theorem len_s {z : Str} (hl : z.length ≤ sizeLine) (q : Q (.int z.length) H) : cLen K [.str z] H Q := .inl ⟨_, _, rfl, ⟨hl, rfl⟩, q⟩
theorem int_i {z : Int} (q : Q (.int z) H) : cInt [.int z] H Q := .inl ⟨z, rfl, q⟩
theorem int_b {b : Bool} (q : Q (.int (if b then 1 else 0)) H) : cInt [.bl b] H Q := .inr ⟨b, rfl, q⟩
theorem ord_1 {c : Nat} (q : Q (.int (c : Nat)) H) : cOrd [.str ⟨#[c]⟩] H Q := ⟨_, rfl, rfl, q⟩
theorem list_s {p : Addr} {xs : List V} (hs : SqL K H p xs ∨ SqT K H p xs) (q : ∀ l, H l = none → Q (.ref l) (upd H l (.lst xs))) : cList K [.ref p] H Q := .inl ⟨p, xs, rfl, hs, q⟩
theorem tuple_l {p : Addr} {xs : List V} (hs : SqL K H p xs) (q : ∀ l, H l = none → Q (.ref l) (upd H l (.tup xs))) : cTuple K [.ref p] H Q := ⟨p, xs, rfl, .inl ⟨hs, q⟩⟩
theorem tuple_t {p : Addr} {xs : List V} (hs : SqT K H p xs) (q : Q (.ref p) H) : cTuple K [.ref p] H Q := ⟨p, xs, rfl, .inr ⟨hs, q⟩⟩
theorem isi_1 {n : String} {t : Value} {b : Bool} (ty : TyX K H x t) (hb : PySem.W.kitOne K t (.type n) = some b) (q : Q (.bl b) H) : cIsi K [x, .ty n] H Q := .inl ⟨x, .ty n, t, .type n, b, rfl, .ty n, ty, hb, q⟩
end
/-! ### heaps -/
theorem lk_ne {H : Hp} {a p : Addr} {o u : HO} (h : a ≠ p) (e : H a = some u) : upd H p o a = some u := by rw [upd_ne h]; exact e
theorem Same.at {H H' : Hp} {a : Addr} {o : HO} (e : Same H H') (h : H a = some o) : H' a = some o := e a o h
/-- all but R stands as it stood; what is tracked stays tracked -/
structure Frm (R : List Addr) (H H' : Hp) : Prop where
  at_ : ∀ a o, a ∉ R → H a = some o → H' a = some o
  live : ∀ a, H a ≠ none → H' a ≠ none
theorem Frm.refl (R : List Addr) (H : Hp) : Frm R H H := ⟨fun _ _ _ h => h, fun _ h => h⟩
theorem Frm.trans {R : List Addr} {H H1 H2 : Hp} (a : Frm R H H1) (b : Frm R H1 H2) : Frm R H H2 := ⟨fun x o hx h => b.at_ x o hx (a.at_ x o hx h), fun x h => b.live x (a.live x h)⟩
theorem Same.live {H H' : Hp} (e : Same H H') (a : Addr) (h : H a ≠ none) : H' a ≠ none := fun z => by
  cases q : H a with
  | none => exact h q
  | some o => rw [e a o q] at z; cases z
theorem Same.frm {R : List Addr} {H H' : Hp} (a : Same H H') : Frm R H H' := ⟨fun x o _ h => a x o h, fun x h => Same.live a x h⟩
theorem Frm.same {H H' : Hp} (a : Frm [] H H') : Same H H' := fun x o h => a.at_ x o (by simp) h
theorem same_new {H : Hp} {p : Addr} {o : HO} (h : H p = none) : Same H (upd H p o) := fun b x e => by rw [upd_ne (ne_of_none e h)]; exact e
theorem frm_new {R : List Addr} {H : Hp} {p : Addr} {o : HO} (h : H p = none) : Frm R H (upd H p o) := Same.frm (same_new h)
theorem frm_upd {R : List Addr} {H : Hp} {p : Addr} {o : HO} (h : p ∈ R) : Frm R H (upd H p o) := ⟨fun b x hb e => by
  rw [upd_ne (fun z => hb (by rw [z]; exact h))]
  exact e, fun b hb => by
    by_cases q : b = p
    · rw [q, upd_same]; intro z; cases z
    · rw [upd_ne q]; exact hb⟩
theorem Frm.mono {R S : List Addr} {H H' : Hp} (a : Frm R H H') (h : ∀ x ∈ R, x ∈ S) : Frm S H H' := ⟨fun x o hx e => a.at_ x o (fun z => hx (h x z)) e, a.live⟩
theorem Frm.free {R : List Addr} {H H' : Hp} (a : Frm R H H') {p : Addr} (h : H' p = none) : H p = none := by
  cases q : H p with
  | none => rfl
  | some o => exact absurd h (a.live p (by rw [q]; intro z; cases z))
theorem same_free {H H' : Hp} (e : Same H H') {p : Addr} (h : H' p = none) : H p = none := (Same.frm (R := []) e).free h
section
variable {K : PySem.W.Frag} {G H H' : Hp}
theorem rd_same {a : Addr} {u : HO} (e : Same H H') (h : Rd H a u) : Rd H' a u := by
  rcases h with h | ⟨o, h⟩
  · exact .inl (e _ _ h)
  · exact .inr ⟨o, e _ _ h⟩
theorem sql_same {a : Addr} {xs : List V} (e : Same H H') (h : SqL K H a xs) : SqL K H' a xs := by
  rcases h with h | h
  · exact .inl (rd_same e h)
  · exact .inr h
theorem sqt_same {a : Addr} {xs : List V} (e : Same H H') (h : SqT K H a xs) : SqT K H' a xs := by
  rcases h with h | h
  · exact .inl (rd_same e h)
  · exact .inr h
theorem sql_of {a : Addr} {xs : List V} (h : H a = some (.lst xs)) : SqL K H a xs := .inl (.inl h)
theorem sqt_of {a : Addr} {xs : List V} (h : H a = some (.tup xs)) : SqT K H a xs := .inl (.inl h)
mutual
theorem dp_same (e : Same H H') : ∀ {d : PyData} {v : V}, Dp K H v d → Dp K H' v d
  | _, _, .non => .non
  | _, _, .bl b => .bl b
  | _, _, .int i => .int i
  | _, _, .str x => .str x
  | _, _, .lst s h => .lst (sql_same e s) (dpa_same e h)
  | _, _, .tup s h => .tup (sqt_same e s) (dpa_same e h)
theorem dpa_same (e : Same H H') : ∀ {ds : List PyData} {vs : List V}, DpAll K H vs ds → DpAll K H' vs ds
  | _, _, .nil => .nil
  | _, _, .cons h t => .cons (dp_same e h) (dpa_same e t)
end
end
end Pt
namespace Pt
open PySem PySem.Spec PyProof.Rows L2
/-! ### the heap without M -/
def hid (M : List Addr) (H : Hp) : Hp := fun a => if a ∈ M then none else H a
def InH (M : List Addr) (H : Hp) : Prop := ∀ a ∈ M, H a ≠ none
section
variable {M W : List Addr} {H H' H1 H2 : Hp} {a p : Addr} {o : HO}
theorem hid_at (h : a ∉ M) : hid M H a = H a := if_neg h
theorem hid_in (h : a ∈ M) : hid M H a = none := if_pos h
theorem hid_of (h : hid M H a = some o) : a ∉ M ∧ H a = some o := by
  by_cases q : a ∈ M
  · rw [hid_in q] at h; cases h
  · rw [hid_at q] at h; exact ⟨q, h⟩
theorem hid_nil : hid [] H = H := funext fun a => hid_at (by simp)
theorem hid_sub : Same (hid M H) H := fun a o h => (hid_of h).2
theorem hid_frm (f : Frm W H H') (h : ∀ x ∈ W, x ∈ M) : Same (hid M H) (hid M H') := fun a o e => by
  obtain ⟨q, e⟩ := hid_of e
  rw [hid_at q]
  exact f.at_ a o (fun z => q (h a z)) e
theorem hid_mono {N : List Addr} (h : ∀ x ∈ N, x ∈ M) : Same (hid M H) (hid N H) := fun a o e => by
  obtain ⟨q, e⟩ := hid_of e
  rw [hid_at (fun z => q (h a z))]
  exact e
theorem hid_same (e : Same H H') : Same (hid M H) (hid M H') := hid_frm (W := []) (Same.frm e) (by simp)
theorem hid_cons : Same (hid (p :: M) H) (hid M H) := fun a o e => by
  obtain ⟨q, e⟩ := hid_of e
  rw [hid_at (fun z => q (List.mem_cons_of_mem _ z))]
  exact e
theorem hid_add (hp : H p = none) (e : Same H H') : Same (hid M H) (hid (p :: M) H') := fun a o x => by
  obtain ⟨q, x⟩ := hid_of x
  have ne : a ≠ p := ne_of_none x hp
  rw [hid_at (by simp [ne, q])]
  exact e a o x
theorem hid_upd (h : p ∈ M) : Same (hid M H) (hid M (upd H p o)) := hid_frm (W := [p]) (frm_upd (by simp)) (by simpa using h)
theorem InH.nil : InH [] H := fun _ h => by cases h
theorem InH.frm (i : InH M H) (e : Frm W H H') : InH M H' := fun a h => e.live a (i a h)
theorem InH.same (i : InH M H) (e : Same H H') : InH M H' := fun a h => Same.live e a (i a h)
theorem InH.upd (i : InH M H) : InH M (upd H p o) := fun a h => by
  by_cases q : a = p
  · rw [q, upd_same]; intro z; cases z
  · rw [upd_ne q]; exact i a h
theorem InH.cons (i : InH M H) (h : H p ≠ none) : InH (p :: M) H := fun a z => by
  rcases List.mem_cons.mp z with e | e
  · rw [e]; exact h
  · exact i a e
theorem InH.ne (i : InH M H) (h : H p = none) : p ∉ M := fun z => i p z h
theorem InH.some (h : H p = some o) : H p ≠ none := by rw [h]; intro z; cases z
theorem Same.refl' (H : Hp) : Same H H := fun _ _ h => h
end
/-! ### comprehensions -/
/-- M hidden, W of it may be written; S over the heap, R over what is known -/
theorem lc_full {J : It} {n : Nat} {Gw : Hp → Prop} {Y : Nat → Hp → V → Hp → Prop} (w : Walk J n Gw Y) {g : TG} {tt : TT} {te : TE} {vs : List Nat} {σ : L2.St} {H1 : Hp} {Qd : Addr → Hp → Prop}
    (M W : List Addr) (S : Nat → List V → Hp → Prop) (R : Nat → List V → Hp → Prop) (hi : InH M H1) (hW : ∀ x ∈ W, x ∈ M)
    (hS : ∀ i acc H D xs, H1 D = none → S i acc H → S i acc (upd H D (.lst xs))) (h0 : S 0 [] H1) (r0 : ∀ G, Same (hid M H1) G → R 0 [] G) (hR : ∀ i acc G G', Same G G' → R i acc G → R i acc G')
    (hG : ∀ i acc H, i ≤ n → Frm W H1 H → S i acc H → Gw H) (hn : n ≤ sizeLine)
    (hs : ∀ D i acc x H H2 (Nx : Hp → Prop), H1 D = none → i < n → Frm W H1 H → Same (hid M H1) (hid (D :: M) H) → InH (D :: M) H → H D = some (.lst acc) → S i acc H → R i acc (hid (D :: M) H) → acc.length ≤ i → Y i H x H2 →
      (∀ y H5, Frm W H H5 → S (i + 1) (acc ++ [y]) H5 → R (i + 1) (acc ++ [y]) (hid (D :: M) H5) → ∃ acc', H5 D = some (.lst acc') ∧ acc'.length < sizeLine ∧ Nx (upd H5 D (.lst (acc' ++ [y])))) →
      (∀ H4, Frm W H H4 → S (i + 1) acc H4 → R (i + 1) acc (hid (D :: M) H4) → Nx H4) →
      g x (wipe σ vs) H2 fun σ2 H3 => wipe σ2 vs = wipe σ vs ∧ tt σ2 H3 fun b H4 => if b = true then te σ2 H4 fun y H5 => ∃ acc, H5 D = some (.lst acc) ∧ acc.length < sizeLine ∧ Nx (upd H5 D (.lst (acc ++ [y]))) else Nx H4)
    (hd : ∀ D acc H, H1 D = none → Frm W H1 H → InH (D :: M) H → Same (hid M H1) (hid (D :: M) H) → H D = some (.lst acc) → S n acc H → R n acc (hid (D :: M) H) → acc.length ≤ n → Qd D H) :
    ∀ D, H1 D = none → ∃ W : Nat → Nat → Hp → Prop, (∃ m, W 0 m (upd H1 D (.lst []))) ∧ ∀ i m H, W i m H →
      (J.stop i H ∧ Qd D H) ∨ (J.go i H ∧ ∃ Nx : Hp → Prop, (∀ H', Nx H' → ∃ m', m' < m ∧ W (i + 1) m' H') ∧ ∀ x H', J.yld i H x H' → g x (wipe σ vs) H' fun σ2 H2 => wipe σ2 vs = wipe σ vs ∧ tt σ2 H2 fun b H3 =>
        if b = true then te σ2 H3 fun y H4 => ∃ acc, H4 D = some (.lst acc) ∧ acc.length < sizeLine ∧ Nx (upd H4 D (.lst (acc ++ [y]))) else Nx H3) := by
  intro D hD
  have hDM : D ∉ M := hi.ne hD
  have hDW : D ∉ W := fun z => hDM (hW D z)
  have kn : ∀ {H : Hp}, Frm W H1 H → Same (hid M H1) (hid (D :: M) H) := fun {H} f a o e => by
    obtain ⟨q, e1⟩ := hid_of e
    have ne : a ≠ D := ne_of_none e1 hD
    rw [hid_at (by simp [ne, q])]
    exact f.at_ a o (fun z => q (hW a z)) e1
  refine lc_it w (fun i H => ∃ acc, Frm W H1 H ∧ InH (D :: M) H ∧ H D = some (.lst acc) ∧ S i acc H ∧ R i acc (hid (D :: M) H) ∧ acc.length ≤ i) ?_ ?_ ?_ ?_
  · have f0 : Frm W H1 (upd H1 D (.lst [])) := frm_new hD
    exact ⟨[], f0, (hi.same (same_new hD)).cons (InH.some upd_same), upd_same, hS 0 [] _ D [] hD h0, r0 _ (kn f0), Nat.le_refl _⟩
  · rintro i H hin ⟨acc, f, _, _, s, _⟩
    exact hG i acc H hin f s
  · rintro i x H H2 hlt ⟨acc, f, inn, hd', s, r, hl⟩ hy
    have back : ∀ {H5 : Hp}, Frm W H H5 → H5 D = some (.lst acc) := fun {H5} f5 => f5.at_ D _ hDW hd'
    refine hs D i acc x H H2 _ hD hlt f (kn f) inn hd' s r hl hy (fun y H5 f5 s5 r5 => ⟨acc, back f5, by omega, acc ++ [y], ?_, ?_, upd_same, hS _ _ _ D _ hD s5, ?_, by simp; omega⟩) (fun H4 f4 s4 r4 => ⟨acc, f.trans f4, ?_, back f4, s4, r4, by omega⟩)
    · exact ⟨fun a o ha e => by
        rw [upd_ne (ne_of_none e hD)]
        exact f5.at_ a o ha (f.at_ a o ha e), fun a ha => by
        have q := f5.live a (f.live a ha)
        by_cases z : a = D
        · rw [z, upd_same]; intro z; cases z
        · rw [upd_ne z]; exact q⟩
    · exact (inn.frm f5).upd
    · exact hR _ _ _ _ (hid_upd (by simp)) r5
    · exact inn.frm f4
  · rintro H ⟨acc, f, inn, hd', s, r, hl⟩
    exact hd D acc H hD f inn (kn f) hd' s r hl
def given (n : Nat) (f : Nat → Bool) (v : Nat → V) : List V := ((List.range n).filter f).map v
theorem given_yes {n : Nat} {f : Nat → Bool} {v : Nat → V} (h : f n = true) : given (n + 1) f v = given n f v ++ [v n] := by
  unfold given
  rw [List.range_succ, List.filter_append, List.map_append]
  simp [h]
theorem given_no {n : Nat} {f : Nat → Bool} {v : Nat → V} (h : f n = false) : given (n + 1) f v = given n f v := by
  unfold given
  rw [List.range_succ, List.filter_append, List.map_append]
  simp [h]
theorem given_all {α : Type} (l : List α) (u : α → V) (v : Nat → V) (h : ∀ i x, l[i]? = some x → v i = u x) : given l.length (fun _ => true) v = l.map u := by
  unfold given
  rw [List.filter_eq_self.mpr (fun _ _ => rfl)]
  apply List.ext_getElem?
  intro i
  rw [List.getElem?_map, List.getElem?_map]
  by_cases hi : i < l.length
  · rw [List.getElem?_range hi, List.getElem?_eq_getElem hi]
    exact congrArg some (h i _ (List.getElem?_eq_getElem hi))
  · rw [List.getElem?_eq_none (by simpa using hi), List.getElem?_eq_none (by simpa using hi)]
    rfl
/-- items and tests that are values at once -/
theorem lc_im {J : It} {n : Nat} {Gw : Hp → Prop} {Y : Nat → Hp → V → Hp → Prop} (w : Walk J n Gw Y) {g : TG} {tt : TT} {te : TE} {vs : List Nat} {σ : L2.St} {H1 : Hp} {Qd : Addr → Hp → Prop} (f : Nat → Bool) (v : Nat → V) (hn : n ≤ sizeLine)
    (hG : ∀ i H, i ≤ n → Same H1 H → Gw H)
    (hs : ∀ i x H H2 (KY : VK) (KN : Hp → Prop), i < n → Same H1 H → Y i H x H2 → (f i = true → ∀ H5, Same H H5 → KY (v i) H5) → (f i = false → ∀ H4, Same H H4 → KN H4) →
      g x (wipe σ vs) H2 fun σ2 H3 => wipe σ2 vs = wipe σ vs ∧ tt σ2 H3 fun b H4 => if b = true then te σ2 H4 KY else KN H4)
    (hd : ∀ D H, H1 D = none → Same H1 H → H D = some (.lst (given n f v)) → Qd D H) :
    ∀ D, H1 D = none → ∃ W : Nat → Nat → Hp → Prop, (∃ m, W 0 m (upd H1 D (.lst []))) ∧ ∀ i m H, W i m H →
      (J.stop i H ∧ Qd D H) ∨ (J.go i H ∧ ∃ Nx : Hp → Prop, (∀ H', Nx H' → ∃ m', m' < m ∧ W (i + 1) m' H') ∧ ∀ x H', J.yld i H x H' → g x (wipe σ vs) H' fun σ2 H2 => wipe σ2 vs = wipe σ vs ∧ tt σ2 H2 fun b H3 =>
        if b = true then te σ2 H3 fun y H4 => ∃ acc, H4 D = some (.lst acc) ∧ acc.length < sizeLine ∧ Nx (upd H4 D (.lst (acc ++ [y]))) else Nx H3) := by
  refine lc_full w [] [] (fun _ _ _ => True) (fun i acc _ => acc = given i f v) InH.nil (fun _ h => h) (fun _ _ _ _ _ _ _ => True.intro) True.intro (fun _ _ => rfl) (fun _ _ _ _ _ h => h) (fun i _ H hi fr _ => hG i H hi fr.same) hn ?_ ?_
  · intro D i acc x H H2 Nx hD hi fr kn inn hd' _ r _ hy kY kN
    refine hs i x H H2 _ _ hi fr.same hy (fun e H5 s5 => kY (v i) H5 (Same.frm s5) True.intro ?_) (fun e H4 s4 => kN H4 (Same.frm s4) True.intro ?_)
    · rw [r, given_yes e]
    · rw [r, given_no e]
  · intro D acc H hD fr inn kn hd' _ r _
    exact hd D H hD fr.same (by rw [← r]; exact hd')
/-- a comprehension that writes nothing but its list -/
theorem lc_pure {J : It} {n : Nat} {Gw : Hp → Prop} {Y : Nat → Hp → V → Hp → Prop} (w : Walk J n Gw Y) {g : TG} {tt : TT} {te : TE} {vs : List Nat} {σ : L2.St} {H1 : Hp} {Qd : Addr → Hp → Prop}
    (M : List Addr) (R : Nat → List V → Hp → Prop) (hi : InH M H1) (r0 : ∀ G, Same (hid M H1) G → R 0 [] G) (hR : ∀ i acc G G', Same G G' → R i acc G → R i acc G')
    (hG : ∀ H, Same H1 H → Gw H) (hn : n ≤ sizeLine)
    (hs : ∀ D i acc x H H2 (Nx : Hp → Prop), H1 D = none → i < n → Same H1 H → Same (hid M H1) (hid (D :: M) H) → InH (D :: M) H → H D = some (.lst acc) → R i acc (hid (D :: M) H) → Y i H x H2 →
      (∀ y H5, Same H H5 → R (i + 1) (acc ++ [y]) (hid (D :: M) H5) → ∃ acc', H5 D = some (.lst acc') ∧ acc'.length < sizeLine ∧ Nx (upd H5 D (.lst (acc' ++ [y])))) →
      (∀ H4, Same H H4 → R (i + 1) acc (hid (D :: M) H4) → Nx H4) →
      g x (wipe σ vs) H2 fun σ2 H3 => wipe σ2 vs = wipe σ vs ∧ tt σ2 H3 fun b H4 => if b = true then te σ2 H4 fun y H5 => ∃ acc, H5 D = some (.lst acc) ∧ acc.length < sizeLine ∧ Nx (upd H5 D (.lst (acc ++ [y]))) else Nx H4)
    (hd : ∀ D acc H, H1 D = none → Same H1 H → InH (D :: M) H → Same (hid M H1) (hid (D :: M) H) → H D = some (.lst acc) → R n acc (hid (D :: M) H) → acc.length ≤ n → Qd D H) :
    ∀ D, H1 D = none → ∃ W : Nat → Nat → Hp → Prop, (∃ m, W 0 m (upd H1 D (.lst []))) ∧ ∀ i m H, W i m H →
      (J.stop i H ∧ Qd D H) ∨ (J.go i H ∧ ∃ Nx : Hp → Prop, (∀ H', Nx H' → ∃ m', m' < m ∧ W (i + 1) m' H') ∧ ∀ x H', J.yld i H x H' → g x (wipe σ vs) H' fun σ2 H2 => wipe σ2 vs = wipe σ vs ∧ tt σ2 H2 fun b H3 =>
        if b = true then te σ2 H3 fun y H4 => ∃ acc, H4 D = some (.lst acc) ∧ acc.length < sizeLine ∧ Nx (upd H4 D (.lst (acc ++ [y]))) else Nx H3) :=
  lc_full w M [] (fun _ _ _ => True) R hi (fun _ h => by cases h) (fun _ _ _ _ _ _ _ => True.intro) True.intro r0 hR (fun _ _ H _ f _ => hG H f.same) hn
    (fun D i acc x H H2 Nx hD hi f kn inn hd' _ r _ hy kY kN => hs D i acc x H H2 Nx hD hi f.same kn inn hd' r hy (fun y H5 s5 r5 => kY y H5 (Same.frm s5) True.intro r5) (fun H4 s4 r4 => kN H4 (Same.frm s4) True.intro r4))
    (fun D acc H hD f inn kn hd' _ r hl => hd D acc H hD f.same inn kn hd' r hl)
/-! ### what is walked -/
section
variable {K : PySem.W.Frag} {σ : L2.St} {H : Hp} {Q : VK} {ta : TA} {te : TE} {R : It → Hp → Prop} {g : TG} {tt : TT} {wi : TI} {vs : List Nat} {D : Ends} {tb : TS}
theorem w_lc (h : wi σ H fun J H1 => ∀ D, H1 D = none → ∃ W : Nat → Nat → Hp → Prop, (∃ m, W 0 m (upd H1 D (.lst []))) ∧ ∀ i m H, W i m H →
  (J.stop i H ∧ Q (.ref D) H) ∨ (J.go i H ∧ ∃ Nx : Hp → Prop, (∀ H', Nx H' → ∃ m', m' < m ∧ W (i + 1) m' H') ∧ ∀ x H', J.yld i H x H' → g x (wipe σ vs) H' fun σ2 H2 => wipe σ2 vs = wipe σ vs ∧ tt σ2 H2 fun b H3 =>
    if b = true then te σ2 H3 fun y H4 => ∃ acc, H4 D = some (.lst acc) ∧ acc.length < sizeLine ∧ Nx (upd H4 D (.lst (acc ++ [y]))) else Nx H3)) : tLc wi g tt te vs σ H Q := h
theorem w_for (h : wi σ H fun J H1 => ∃ W : Nat → Nat → L2.St → Hp → Prop, (∃ m, W 0 m σ H1) ∧ ∀ i m σ H, W i m σ H →
  (J.stop i H ∧ D.nx σ H) ∨ (J.go i H ∧ ∃ N : L2.St → Hp → Prop, (∀ σ' H', N σ' H' → ∃ m', m' < m ∧ W (i + 1) m' σ' H') ∧ ∀ x H', J.yld i H x H' → g x σ H' fun σ2 H2 => tb { D with nx := N, ct := N, bk := D.nx } σ2 H2)) : tFor wi g tb D σ H := h
theorem w_ienumS (h : ta σ H fun vs H1 => ∃ x, vs = [.str x] ∧ R (Ites x) H1) : iEnumS ta σ H R := h
theorem w_ienum (h : ta σ H fun vs H1 => ∃ a xs, vs = [.ref a] ∧ SqL K H1 a xs ∧ R (Ite K a) H1) : iEnum K ta σ H R := h
theorem w_irng1 (h : ta σ H fun vs H1 => ∃ j : Int, vs = [.int j] ∧ -(2 ^ 62) ≤ j ∧ j < 2 ^ 62 ∧ R (Itr 0 j.toNat) H1) : iRng1 ta σ H R := h
theorem w_irng2 (h : ta σ H fun vs H1 => ∃ i j : Int, vs = [.int i, .int j] ∧ (-(2 ^ 62) ≤ i ∧ i < 2 ^ 62 ∧ -(2 ^ 62) ≤ j ∧ j < 2 ^ 62) ∧ R (Itr i (j - i).toNat) H1) : iRng2 ta σ H R := h
theorem w_ilist (h : te σ H fun x H1 => ∃ a, x = .ref a ∧ (∃ xs, SqL K H1 a xs) ∧ R (Itl K a) H1) : iList K te σ H R := h
theorem w_itup (h : te σ H fun x H1 => ∃ a, x = .ref a ∧ (∃ xs, SqT K H1 a xs) ∧ R (Itt K a) H1) : iTup K te σ H R := h
theorem w_istr (h : te σ H fun v H1 => ∃ x, v = .str x ∧ R (Its x) H1) : iStr te σ H R := h
theorem w_iseqL (h : te σ H fun x H1 => ∃ a, x = .ref a ∧ (∃ xs, SqL K H1 a xs) ∧ R (Itl K a) H1) : iSeq K te σ H R := .inl h
theorem w_iseqT (h : te σ H fun x H1 => ∃ a, x = .ref a ∧ (∃ xs, SqT K H1 a xs) ∧ R (Itt K a) H1) : iSeq K te σ H R := .inr (.inl h)
theorem w_iseqS (h : te σ H fun v H1 => ∃ x, v = .str x ∧ R (Its x) H1) : iSeq K te σ H R := .inr (.inr h)
theorem w_ikeys (h : te σ H fun x H1 => ∃ d o, x = .ref d ∧ ((∃ kvs, H1 d = some (.frz o (.dK kvs)) ∧ R (Itk d o kvs) H1) ∨ ∃ kvs, H1 d = some (.frz o (.dT kvs)) ∧ R (Itkt d o kvs) H1)) : iKeys te σ H R := h
theorem w_izip (h : ta σ H fun vs H1 => ∃ a b xs ys, vs = [.ref a, .ref b] ∧ ((SqL K H1 a xs ∧ SqL K H1 b ys ∧ R (Itz K a b) H1) ∨ (SqT K H1 a xs ∧ SqT K H1 b ys ∧ R (RZ.ItzT K a b) H1))) : RZ.iZipA K ta σ H R := h
theorem e_enumS {z : Str} {P : Str → Prop} (h : P z) : ∃ x, [V.str z] = [.str x] ∧ P x := ⟨z, rfl, h⟩
theorem e_rng {n : Int} {P : Int → Prop} (h1 : -(2 ^ 62) ≤ n) (h2 : n < 2 ^ 62) (h : P n) : ∃ j : Int, [V.int n] = [.int j] ∧ -(2 ^ 62) ≤ j ∧ j < 2 ^ 62 ∧ P j := ⟨n, rfl, h1, h2, h⟩
theorem e_ilist {a : Addr} {xs : List V} {P : Addr → Prop} (hs : SqL K H a xs) (h : P a) : ∃ b, V.ref a = .ref b ∧ (∃ xs, SqL K H b xs) ∧ P b := ⟨a, rfl, ⟨xs, hs⟩, h⟩
theorem e_itup {a : Addr} {xs : List V} {P : Addr → Prop} (hs : SqT K H a xs) (h : P a) : ∃ b, V.ref a = .ref b ∧ (∃ xs, SqT K H b xs) ∧ P b := ⟨a, rfl, ⟨xs, hs⟩, h⟩
theorem e_istr {z : Str} {P : Str → Prop} (h : P z) : ∃ x, V.str z = .str x ∧ P x := ⟨z, rfl, h⟩
theorem e_ienum {a : Addr} {xs : List V} {P : Addr → Prop} (hs : SqL K H a xs) (h : P a) : ∃ b xs, [V.ref a] = [.ref b] ∧ SqL K H b xs ∧ P b := ⟨a, xs, rfl, hs, h⟩
end
/-! ### data -/
def ShN (n : Nat) (d : PyData) : Prop := d.canLay0 = true ∧ d.depth ≤ n
theorem ShN.ok {n : Nat} {d : PyData} (h : ShN n d) (hn : n ≤ 64) : SeqAt.shaped d = true := by
  unfold SeqAt.shaped
  rw [h.1, decide_eq_true (Nat.le_trans h.2 hn)]
  rfl
theorem ShN.mono {n m : Nat} {d : PyData} (h : ShN n d) (hn : n ≤ m) : ShN m d := ⟨h.1, Nat.le_trans h.2 hn⟩
theorem canLayAll {ds : List PyData} (h : ∀ d ∈ ds, d.canLay0 = true) : PyData.canLayAll0 ds = true := by
  induction ds with
  | nil => rfl
  | cons d r ih =>
    show (d.canLay0 && PyData.canLayAll0 r) = true
    rw [h d (by simp), ih (fun x hx => h x (by simp [hx]))]
    rfl
theorem depthAll_le {n : Nat} : ∀ {ds : List PyData}, (∀ d ∈ ds, d.depth ≤ n) → PyData.depthAll ds ≤ n
  | [], _ => Nat.zero_le _
  | d :: r, h => by
    show max d.depth (PyData.depthAll r) ≤ n
    have h1 := h d (by simp)
    have h2 := depthAll_le (ds := r) fun x hx => h x (by simp [hx])
    omega
theorem sh_list {n : Nat} {ds : List PyData} (h : ∀ d ∈ ds, ShN n d) : ShN (n + 1) (.list ds) :=
  ⟨canLayAll fun d hd => (h d hd).1, Nat.succ_le_succ (depthAll_le fun d hd => (h d hd).2)⟩
theorem sh_tup {n : Nat} {ds : List PyData} (h : ∀ d ∈ ds, ShN n d) : ShN (n + 1) (.tuple ds) :=
  ⟨canLayAll fun d hd => (h d hd).1, Nat.succ_le_succ (depthAll_le fun d hd => (h d hd).2)⟩
theorem sh_int {i : Int} : ShN 0 (.int i) := ⟨rfl, Nat.le_refl _⟩
theorem sh_bool {b : Bool} : ShN 0 (.bool b) := ⟨rfl, Nat.le_refl _⟩
theorem sh_none : ShN 0 .none := ⟨rfl, Nat.le_refl _⟩
theorem sh_str {z : Str} (h : z.cps.all (· < 0x110000) = true) : ShN 0 (.str z) := ⟨h, Nat.le_refl _⟩
theorem dpa_map {K : PySem.W.Frag} {H : Hp} {α : Type} {u : α → V} {d : α → PyData} : ∀ {l : List α}, (∀ x ∈ l, Dp K H (u x) (d x)) → DpAll K H (l.map u) (l.map d)
  | [], _ => .nil
  | x :: r, h => .cons (h x (by simp)) (dpa_map fun y hy => h y (by simp [hy]))
theorem eqvAll_nil {ds : List PyData} : PyData.eqvAll ds [] = ds.isEmpty := by cases ds <;> rfl
end Pt
namespace Pt
open PySem PySem.Spec PyProof.Rows L2
abbrev cs (z : Str) : List Nat := z.cps.toList
def mkS (l : List Nat) : Str := ⟨l.toArray⟩
theorem cs_mk (l : List Nat) : cs (mkS l) = l := by simp [cs, mkS]
theorem mk_cs (z : Str) : mkS (cs z) = z := by simp [cs, mkS]
theorem str_ext {a b : Str} (h : cs a = cs b) : a = b := by rw [← mk_cs a, ← mk_cs b, h]
theorem len_cs (z : Str) : z.length = (cs z).length := by simp [cs, Str.length]
theorem len_mk (l : List Nat) : (mkS l).length = l.length := by rw [len_cs, cs_mk]
theorem cs_app (a b : Str) : cs (a ++ b) = cs a ++ cs b := by
  show (a.cps ++ b.cps).toList = _
  simp [cs]
theorem cutS_cs (z : Str) (lo hi : Option Int) : cs (cutS z lo hi) = ((cs z).drop (HT.sIx z.length 0 lo)).take (HT.sIx z.length z.length hi - HT.sIx z.length 0 lo) := by simp [cutS, cs]
theorem cutS_take {z : Str} {i : Nat} : cs (cutS z none (some (i : Int))) = (cs z).take i := by
  rw [cutS_cs, HT.sIx_none, HT.sIx_nat, List.drop_zero, Nat.sub_zero, len_cs]
  rw [List.take_eq_take_iff]
  omega
theorem cutS_drop {z : Str} {i : Nat} : cs (cutS z (some (i : Int)) none) = (cs z).drop i := by
  rw [cutS_cs, HT.sIx_none, HT.sIx_nat, len_cs]
  by_cases h : i ≤ (cs z).length
  · rw [Nat.min_eq_left h]
    exact List.take_of_length_le (by simp)
  · have h2 : (cs z).length ≤ i := by omega
    rw [Nat.min_eq_right h2, List.drop_of_length_le h2]
    simp
theorem nodup_take : ∀ {l : List Nat}, l.Nodup ↔ ∀ i, i < l.length → l.getD i 0 ∉ l.take i := by
  intro l
  rw [List.Nodup, List.pairwise_iff_getElem]
  constructor
  · intro h i hi hm
    obtain ⟨j, hj, e⟩ := List.mem_iff_getElem.mp hm
    rw [List.length_take] at hj
    rw [List.getElem_take] at e
    refine h j i (by omega) hi (by omega) ?_
    rw [e, List.getD_eq_getElem?_getD, List.getElem?_eq_getElem hi]
    rfl
  · intro h i j hi hj hij e
    refine h j hj ?_
    rw [List.getD_eq_getElem?_getD, List.getElem?_eq_getElem hj]
    show l[j] ∈ _
    rw [← e]
    exact List.mem_iff_getElem.mpr ⟨i, by rw [List.length_take]; omega, by rw [List.getElem_take]⟩
theorem given_empty {n : Nat} {f : Nat → Bool} {v : Nat → V} : (given n f v).isEmpty = true ↔ ∀ i, i < n → f i = false := by
  unfold given
  rw [List.isEmpty_map, List.isEmpty_iff, List.filter_eq_nil_iff]
  simp
theorem get_cps {z : Str} {i : Nat} {c : Nat} (h : z.cps[i]? = some c) : (cs z)[i]? = some c := by simpa using h
theorem perm_erase {α : Type} : ∀ {l : List α} {r : Nat} (h : r < l.length), (l[r] :: l.eraseIdx r).Perm l
  | x :: l, 0, _ => List.Perm.refl _
  | x :: l, r + 1, h => by
    have h2 : r < l.length := by simpa using h
    show (l[r] :: x :: l.eraseIdx r).Perm (x :: l)
    exact (List.Perm.swap _ _ _).trans ((perm_erase h2).cons x)
end Pt
namespace Pt
open PySem PySem.Spec PyProof.Rows L2 PySem.W
/-! ### sorted(..) of things that read as data -/
mutual
theorem reads_lt {h : Heap} : ∀ {v : Value} {d : PyData} {as : List Addr}, Reads h v d as → ∀ a ∈ as, a < h.objs.size
  | _, _, _, .none => fun a m => nomatch m
  | _, _, _, .bool _ => fun a m => nomatch m
  | _, _, _, .int _ _ => fun a m => nomatch m
  | _, _, _, .str _ _ => fun a m => nomatch m
  | _, _, _, .list e _ _ r => fun a m => by
    rcases List.mem_cons.mp m with z | z
    · rw [z]; exact Heap.lt_size e
    · exact readsAll_lt r a z
  | _, _, _, .tuple e _ _ r => fun a m => readsAll_lt r a m
  | _, _, _, .dict e _ _ r1 r2 => fun a m => by
    rcases List.mem_append.mp m with z | z
    · rcases List.mem_cons.mp z with z | z
      · rw [z]; exact Heap.lt_size e
      · exact readsAll_lt r1 a z
    · exact readsAll_lt r2 a z
theorem readsAll_lt {h : Heap} : ∀ {vs : List Value} {ds : List PyData} {as : List Addr}, ReadsAll h vs ds as → ∀ a ∈ as, a < h.objs.size
  | _, _, _, .nil => fun a m => nomatch m
  | _, _, _, .cons r1 r2 => fun a m => by
    rcases List.mem_append.mp m with z | z
    · exact reads_lt r1 a z
    · exact readsAll_lt r2 a z
end
theorem each_of {β : Type} {f : β → V} : ∀ {bs : List β} {us : List Value}, Vals (bs.map f) us → EachIs (fun u b => RelV (f b) u) us bs
  | [], _, r => by cases r; exact .nil
  | b :: bs, _, r => by
    cases r with
    | cons r1 r2 => exact .cons r1 (each_of r2)
theorem of_each {β : Type} {f : β → V} : ∀ {bs : List β} {us : List Value}, EachIs (fun u b => RelV (f b) u) us bs → Vals (bs.map f) us
  | _, _, .nil => .nil
  | _, _, .cons r1 r2 => .cons r1 (of_each r2)
theorem each_reads {β : Type} {X : Cx} {pins : List (Addr × Obj)} {σ : L2.St} {H : Hp} {s : Shared} (I : Inv X pins σ H s) {f : β → V} {enc : β → PyData} : ∀ {bs : List β} {us : List Value}, (∀ b ∈ bs, Dp X.K H (f b) (enc b)) → EachIs (fun u b => RelV (f b) u) us bs →
    EachIs (fun u b => ∃ as, Reads s.heap u (enc b) as ∧ ∀ a ∈ as, a < s.heap.objs.size) us bs
  | _, _, _, .nil => .nil
  | b :: bs, _, h, .cons r1 r2 => by
    obtain ⟨as, q⟩ := Dp.reads I (enc b) _ _ (h b (by simp)) r1
    exact .cons ⟨as, q, reads_lt q⟩ (each_reads I (fun c hc => h c (by simp [hc])) r2)
section
variable {X : Cx}
theorem sorted_by {β : Type} {f : β → V} {enc : β → PyData} {bs : List β} {pins : List (Addr × Obj)} {σ : L2.St} {H : Hp} {s : Shared} {Q : VK} {it : Value} (I : Inv X pins σ H s) (hu : X.A.units + 64 < cLine)
    (col : ∀ (R : List Value → Shared → Prop), (∀ (h' : Heap) (tk : Nat) (acc : List Value), (∀ b o, s.heap.get? b = some o → h'.get? b = some o) → Vals (bs.map f) acc → R acc { s with heap := h', toks := tk }) → wpAny (model X.prog X.w) X.A.in1 (collect it) R X.xe s)
    (dp : ∀ b ∈ bs, Dp X.K H (f b) (enc b)) (al : AllAlike (bs.map enc)) (so : Sortable (bs.map enc)) (hz : bs.length ≤ sizeLine) (dd : ∀ b ∈ bs, (enc b).depth ≤ 8)
    (q : ∀ p, H p = none → Q (.ref p) (upd H p (.lst ((bs.mergeSort (dataLe false enc)).map f)))) : wpAny (model X.prog X.w) X.A (call (.builtin "sorted") [it]) (EP X pins σ Q) X.xe s := by
  refine Calls.call_function_entry PyProof.Rows.kind_sorted PyProof.Rows.plain_sorted PyProof.Rows.entry_sorted (PyProof.Rows.args_sorted1 _) ?_
  unfold Builtin.«sorted»
  refine wpAny_bind (m := checkCount "sorted" 1 1 _) (wpAny_pure ?_)
  refine wpAny_bind (col _ fun h' tk acc hk rv => ?_)
  have hl : acc.length = bs.length := by
    have := rv.length
    rw [List.length_map] at this
    exact this.symm
  have I1 : Inv X pins σ H { s with heap := h', toks := tk } := I.kept hk
  refine wpAny_bind (wpAny_newList ?_ (by rw [hl]; exact hz))
  have el : (h'.push (seqObj "list" acc.toArray 0)).get? h'.objs.size = some (seqObj "list" acc.toArray 0) := Heap.get?_push_size _ rfl
  show wpAny _ _ _ _ _ { s with heap := h'.push (seqObj "list" acc.toArray 0), toks := tk }
  have ev := each_of rv
  have er := (each_reads I1 dp ev).mono fun u b ⟨as, r, lt⟩ => (⟨as, PyProof.Rows.Reads.keeps (fun b o e => Heap.get?_push_of_some (h := h') _ e) r, fun m => Nat.lt_irrefl _ (lt _ m)⟩ : ∃ as, Reads (h'.push (seqObj "list" acc.toArray 0)) u (enc b) as ∧ h'.objs.size ∉ as)
  refine wpAny_bind (wpAny_holding (list_sort_data (s := { s with heap := h'.push (seqObj "list" acc.toArray 0), toks := tk }) el ev er al so hz (fun b hb => ?_) fun out hlo ho => ?_))
  · have := dd b hb
    simp only [Around.in1_units]
    omega
  obtain ⟨ep, he⟩ := PyProof.Rows.sortedHeap_at (vs := acc) (out := List.toArray out) el
  refine wpAny_pure ⟨_, rfl, .ref h'.objs.size, upd H h'.objs.size (.lst ((bs.mergeSort (dataLe false enc)).map f)), I1.laid (t' := tk) (fun b u e => ?_) (Nat.le_refl _)
    (show ObjOk X.prog X.w _ _ _ (.lst ((bs.mergeSort (dataLe false enc)).map f)) from ⟨?_, out, ep, of_each ho, he⟩), rfl, q _ (I1.hok.fresh (Nat.le_refl _))⟩
  · have hb : b < h'.objs.size := Heap.lt_size e
    rw [PyProof.Rows.sortedHeap_old (Nat.ne_of_lt hb) (by rw [size_push']; exact Nat.lt_succ_of_lt hb)]
    exact Heap.get?_push_of_some _ e
  · rw [List.length_map, List.length_mergeSort]
    exact hz
end
/-! ### .. of a text's signs, of a list of signs -/
theorem sgE_le {a b : Nat} : dataLe false (fun c : Nat => PyData.str ⟨#[c]⟩) a b = decide (a ≤ b) := by
  rw [dataLe_str]
  show decide (([a] : List Nat) ≤ [b]) = decide (a ≤ b)
  rw [decide_eq_decide]
  constructor
  · intro h
    by_cases z : b < a
    · exact absurd (List.Lex.rel z) h
    · omega
  · intro h z
    cases z with
    | rel z => omega
    | cons z => cases z
theorem sg_sorted (l : List Nat) : (l.mergeSort (dataLe false (fun c : Nat => PyData.str ⟨#[c]⟩))).Pairwise (· ≤ ·) := by
  have h := List.pairwise_mergeSort (le := dataLe false (fun c : Nat => PyData.str ⟨#[c]⟩)) (fun a b c => by rw [sgE_le, sgE_le, sgE_le]; simp; omega) (fun a b => by rw [sgE_le, sgE_le]; simp; omega) l
  exact h.imp fun h => by rw [sgE_le] at h; exact of_decide_eq_true h
def SgsOf (K : PySem.W.Frag) (H : Hp) (x : V) (l : List Nat) : Prop := (∃ z : Str, x = .str z ∧ z.cps.toList = l) ∨ ∃ a, x = .ref a ∧ SqL K H a (l.map sg)
def cSrtX (K : PySem.W.Frag) : List V → Hp → VK → Prop := fun vs H Q => ∃ x l, vs = [x] ∧ SgsOf K H x l ∧ l.length ≤ sizeLine ∧ ∀ (l' : List Nat) p, l'.Perm l → l'.Pairwise (· ≤ ·) → H p = none → Q (.ref p) (upd H p (.lst (l'.map sg)))
theorem ts_collect {P : Program} {w : World} {A : Around} {E : Value → Shared → Prop} {s : Shared} {x : Str} {t : Tok} {R : List Value → Shared → Prop} (hh : A.handled = none) (hn : x.cps.size ≤ sizeLine)
    (q : ∀ h' tk (acc : Array Value), (∀ b o, s.heap.get? b = some o → h'.get? b = some o) → ItemsOf (SignAt x) acc x.cps.size → R acc.toList { s with heap := h', toks := tk }) : wpAny (model P w) A (collect (.str x t)) R E s := by
  unfold collect
  refine wpAny_bind (wpAny_runValue (codeAny_builtin entry_proto_collect' ?_))
  rw [Around.under_plainId PySem.F.plain_proto_collect _]
  show wpAny _ A.in1 (newList [] >>= fun l => again (.builtin "list.__iadd__" ⟨[l, .str x t], []⟩)) _ _ s
  refine wpAny_bind (wpAny_newObj_type ?_)
  refine wpAny_pure ⟨plainId_quiet PySem.F.plain_list_iadd _, codeAny_builtin entry_list_iadd' ?_⟩
  rw [Around.under_plainId PySem.F.plain_list_iadd _]
  have el : (s.heap.push { cls := .type "list", data := .seq ([] : List Value).toArray }).get? s.heap.objs.size = some { cls := .type "list", data := .seq #[] } := Heap.get?_push_size _ rfl
  show wpAny _ A.in1 (Builtin.List.listExtendWith (.ref s.heap.objs.size) (.str x t) (.ref s.heap.objs.size)) _ _ _
  have main := ts_extend (P := P) (w := w) (A := A) (x := x) (t := t) (s := { s with heap := s.heap.push { cls := .type "list", data := .seq ([] : List Value).toArray } })
    (R := fun (z : Result) (s' : Shared) => ∃ (h' : Heap) (tk : Nat) (acc : Array Value) (c : Nat), z = .ok (.ret (.ref s.heap.objs.size)) ∧ s' = { s with heap := h', toks := tk } ∧
      (∀ b o, s.heap.get? b = some o → h'.get? b = some o) ∧ h'.get? s.heap.objs.size = some { cls := .type "list", dict := none, data := .seq acc c, slots := #[] } ∧ ItemsOf (SignAt x) acc x.cps.size)
    hh s.heap.objs.size (.ref s.heap.objs.size) 0 el (fun h' tk acc c hk e its => ⟨h', tk, acc, c, rfl, rfl, fun b o z => hk b o (Nat.ne_of_lt (Heap.lt_size z)) (Heap.get?_push_of_some _ z), e, its⟩) hn
  refine wpAny_mono main (fun fin s' y => ?_) fun e s' y => ?_
  · cases fin with
    | done f =>
      obtain ⟨h', tk, acc, c, e, rfl, hk, e2, its⟩ := y
      cases e
      show wpAny _ A (load s.heap.objs.size >>= _) _ _ _
      exact wpAny_bind (wpAny_load e2 (wpAny_pure (q h' tk acc hk its)))
    | again c₁ =>
      refine ⟨y.1, codeAny_mono y.2 fun z s₂ y => ?_⟩
      obtain ⟨h', tk, acc, c, rfl, rfl, hk, e2, its⟩ := y
      show wpAny _ A (load s.heap.objs.size >>= _) _ _ _
      exact wpAny_bind (wpAny_load e2 (wpAny_pure (q h' tk acc hk its)))
  · obtain ⟨_, _, _, _, e', _⟩ := y
    cases e'
section
variable {X : Cx}
theorem cr_srtX (hc : X.calm = true) (hu : X.A.units + 64 < cLine) : CallR X (.builtin "sorted") (cSrtX X.K) := by
  intro pins s σ H vs us Q I r h
  obtain ⟨x, l, rfl, hx, hz, q⟩ := h
  obtain ⟨u, rfl, rx⟩ := vals1 r
  have hh : X.A.handled = none := I.ok.hd hc
  refine sorted_by (bs := l) (f := sg) (enc := fun c : Nat => PyData.str ⟨#[c]⟩) I hu ?_ (fun b _ => .str _) (AllAlike.of fun b b' => by simp [alike]) (Sortable.others fun b => ⟨fun z => (nomatch z), fun xs z => (nomatch z)⟩) hz (fun b _ => Nat.zero_le _) fun p hp => q _ p (List.mergeSort_perm _ _) (sg_sorted l) hp
  intro R k
  rcases hx with ⟨z, rfl, rfl⟩ | ⟨a, rfl, hs⟩
  · obtain ⟨t, rfl⟩ := rx
    refine ts_collect (A := X.A.in1) hh (by simpa using hz) fun h' tk acc hk its => k h' tk acc.toList hk ?_
    refine vals_signs (x := z) 0 ?_ (fun j v e => ?_) (fun j c e => ?_)
    · have := its.1
      simpa using this
    · have := its.2 j v (by rw [← Array.getElem?_toList]; exact e)
      simpa using this
    · rw [Nat.zero_add, ← Array.getElem?_toList]
      exact e
  · cases rx
    obtain ⟨its, rv, pl, hz2⟩ := I.list hs
    refine PyProof.Rows.collect_list pl.isList (k _ s.toks its (fun b o e => ?_) rv) (by rw [← rv.length]; exact hz2)
    rw [Heap.get?_update_ne _ _ _ _ (Nat.ne_of_lt (Heap.lt_size e))]
    exact Heap.get?_push_of_some _ e
/-! ### .. of a dict's keys, each an int and a text -/
def cSrtT : List V → Hp → VK → Prop := fun vs H Q => ∃ (d : Addr) (kvs : List (List L2.Key × V)), vs = [.ref d] ∧ Rd H d (.dT kvs) ∧ (∀ kv ∈ kvs, ∃ (i : Int) (z : Str), kv.1 = [.inl i, .inr z]) ∧
  ∀ (ks : List (List L2.Key)) (bs : List Addr) p, ks.Perm (kvs.map (·.1)) → Paired (fun k b => H b = some (.tup (k.map kV))) ks bs → H p = none → Q (.ref p) (upd H p (.lst (bs.map V.ref)))
def kD : L2.Key → PyData
  | .inl i => .int i
  | .inr z => .str z
theorem dp_key {K : PySem.W.Frag} {H : Hp} : ∀ k : List L2.Key, DpAll K H (k.map kV) (k.map kD)
  | [] => .nil
  | .inl i :: r => .cons (.int i) (dp_key r)
  | .inr z :: r => .cons (.str z) (dp_key r)
theorem paired_zip {α β : Type} {F : α → β → Prop} : ∀ {xs : List α} {ys : List β}, Paired F xs ys → ∀ p ∈ xs.zip ys, F p.1 p.2
  | _, _, .nil => fun p m => by cases m
  | _, _, .cons r t => fun p m => by
    rcases List.mem_cons.mp m with z | z
    · rw [z]; exact r
    · exact paired_zip t p z
theorem zip_paired {α β : Type} {F : α → β → Prop} : ∀ {l : List (α × β)}, (∀ p ∈ l, F p.1 p.2) → Paired F (l.map Prod.fst) (l.map Prod.snd)
  | [], _ => .nil
  | p :: r, h => .cons (h p (by simp)) (zip_paired fun q m => h q (by simp [m]))
theorem zip_fst {α β : Type} {F : α → β → Prop} : ∀ {xs : List α} {ys : List β}, Paired F xs ys → (xs.zip ys).map Prod.fst = xs ∧ (xs.zip ys).map Prod.snd = ys
  | _, _, .nil => ⟨rfl, rfl⟩
  | _, _, .cons r t => by
    obtain ⟨h1, h2⟩ := zip_fst t
    constructor
    · rw [List.zip_cons_cons, List.map_cons, h1]
    · rw [List.zip_cons_cons, List.map_cons, h2]
theorem paired_len {α β : Type} {F : α → β → Prop} : ∀ {xs : List α} {ys : List β}, Paired F xs ys → xs.length = ys.length
  | _, _, .nil => rfl
  | _, _, .cons _ t => congrArg Nat.succ (paired_len t)
theorem kt_keys {H : Hp} {kvs : List (List L2.Key × V)} {ks : List (List L2.Key × Addr × Value)} (r : KT H kvs ks) : ks.map (·.1) = kvs.map (·.1) := by
  induction r with
  | nil => rfl
  | cons h t ih => rw [List.map_cons, List.map_cons, ih, h.1]
theorem kt_at {H : Hp} {kvs : List (List L2.Key × V)} {ks : List (List L2.Key × Addr × Value)} (r : KT H kvs ks) : ∀ x ∈ ks, H x.2.1 = some (.tup (x.1.map kV)) := by
  induction r with
  | nil => exact fun x m => nomatch m
  | cons h t ih =>
    intro x m
    rcases List.mem_cons.mp m with z | z
    · rw [z, ← h.1]; exact h.2.1
    · exact ih x z
theorem cr_srtT (hc : X.calm = true) (hu : X.A.units + 64 < cLine) : CallR X (.builtin "sorted") cSrtT := by
  intro pins s σ H vs us Q I r h
  obtain ⟨d, kvs, rfl, hd, hk, q⟩ := h
  obtain ⟨u, rfl, rx⟩ := vals1 r
  cases rx
  have hh : X.A.handled = none := I.ok.hd hc
  obtain ⟨z, hs, ks, pr, o, es, ep, ho, hx, hdt, he, hn⟩ := (show ObjOk X.prog X.w H s.heap d (.dT kvs) from hd.ok I.hok)
  have l1 : es.size = ks.length := size_of_entries he
  have l2 : kvs.length = ks.length := Paired.length pr
  have ek := kt_keys pr
  have shape : ∀ x ∈ ks, ∃ (i : Int) (z : Str), x.1 = [.inl i, .inr z] := fun x m => by
    have m2 : x.1 ∈ kvs.map (·.1) := by rw [← ek]; exact List.mem_map.mpr ⟨x, m, rfl⟩
    obtain ⟨kv, m3, e3⟩ := List.mem_map.mp m2
    rw [← e3]
    exact hk kv m3
  refine sorted_by (bs := ks) (f := fun x => V.ref x.2.1) (enc := fun x => PyData.tuple (x.1.map kD)) I hu ?_ (fun b m => .tup (sqt_of (kt_at pr b m)) (dp_key _)) ?_ ?_ (by omega) ?_ fun p hp => ?_
  · intro R k
    refine kdu_collect (A := X.A.in1) (kdl_raw hs hx hdt) hh ho (by omega) fun h' tk acc hkp its => k h' tk acc.toList hkp ?_
    have ea : acc.toList = ks.map fun x => Value.ref x.2.1 := by
      have hl : acc.toList.length = ks.length := by rw [Array.length_toList, its.1]; exact l1
      apply List.ext_getElem?
      intro j
      rw [List.getElem?_map]
      cases hj : acc.toList[j]? with
      | none =>
        have h1 := List.getElem?_eq_none_iff.mp hj
        rw [List.getElem?_eq_none (by omega)]
        rfl
      | some v =>
        obtain ⟨en, hen, hv⟩ := its.2 j v (by rw [← Array.getElem?_toList]; exact hj)
        have qe := entry_at he j
        rw [hen] at qe
        cases hb : ks[j]? with
        | none =>
          rw [hb] at qe
          exact nomatch (show some en = none from qe)
        | some b =>
          rw [hb] at qe
          have e2 : en = entryOfKey (tupleKind (mixKind X.prog X.w)) b := Option.some.inj qe
          rw [hv, e2]
          rfl
    rw [ea, show (ks.map fun x => Value.ref x.2.1) = (ks.map fun x => x.2.1).map Value.ref by rw [List.map_map]; rfl, show (ks.map fun x => V.ref x.2.1) = (ks.map fun x => x.2.1).map V.ref by rw [List.map_map]; rfl]
    exact vals_refs _
  · intro a ha b hb
    obtain ⟨x, hx, rfl⟩ := List.mem_map.mp ha
    obtain ⟨y, hy, rfl⟩ := List.mem_map.mp hb
    obtain ⟨i, z, e⟩ := shape x hx
    obtain ⟨i', z', e'⟩ := shape y hy
    simp [e, e', kD, alike, alikeAll]
  · refine .inl fun a ha => ?_
    obtain ⟨x, hx, rfl⟩ := List.mem_map.mp ha
    obtain ⟨i, z, e⟩ := shape x hx
    exact ⟨.int i, [.str z], by rw [e]; rfl⟩
  · intro x hx
    obtain ⟨i, z, e⟩ := shape x hx
    rw [e]
    show 1 ≤ 8
    decide
  · have pm := List.mergeSort_perm ks (dataLe false (fun x => PyData.tuple (x.1.map kD)))
    generalize ks.mergeSort (dataLe false (fun x => PyData.tuple (x.1.map kD))) = out at pm
    have h2 := q (out.map (·.1)) (out.map fun x => x.2.1) p (by rw [← ek]; exact pm.map _) ?_ hp
    · rw [List.map_map] at h2
      exact h2
    · have h3 : ∀ x ∈ out, H x.2.1 = some (.tup (x.1.map kV)) := fun x m => kt_at pr x (pm.mem_iff.mp m)
      clear pm
      induction out with
      | nil => exact .nil
      | cons x r ih => exact .cons (h3 x (by simp)) (ih fun y m => h3 y (by simp [m]))
def cSorted (K : PySem.W.Frag) : List V → Hp → VK → Prop := fun vs H Q => cSrtX K vs H Q ∨ cSrtT vs H Q
theorem call_sortedU (hc : X.calm = true) (hu : X.A.units + 64 < cLine) : CallR X (.builtin "sorted") (cSorted X.K) := (cr_srtX hc hu).or (cr_srtT hc hu)
end
end Pt
namespace Pt
open PySem PySem.Spec PyProof.Rows L2
/-! ### for (..), row in d.items(): tuple keys -/
theorem frzT2 {X : Cx} {pins : List (Addr × Obj)} {σ : L2.St} {H : Hp} {s : Shared} {d : Addr} {o : Obj} {kvs : List (List L2.Key × V)} (I : L2.Inv X pins σ H s) (h : H d = some (.frz o (.dT kvs))) :
    (d == sysModules) = false ∧ ∃ (es : Array DictEntry) (ep : Nat), DT.Raw s.heap d es ep ∧ o.data = .dict es ep ∧ es.size = kvs.length ∧
      ∀ (i : Nat) (k : List L2.Key) (v : V), kvs[i]? = some (k, v) → ∃ (en : DictEntry) (q : Addr), es[i]? = some en ∧ en.key = .ref q ∧ H q = some (.tup (k.map kV)) ∧ L2.RelV v en.val := by
  obtain ⟨hd, z, hs, xs, pr, o', es, ep, ho, hx, hdt, he, _⟩ := I.hok d _ h
  rw [hd] at ho
  cases ho
  refine ⟨hs, es, ep, ⟨o, hd, hx, hdt⟩, hdt, ?_, fun i k v e => ?_⟩
  · have l1 : es.size = xs.length := size_of_entries he
    have l2 : kvs.length = xs.length := Paired.length pr
    omega
  · obtain ⟨b, hb, e1, e2, e3⟩ := paired_get pr e
    have q := entry_at he i
    rw [hb] at q
    exact ⟨_, b.2.1, q, rfl, e2, e3⟩
def Itx (d : Addr) (o : Obj) (kvs : List (List L2.Key × V)) : It :=
  ⟨fun i H => H d = some (.frz o (.dT kvs)) ∧ i < kvs.length, fun i H x H' => ∃ (T : Addr) (k : List L2.Key) (v : V) (q : Addr), kvs[i]? = some (k, v) ∧ x = .ref T ∧ H T = none ∧ H' = upd H T (.tup [.ref q, v]) ∧ H q = some (.tup (k.map kV)),
    fun i H => H d = some (.frz o (.dT kvs)) ∧ kvs.length ≤ i⟩
theorem turn_itx {P : Program} {w : World} {K : PySem.W.Frag} {d : Addr} {o : Obj} {es : Array DictEntry} {ep : Nat} {kvs : List (List L2.Key × V)} {elts : List Expr} {kk : Nat} {tpos : Pos} (it : Addr) (hod : o.data = .dict es ep) :
    Turn P w K (.Tuple elts kk tpos) (Itx d o kvs) [it] it (fun i h => ∃ ok ov, IsItemIter h it d i kvs.length ep ok ov) where
  mem := by simp
  obj := fun i h st b hb => by
    have e : b = it := by simpa using hb
    obtain ⟨ok, ov, z⟩ := st
    rw [e]
    exact ⟨_, z, fun v z => nomatch z⟩
  keep := fun i h h' st k => let ⟨ok, ov, e⟩ := st; ⟨ok, ov, k it (by simp) _ e⟩
  item := by
    intro X hP hw hK hc i pins s σ H E I hf st hg
    subst hP hw hK
    obtain ⟨hd, hi⟩ := hg
    obtain ⟨hs, es', ep', raw, hdt, hsz, ent⟩ := frzT2 I hd
    obtain ⟨rfl, rfl⟩ := dict_ep hod hdt
    obtain ⟨⟨k, v⟩, hkv⟩ : ∃ p, kvs[i]? = some p := ⟨kvs[i], List.getElem?_eq_getElem hi⟩
    obtain ⟨en, q, hen, hkey, hq, ru⟩ := ent i k v hkv
    obtain ⟨ok, ov, he⟩ := st
    rw [← hsz] at he
    have hlt : it < s.heap.objs.size := Heap.lt_size he
    have hi2 : i < es'.size := by omega
    have een : es'[i] = en := by
      rw [Array.getElem?_eq_getElem hi2] at hen
      exact Option.some.inj hen
    refine DT.nextI he raw hi2 fun h' ho hT hz hk => ?_
    rw [een] at ho hT
    refine ⟨_, rfl, wpAny_letOwnedTupleGo_items (s := { s with heap := h' }) ho fun h'' he' sb => ?_⟩
    have hT2 : h''.get? s.heap.objs.size = some { cls := .type "tuple", data := .seq #[en.key, en.val] } := (sb.2 _ (Nat.ne_of_gt hlt)).trans hT
    have new : ObjOk X.prog X.w (upd H s.heap.objs.size (.tup [.ref q, v])) h'' s.heap.objs.size (.tup [.ref q, v]) :=
      ⟨by show 2 ≤ sizeLine; decide, [en.key, en.val], .cons hkey (.cons ru .nil), ⟨_, hT2, rfl, _, rfl⟩⟩
    have I1 : L2.Inv X pins σ (upd H s.heap.objs.size (.tup [.ref q, v])) { s with heap := h'' } :=
      I.turnedNew (t' := s.toks) (ch := [it]) (fun b ob hb e => (sb.2 b (by simpa using hb)).trans (hk b ob (by simpa using hb) e)) hf (Nat.le_refl _) new
    refine ⟨.ref s.heap.objs.size, _, I1, rfl, ⟨_, k, v, q, hkv, rfl, I.hok.fresh (Nat.le_refl _), rfl, hq⟩, ⟨en.key, en.val, ?_⟩, fun b hb => ?_⟩
    · rw [← hsz]; exact he'
    · have e : b = it := by simpa using hb
      rw [e, upd_ne (Nat.ne_of_lt hlt)]
      exact (hf it (by simp)).1
  done := by
    intro X hP hw hK hc i pins s σ H E I hf st hg
    subst hP hw hK
    obtain ⟨hd, hi⟩ := hg
    obtain ⟨f0, f1, f2, f3, f4, f5⟩ := hf it (by simp)
    obtain ⟨hs, es', ep', raw, hdt, hsz, ent⟩ := frzT2 I hd
    obtain ⟨rfl, rfl⟩ := dict_ep hod hdt
    obtain ⟨ok, ov, he⟩ := st
    rw [← hsz] at he
    exact DT.endI (I.ok.hd hc) he raw (by omega) fun h' eb => ⟨rfl, I.turned (t' := s.toks) (fun b ob hb e => eb b ob hb e) f0 f1 f3 f4 f5⟩
  self := fun A i s Q E st h => let ⟨_, _, e⟩ := st; PySem.W.kcp_self e h
def iItx (td : TE) : TI := fun σ H R => td σ H fun x H1 => ∃ d o kvs, x = .ref d ∧ H1 d = some (.frz o (.dT kvs)) ∧ R (Itx d o kvs) H1
section
variable {X : Cx} {e : Expr} {td : TE} {apos cpos : Pos}
theorem pi_itx {elts : List Expr} {kk : Nat} {tpos : Pos} (he : PE X e td) (hbase : attributeBase e "items" X.env (eval e X.env) = eval e X.env := by rfl) (hline : (apos.endLine == cpos.line) = true := by rfl) :
    PI X (.Tuple elts kk tpos) (.Call (.Attribute e "items" apos) [] [] cpos) (iItx td) := by
  refine ⟨fun pins s σ H R I h => ?_⟩
  refine wpAny_Call_method (T := "dict") (id := "dict.items") hbase rfl hline PySem.F.plainAttrs_dict PySem.F.slot_dict_items PySem.F.type_dict_items (thn (he.run pins s σ H _ I h) fun u s1 ⟨x, H1, I1, rx, d, o, kvs, ex, hd, q⟩ => ?_)
  subst ex
  obtain rfl : u = Value.ref d := rx
  obtain ⟨hs, es, ep, raw, hdt, hsz, ent⟩ := frzT2 I1 hd
  refine ⟨raw.typeIs, fun b eb => ?_, ?_⟩
  · cases eb
    obtain ⟨o1, h1, h2, h3⟩ := raw
    exact ⟨o1, h1, h2.2.1⟩
  have I2 : L2.Inv X pins σ H1 { s1 with heap := s1.heap.push { cls := .type "dict_items", data := .fields #[.ref d] } } := I1.kept (t' := s1.toks) fun b ob q => Heap.get?_push_of_some _ q
  have fin : wpAny (model X.prog X.w) X.A (pyIter (.ref s1.heap.objs.size)) (PIE X pins σ (.Tuple elts kk tpos) R) X.xe { s1 with heap := s1.heap.push { cls := .type "dict_items", data := .fields #[.ref d] } } := by
    refine DT.iterI (d := d) (es := es) (ep := ep) ⟨_, Heap.get?_push_size _ rfl, rfl, rfl⟩ (raw.push _) (pi_one (tk := s1.toks) I2 _ (turn_itx _ hdt) ⟨.none, .none, ?_⟩ q)
    rw [← hsz]
    exact Heap.get?_push_size _ rfl
  show wpAny _ _ (callWith cpos (.builtin "dict.items") [.ref d] [] []) _ X.xe s1
  exact method_meetsIn PySem.F.slot_dict_items PySem.F.entry_dict_items rfl (PySem.evalArgs_none ⟨rfl, raw.typeIs, PySem.F.args_dict_items_1 _, _, DT.meetsItems (es := es) (ep := ep) hs, ⟨raw, fin⟩⟩)
def iItemsU (td : TE) : TI := fun σ H R => iItx td σ H R ∨ iItems td σ H R
theorem pi_itemsU {elts : List Expr} {kk : Nat} {tpos : Pos} (he : PE X e td) (hbase : attributeBase e "items" X.env (eval e X.env) = eval e X.env := by rfl) (hline : (apos.endLine == cpos.line) = true := by rfl) :
    PI X (.Tuple elts kk tpos) (.Call (.Attribute e "items" apos) [] [] cpos) (iItemsU td) := PI.or (pi_itx he hbase hline) (pi_items he hbase hline)
theorem walk_itx {d : Addr} {o : Obj} {kvs : List (List L2.Key × V)} : Walk (Itx d o kvs) kvs.length (fun H => H d = some (.frz o (.dT kvs))) (fun i H x H' => ∃ (T : Addr) (k : List L2.Key) (v : V) (q : Addr), kvs[i]? = some (k, v) ∧ x = .ref T ∧ H T = none ∧ H' = upd H T (.tup [.ref q, v]) ∧ H q = some (.tup (k.map kV))) :=
  ⟨fun _ _ hi q => ⟨q, hi⟩, fun _ q => ⟨q, Nat.le_refl _⟩, fun _ _ _ _ _ _ y => y⟩
end
end Pt
namespace Pt
open PySem PySem.Spec PyProof.Rows L2
/-! ### {k: v for ..}, the keys tuples -/
section
variable {X : Cx}
theorem put_dT {pins : List (Addr × Obj)} {σ : L2.St} {H : Hp} {s : Shared} {E : Value → Shared → Prop} {a b : Addr} {kvs : List (List L2.Key × V)} {k : List L2.Key} {v : V} {r : Value} {Q : Unit → Shared → Prop} (hu : X.A.units + 1 < cLine) (I : L2.Inv X pins σ H s)
    (e : H a = some (.dT kvs)) (eb : H b = some (.tup (k.map kV))) (l : kvs.length < sizeLine) (rv : L2.RelV v r) (q : ∀ s', L2.Inv X pins σ (upd H a (.dT (putK kvs k v))) s' → Q () s') : wpAny (model X.prog X.w) X.A (dictSet a (.ref b) r) Q E s := by
  obtain ⟨z, lo, xs, rel, dd⟩ := dt_of I.hok e
  have hl : (putK kvs k v).length ≤ sizeLine := by have := length_putK kvs k v; omega
  refine wpAny_dictSet_heap (hsz := by rw [← Paired.length rel]; exact z) (show X.A.units < cLine by omega) (key_of I.hok eb) dd fun h' d2 same => q _ ?_
  obtain ⟨o, es, ep, g1, g2, g3, g4, _, g5⟩ := d2
  refine d_write I (by rw [e]; exact True.intro) same ⟨o, g1⟩ ⟨hl, lo, _, (rel.put k eb rv).keeps fun c ys ec => ?_, o, es, ep, g1, g2, g3, g4, g5⟩
  rw [upd_ne (ne_of ec e (fun z => nomatch z))]
  exact ec
def tDcT (wi : TI) (g : TG) (tt : TT) (tk tv : TE) (vs : List Nat) : TE := fun σ H Q => wi σ H fun J H1 => ∀ D, H1 D = none → ∃ W : Nat → Nat → Hp → Prop, (∃ m, W 0 m (upd H1 D (.dT []))) ∧ ∀ i m H, W i m H →
  (J.stop i H ∧ Q (.ref D) H) ∨ (J.go i H ∧ ∃ Nx : Hp → Prop, (∀ H', Nx H' → ∃ m', m' < m ∧ W (i + 1) m' H') ∧ ∀ x H', J.yld i H x H' → g x (wipe σ vs) H' fun σ2 H2 => wipe σ2 vs = wipe σ vs ∧ tt σ2 H2 fun c H3 =>
    if c = true then tk σ2 H3 fun y H4 => tv σ2 H4 fun z H5 => ∃ kvs k b, y = .ref b ∧ H5 D = some (.dT kvs) ∧ H5 b = some (.tup (k.map kV)) ∧ kvs.length < sizeLine ∧ Nx (upd H5 D (.dT (putK kvs k z))) else Nx H3)
abbrev BlkAll (X : Cx) (scope : Scope) (F : Cx → Prop) : Prop := ∀ (s : Shared) (H : Hp) (C : Addr) (cl : List (Str × Addr)) (fp : List Addr), F (X.blk s H scope (compEnvC scope cl C X.env) fp)
theorem dcT_walk {pins : List (Addr × Obj)} {s : Shared} {σ : L2.St} {H : Hp} {Q : VK} {kx vx tg iter : Expr} {ifs : List Expr} {scope : Scope} {own : List (Str × Nat)} {pos pos' : Pos} {wi : TI} {g : TG} {tt : TT} {tk tv : TE} {use : Option (Value → Sem Unit)} {Qf : Value → Shared → Prop}
    (hu : X.A.units + 64 < cLine) (hc : X.calm = true) (nd : X.N.Nodup) (I : L2.Inv X pins σ H s) (hi : PI X tg iter wi) (ok : BlkOk X.N X.env.scope scope own)
    (hg : BlkAll X scope fun Y => PG Y tg g) (ht : BlkAll X scope fun Y => PTs Y ifs tt) (hk : BlkAll X scope fun Y => PE Y kx tk) (he : BlkAll X scope fun Y => PE Y vx tv) (fold : ∀ x, foldedSetIterable iter X.env x = pure x)
    (h : tDcT wi g tt tk tv (own.map (·.2)) σ H Q)
    (out : ∀ D C s' m H', L2.Inv X pins σ H' s' → Q (.ref D) H' → s'.heap.Ns C m → FpOk X pins H' C → compPost (model X.prog X.w) X.A X.xe use Qf (.ref D) C (.ok .next) s') :
    wpAny (model X.prog X.w) X.A (comprehension (.DictComp kx vx [⟨tg, iter, ifs, 0⟩] scope pos) scope X.env pos' newDict false (eval iter X.env) use) Qf X.xe s := by
  refine wpAny_comprehension_free (use := use) rfl fold (closure_ok fun y hy e => (ok.free y hy e).elim (fun k => I.ok.has _ (.inl k)) fun k => I.ok.has _ (.inr k)) ok.kind (fun y hy e => by rw [ok.uniq y hy, e])
    (thn (hi.run pins s σ H _ I h) fun xv sA hx => thn hx fun itv sB ⟨it, fp, tn, J, HB, eit, IB, T, stB, fB, q⟩ => ?_)
  subst eit
  refine wpAny_newObj_type (newEnv_comp ?_)
  obtain ⟨D, hD⟩ : ∃ D, D = sB.heap.objs.size := ⟨_, rfl⟩
  obtain ⟨W, ⟨mm, ww⟩, turn⟩ := q D (IB.hok.fresh (Nat.le_of_eq hD.symm))
  obtain ⟨sC, hC⟩ : ∃ z : Shared, z = { sB with heap := sB.heap.push { cls := .type "dict", data := .dict #[] } } := ⟨_, rfl⟩
  obtain ⟨HC, eHC⟩ : ∃ z : Hp, z = upd HB D (.dT []) := ⟨_, rfl⟩
  have hpC : sC.heap = sB.heap.push { cls := .type "dict", data := .dict #[] } := by rw [hC]
  have IC : L2.Inv X pins σ HC sC := by
    rw [hC, eHC]
    refine IB.laid (t' := sB.toks) (fun b o e => Heap.get?_push_of_some _ e) (Nat.le_of_eq hD.symm) ?_
    rw [hD]
    exact dt_empty sB.heap IB.big
  have old : ∀ b ∈ fp, b < sB.heap.objs.size := fun b hb => let ⟨_, e, _⟩ := T.obj _ _ stB b hb; Heap.lt_size e
  have fC : ∀ b ∈ fp, FpOk X pins HC b ∧ b < sC.heap.objs.size := fun b hb => by
    refine ⟨⟨?_, (fB b hb).2⟩, by rw [hpC, Heap.size_push]; exact Nat.lt_succ_of_lt (old b hb)⟩
    rw [eHC, upd_ne (by rw [hD]; exact Nat.ne_of_lt (old b hb))]
    exact (fB b hb).1
  have stC : tn 0 sC.heap := T.keep _ _ _ stB fun b _ o e => by rw [hpC]; exact Heap.get?_push_of_some _ e
  have I0 := block_start IC ok nd fC
  have pg := hg sC HC sC.heap.objs.size (cellsFrom (sC.heap.objs.size + 1) scope.names (cloFrom X.env.cells scope.names [])) fp
  have pt := ht sC HC sC.heap.objs.size (cellsFrom (sC.heap.objs.size + 1) scope.names (cloFrom X.env.cells scope.names [])) fp
  have pk := hk sC HC sC.heap.objs.size (cellsFrom (sC.heap.objs.size + 1) scope.names (cloFrom X.env.cells scope.names [])) fp
  have pv := he sC HC sC.heap.objs.size (cellsFrom (sC.heap.objs.size + 1) scope.names (cloFrom X.env.cells scope.names [])) fp
  rw [← hC, ← hD]
  show codeAny _ _ (.compStart (.DictComp kx vx [⟨tg, iter, ifs, 0⟩] scope pos) 0 (.ref it) (.ref D) (compEnvC scope (cellsFrom (sC.heap.objs.size + 1) scope.names (cloFrom X.env.cells scope.names [])) sC.heap.objs.size X.env)) (compPost (model X.prog X.w) X.A X.xe use Qf (.ref D) sC.heap.objs.size) { sC with heap := pushCells (sC.heap.push { cls := .type "dict", data := .dict #[] }) scope.names }
  obtain ⟨ce, hce⟩ : ∃ z, z = compEnvC scope (cellsFrom (sC.heap.objs.size + 1) scope.names (cloFrom X.env.cells scope.names [])) sC.heap.objs.size X.env := ⟨_, rfl⟩
  have locC : ce.locals = sC.heap.objs.size := by rw [hce]; rfl
  rw [← hce] at I0 pg pt pk pv ⊢
  rw [← eHC] at ww
  obtain ⟨sD, hsD⟩ : ∃ z : Shared, z = { sC with heap := pushCells (sC.heap.push { cls := .type "dict", data := .dict #[] }) scope.names } := ⟨_, rfl⟩
  rw [← hsD] at I0 ⊢
  have stD : tn 0 sD.heap := T.keep _ _ _ stC fun b _ o e => by rw [hsD]; exact pushCells_keeps _ _ _ _ (Heap.get?_push_of_some _ e)
  have stat : ∀ {σ' : L2.St} {H' : Hp} {s' : Shared}, L2.Inv (X.blk sC HC scope ce fp) [] σ' H' s' → (∀ b ∈ fp, H' b = none) → ∀ b ∈ fp, FpOk (X.blk sC HC scope ce fp) [] H' b := fun J' hn b hb =>
    ⟨hn b hb, (J'.ok.exf b hb).1, J'.ok.exfs b hb, .inl hb, fun x c e => (J'.ok.exf b hb).2 x c e, fun p hp => absurd (show p ∈ ([] : List (Addr × Obj)) ++ [] from hp) (by simp)⟩
  have loop : codeAny (model X.prog X.w) X.A (.compLoop (.DictComp kx vx [⟨tg, iter, ifs, 0⟩] scope pos) 0 (.ref it) (.ref D) ce) (compPost (model X.prog X.w) X.A X.xe use Qf (.ref D) sC.heap.objs.size) sD := by
    refine compLoop_anyD (fun n s' => ∃ i H', L2.Inv (X.blk sC HC scope ce fp) [] (wipe σ (own.map (·.2))) H' s' ∧ tn i s'.heap ∧ (∀ b ∈ fp, H' b = none) ∧ W i n H') (fun n s5 ⟨i, H5, I5, st5, n5, w5⟩ => ?_) mm ⟨0, HC, I0, stD, fun b hb => (fC b hb).1.1, ww⟩
    rcases turn i n H5 w5 with ⟨stop, fin⟩ | ⟨go, Nx, hNx, step⟩
    · refine thnF (T.done (X.blk sC HC scope ce fp) rfl rfl rfl hc i [] s5 _ H5 (fun _ _ => False) I5 (stat I5 n5) st5 stop) fun r s6 ⟨hr, I6⟩ => ?_
      subst hr
      have back : L2.Inv X pins σ H5 s6 := IC.call' (ch := fp) I6.os I6.base I6.hok I6.bare fun b hb => let ⟨_, y1, y2, y3, y4, y5⟩ := (fC b hb).1; ⟨y3, y1, y4, y5⟩
      obtain ⟨m, hn, _⟩ := I6.loc
      have nC : H5 ce.locals = none := I6.free
      have hn : s6.heap.Ns ce.locals m := hn
      rw [locC] at hn nC
      exact out D sC.heap.objs.size s6 m H5 back fin hn (IC.fpOk (Nat.le_refl _) nC)
    · refine thnF (T.item (X.blk sC HC scope ce fp) rfl rfl rfl hc i [] s5 _ H5 (fun _ _ => False) I5 (stat I5 n5) st5 go) fun r s6 ⟨u, hr, h6⟩ => ?_
      subst hr
      refine thnF h6 fun _ s7 ⟨x, H7, I7, r7, y7, st7, n7⟩ => ?_
      refine thnF (pg.run _ s7 _ H7 x u _ (I7.pinned (stat I7 n7) (T.obj _ _ st7)) r7 (step x H7 y7)) fun _ s8 ⟨σ8, H8, I8, hw8, q8⟩ => thnF (pt.run _ s8 σ8 H8 _ I8 q8) fun c s9 ⟨H9, I9, q9⟩ => ?_
      have next : ∀ {s' : Shared} {H' : Hp}, L2.Inv (X.blk sC HC scope ce fp) ([] ++ pinsAt fp s7.heap) σ8 H' s' → Nx H' → ∃ m, m < n ∧ ∃ i H', L2.Inv (X.blk sC HC scope ce fp) [] (wipe σ (own.map (·.2))) H' s' ∧ tn i s'.heap ∧ (∀ b ∈ fp, H' b = none) ∧ W i m H' := fun {s' H'} I' nx => by
        obtain ⟨m', hm, w'⟩ := hNx H' nx
        have held : ∀ b ∈ fp, ∀ o, s7.heap.get? b = some o → s'.heap.get? b = some o ∧ H' b = none := fun b hb o e =>
          let z := I'.pin (b, o) (List.mem_append_right _ (List.mem_append_right _ (mem_pinsAt hb e))); ⟨z.1, z.2.1⟩
        refine ⟨m', hm, i + 1, H', (I'.unpinned (pins := [])).weak (by rw [← hw8, wipe_length]) (fun j v e => ?_), T.keep _ _ _ st7 fun b hb o e => (held b hb o e).1, fun b hb => ?_, w'⟩
        · rw [← hw8] at e
          exact (wipe_some e).1
        · obtain ⟨o, e, _⟩ := T.obj _ _ st7 b hb
          exact (held b hb o e).2
      cases c with
      | false =>
        rw [if_neg Bool.false_ne_true] at q9 ⊢
        exact next I9 q9
      | true =>
        rw [if_pos rfl] at q9 ⊢
        refine thnF (pk.run _ s9 σ8 H9 _ I9 q9) fun z1 s10 ⟨yk, H10, I10, r10, q10⟩ => thnF (pv.run _ s10 σ8 H10 _ I10 q10) fun z2 s11 ⟨yv, H11, I11, r11, kvs, k, b, ek, eD, eb, hz, nx⟩ => ?_
        subst ek
        cases (show z1 = Value.ref b from r10)
        exact put_dT (X := X.blk sC HC scope ce fp) (by show X.A.units + 1 < cLine; omega) I11 eD eb hz r11 fun s12 I12 => next I12 nx
  exact codeAny_compStart_dict loop (T.self X.A 0 _ _ _ stD loop)
theorem pe_dcT {kx vx tg iter : Expr} {ifs : List Expr} {scope : Scope} {own : List (Str × Nat)} {pos : Pos} {wi : TI} {g : TG} {tt : TT} {tk tv : TE} (hu : X.A.units + 64 < cLine) (hc : X.calm = true) (nd : X.N.Nodup) (hi : PI X tg iter wi) (ok : BlkOk X.N X.env.scope scope own)
    (hg : BlkAll X scope fun Y => PG Y tg g) (ht : BlkAll X scope fun Y => PTs Y ifs tt) (hk : BlkAll X scope fun Y => PE Y kx tk) (he : BlkAll X scope fun Y => PE Y vx tv) (fold : ∀ x, foldedSetIterable iter X.env x = pure x := by intro _; rfl) :
    PE X (.DictComp kx vx [⟨tg, iter, ifs, 0⟩] scope pos) (tDcT wi g tt tk tv (own.map (·.2))) := by
  refine ⟨fun pins s σ H Q I h => ?_⟩
  rw [arm_eval_DictComp]
  refine dcT_walk hu hc nd I hi ok hg ht hk he fold h fun D C s' m H' I' q hn f => ⟨m, hn, fun h2 sb => ?_⟩
  obtain ⟨f0, f1, f2, f3, f4, f5⟩ := f
  exact ⟨.ref D, H', I'.turned (t' := s'.toks) (fun b o hb e => (sb.2 b hb).trans e) f0 f1 f3 f4 f5, rfl, q⟩
end
end Pt
namespace Pt
open PySem PySem.Spec PyProof.Rows L2
/-! ### dict(list of pairs), the keys tuples -/
def mergeT (kvs more : List (List L2.Key × V)) : List (List L2.Key × V) := more.foldl (fun acc kv => putK acc kv.1 kv.2) kvs
theorem mergeT_len : ∀ (more kvs : List (List L2.Key × V)), (mergeT kvs more).length ≤ kvs.length + more.length
  | [], kvs => Nat.le_refl _
  | p :: r, kvs => by
    have h1 := mergeT_len r (putK kvs p.1 p.2)
    have h2 := length_putK kvs p.1 p.2
    show (mergeT (putK kvs p.1 p.2) r).length ≤ _
    rw [List.length_cons]
    omega
theorem kt_merge {H : Hp} : ∀ {more : List (List L2.Key × V)} {ms : List (List L2.Key × Addr × Value)} {kvs : List (List L2.Key × V)} {xs : List (List L2.Key × Addr × Value)}, KT H more ms → KT H kvs xs → KT H (mergeT kvs more) (PySem.storedAllH xs ms)
  | _, _, _, _, .nil, r => r
  | _, _, kvs, xs, .cons (a := p) (b := q) h t, r => by
    have h1 := r.put q.1 (b := q.2.1) (y := p.2) (u := q.2.2) (by rw [← h.1]; exact h.2.1) h.2.2
    have h2 := kt_merge t h1
    show KT H (mergeT (putK kvs p.1 p.2) _) _
    rw [h.1]
    exact h2
def PairT (K : PySem.W.Frag) (H : Hp) (p : Addr) (kv : List L2.Key × V) : Prop := ∃ q, SqT K H p [.ref q, kv.2] ∧ H q = some (.tup (kv.1.map kV))
section
variable {X : Cx}
theorem pairsT_of {pins : List (Addr × Obj)} {σ : L2.St} {H : Hp} {s : Shared} (I : L2.Inv X pins σ H s) : ∀ {ps : List Addr} {kvs : List (List L2.Key × V)}, Paired (PairT X.K H) ps kvs →
    ∃ prs : List (List L2.Key × Addr × Value), KT H kvs prs ∧ prs.length = ps.length ∧ ∀ (j : Nat) (x : List L2.Key × Addr × Value), prs[j]? = some x → ∃ b : Addr, ps[j]? = some b ∧ IsTup s.heap b #[.ref x.2.1, x.2.2]
  | _, _, .nil => ⟨[], .nil, rfl, fun j q e => by simp at e⟩
  | _, _, .cons (a := p) (b := kv) h t => by
    obtain ⟨prs, r, hl, hp⟩ := pairsT_of I t
    obtain ⟨q, h1, h2⟩ := h
    obtain ⟨its, rv, ht, _⟩ := I.tuple h1
    obtain ⟨u, y, ei, ru, ry⟩ := vals2 rv
    subst ei
    cases (show u = Value.ref q from ru)
    refine ⟨(kv.1, q, y) :: prs, .cons ⟨rfl, h2, ry⟩ r, by rw [List.length_cons, List.length_cons, hl], fun j x e => ?_⟩
    cases j with
    | zero =>
      cases Option.some.inj e
      exact ⟨p, rfl, ht⟩
    | succ j =>
      obtain ⟨b, e1, e2⟩ := hp j x (by simpa using e)
      exact ⟨b, by simpa using e1, e2⟩
def cDictPT (K : PySem.W.Frag) : List V → Hp → VK → Prop := fun xs H Q => ∃ (a : Addr) (ps : List Addr) (kvs : List (List L2.Key × V)), xs = [.ref a] ∧ SqL K H a (ps.map V.ref) ∧ Paired (PairT K H) ps kvs ∧ ∀ p, H p = none → Q (.ref p) (upd H p (.dT (mergeT [] kvs)))
theorem call_dictPT (hc : X.calm = true) (hu : X.A.units + 64 < cLine) : CallR X (.type "dict") (cDictPT X.K) := by
  intro pins s σ H xs us Q I r q
  obtain ⟨a, ps, kvs, rfl, hq, hp, q⟩ := q
  obtain ⟨u, rfl, rx⟩ := vals1 r
  cases rx
  obtain ⟨its, rv, pl, hz⟩ := I.list hq
  have ei := refs_at rv
  subst ei
  rw [List.length_map] at hz
  obtain ⟨prs, rel, hl, hpr⟩ := pairsT_of I hp
  obtain ⟨o, n, ho, hcl, hd, hdat⟩ := pl
  have hps : ps.length = kvs.length := paired_len hp
  have at1 : ∀ x ∈ prs, H x.2.1 = some (.tup (x.1.map kV)) := kt_at rel
  refine PySem.call_dict_pairsH (knd := tupleKind (mixKind X.prog X.w)) (ps := prs) (PySem.PairArg.list a (ps.map Value.ref).toArray (fun j => ps.getD j 0) (prs.map fun x => (Value.ref x.2.1, x.2.2))) (I.ok.hd hc) (show X.A.units + 2 < cLine by omega)
    ⟨⟨o, n, ho, hcl, hd, hdat⟩, by simp [hl], fun j k v e => ?_⟩ ⟨by simp, fun i key v e => ?_⟩ (fun h' hk x hx => ?_) (by rw [List.length_map]; omega) fun h' tk d' hk => ?_
  · rw [List.getElem?_map] at e
    obtain ⟨x, e1, e2⟩ := Option.map_eq_some_iff.mp e
    cases e2
    obtain ⟨b, e3, e4⟩ := hpr j x e1
    refine ⟨by simp [List.getD_eq_getElem?_getD, e3], ?_⟩
    show PairAt s.heap (ps.getD j 0) _ _
    rw [show ps.getD j 0 = b by rw [List.getD_eq_getElem?_getD, e3]; rfl]
    obtain ⟨o', g1, g2, n', g3⟩ := e4
    exact .inl (by first | exact ⟨o', g1, g2, n', g3⟩ | exact ⟨o', n', g1, g2, g3⟩)
  · have e' : (prs.map fun x => (Value.ref x.2.1, x.2.2))[i]? = some (key, v) := e
    rw [List.getElem?_map] at e'
    obtain ⟨x, e1, e2⟩ := Option.map_eq_some_iff.mp e'
    cases e2
    exact ⟨x.1, x.2.1, e1, rfl⟩
  · obtain ⟨o', its', n', g1, g2⟩ := key_of I.hok (at1 x hx)
    exact ⟨o', its', n', hk _ _ (Nat.ne_of_lt (Heap.lt_size g1)) (by simp) g1, g2⟩
  · have hm : (s.heap.objs.size == sysModules) = false := beq_eq_false_iff_ne.mpr (Nat.ne_of_gt I.big)
    have fr : H s.heap.objs.size = none := I.hok.fresh (Nat.le_refl _)
    obtain ⟨o', es, ep, g1, g2, g3, g4, _, g5⟩ := d'
    refine ⟨.ref s.heap.objs.size, upd H s.heap.objs.size (.dT (mergeT [] kvs)), I.laid (t' := tk) (fun b u e => hk b u (by simp) e) (Nat.le_refl _) (show ObjOk X.prog X.w _ _ _ (.dT (mergeT [] kvs)) from ⟨?_, hm, _, (kt_merge rel .nil).keeps fun c ys ec => ?_, o', es, ep, g1, g2, g3, g4, g5⟩), rfl, q _ fr⟩
    · have := mergeT_len kvs []
      simp at this
      omega
    · rw [upd_ne (ne_of_none ec fr)]
      exact ec
end
end Pt
namespace Pt
open PySem PySem.Spec PyProof.Rows L2
/-! ### a, b, .. = a list -/
section
variable {P : Program} {w : World} {A : Around} {E : Value → Shared → Prop}
theorem draw_l {it l : Addr} {items : Array Value} (ne : l ≠ it) : ∀ (n i : Nat) (s : Shared) (Q : List Value → Shared → Prop), s.heap.IsListIter it l i → s.heap.IsList l items → i + n ≤ items.size →
    (∀ h', h'.IsListIter it l (i + n) → Heap.SameBut it s.heap h' → Q ((items.toList.drop i).take n) { s with heap := h' }) → wpAny (model P w) A (draw (.ref it) n) Q E s
  | 0, i, s, Q, hit, _, _, q => by
    show wpAny _ _ (pure []) Q E s
    exact wpAny_pure (by simpa using q s.heap hit (Heap.SameBut.refl ..))
  | n + 1, i, s, Q, hit, hl, hle, q => by
    have lt : i < items.size := by omega
    show wpAny _ _ (pyNext (.ref it) >>= _) Q E s
    refine wpAny_bind (wpAny_pyNext_list_item hit hl (x := items[i]) (by simp [lt]) fun h1 hit1 sb1 => ?_)
    have hl1 : h1.IsList l items := by
      obtain ⟨o, e, r⟩ := hl
      exact ⟨o, (sb1.2 l ne).trans e, r⟩
    refine wpAny_bind (wpAny_holding (draw_l ne n (i + 1) _ _ hit1 hl1 (by omega) fun h2 hit2 sb2 => wpAny_pure ?_))
    have hd : items.toList.drop i = items[i] :: items.toList.drop (i + 1) := by simp [List.drop_eq_getElem_cons, lt]
    have := q h2 (by rw [show i + (n + 1) = i + 1 + n by omega]; exact hit2) (sb1.trans sb2)
    rw [hd, List.take_succ_cons] at this
    exact this
theorem unpack_l {s : Shared} {l : Addr} {items : Array Value} {ts : List (Bool × (Value → Sem Unit))} {Q : Unit → Shared → Prop} (hh : A.handled = none) (hl : s.heap.IsList l items) (hn : ts.length = items.size) (star : ts.findIdx? (·.1) = none)
    (q : ∀ h', Heap.ExtBut s.heap.objs.size s.heap h' → wpAny (model P w) A (assignInOrder (ts.map (·.2)) items.toList) Q E { s with heap := h' }) : wpAny (model P w) A (unpack (.ref l) ts) Q E s := by
  have ne : l ≠ s.heap.objs.size := by obtain ⟨o, ho, _⟩ := hl; exact Nat.ne_of_lt (Heap.lt_size ho)
  have hp : ∀ o, (s.heap.push o).IsList l items := fun o => by
    obtain ⟨u, e, r⟩ := hl
    exact ⟨u, Heap.get?_push_of_some _ e, r⟩
  unfold unpack
  rw [hn, star]
  refine wpAny_bind (wpAny_holding ?_)
  unfold unpackItems
  refine wpAny_bind ?_
  unfold notIterableAtAll
  refine wpAny_bind (wpAny_specialOf hl.typeIs slot_list_iter.lookup (wpAny_pure ?_))
  simp only [Bool.false_eq_true, if_false]
  refine wpAny_bind (wpAny_holding (wpAny_pyIter_list hl ?_))
  refine wpAny_bind (wpAny_holding (draw_l ne items.size 0 _ _ ⟨_, Heap.get?_push_size _ rfl, rfl, rfl⟩ (hp _) (by omega) fun h1 hit1 sb1 => ?_))
  rw [show List.take items.size (List.drop 0 items.toList) = items.toList by rw [List.drop_zero]; exact List.take_of_length_le (by simp), if_neg (by simp)]
  have hl1 : h1.IsList l items := by
    obtain ⟨u, e, r⟩ := hp { cls := .type "list_iterator", data := .fields #[.ref l, .int 0 0] }
    exact ⟨u, (sb1.2 l ne).trans e, r⟩
  refine wpAny_bind (wpAny_holding (wpAny_pyNext_list_end hh hit1 hl1 (by simp) fun h2 eb => ?_))
  simp only [Option.isSome_none, Bool.false_eq_true, if_false]
  exact wpAny_pure (q h2 fun b o hb e => eb b o hb (sb1.extBut b o hb (Heap.get?_push_of_some _ e)))
end
section
variable {X : Cx}
def gLst (K : PySem.W.Frag) (n : Nat) (t : TGs) : TG := fun v σ H Q => ∃ a xs, v = .ref a ∧ SqL K H a xs ∧ xs.length = n ∧ t xs σ H Q
theorem pg_lst {es : List Expr} {k : Nat} {t : TGs} {n : Nat} {pos : Pos} (hc : X.calm = true) (h : PGs X es t)
    (hn : (assignEach es X.env).length = n := by rfl) (star : (assignEach es X.env).findIdx? (·.1) = none := by rfl) : PG X (.Tuple es k pos) (gLst X.K n t) := by
  refine ⟨fun pins s σ H v u Q I r ⟨a, xs, e1, hq, hl, hw⟩ => ?_⟩
  subst e1
  cases r
  obtain ⟨its, rv, pl, hz⟩ := I.list hq
  rw [arm_assign_Tuple]
  refine wpAny_bind (wpAny_standAt (unpack_l (I.ok.hd hc) pl.isList (by simp [hn, ← hl, rv.length]) star fun h' hx => ?_))
  exact h.run pins _ σ H xs _ Q (I.kept (t' := s.toks) fun b o e => hx b o (Nat.ne_of_lt (Heap.lt_size e)) e) (by simpa using rv) hw
/-! ### xs.extend(tuple) -/
theorem meets_extT (l : Addr) (items : Array Value) (n : Nat) (b : Addr) (more : Array Value) (hz : items.size + more.size ≤ sizeLine) :
    Meets (Builtin.«list.extend» ⟨[.ref l, .ref b], []⟩) (fun _ R s => s.heap.get? l = some { cls := .type "list", dict := none, data := .seq items n, slots := #[] } ∧ IsTup s.heap b more ∧ R (.ok (.ret Value.none)) { s with heap := s.heap.update l (Obj.mapSeq fun x => x ++ more) }) :=
  .of_wp fun prog w A R s h => by
    obtain ⟨hl, ⟨o, ho, hc, k, hd⟩, h⟩ := h
    show wpAny _ _ (Builtin.List.listExtendWith (.ref l) (.ref b) .none) _ _ s
    unfold Builtin.List.listExtendWith
    refine wpAny_bind (wpAny_typeOf (T := "tuple") ⟨o, ho, hc⟩ ?_)
    rw [if_pos (by simp)]
    unfold Builtin.List.listItems
    refine wpAny_bind (wpAny_bind (wpAny_seqItems ho hd (wpAny_pure ?_)))
    refine wpAny_bind (wpAny_bind (wpAny_seqItems hl rfl (wpAny_pure ?_)))
    have nt : ¬ (!items.isEmpty && Builtin.List.listTooLong (items.size + more.size)) = true := by
      rw [notLongL hz, Bool.and_false]
      exact Bool.false_ne_true
    simp only [if_neg nt]
    show wpAny _ _ (updateSeq l (· ++ more) >>= fun _ => ret .none) _ _ s
    refine wpAny_bind (wpAny_updateSeq (hz := by omega) (_hz' := by rw [Array.size_append]; omega) hl rfl ?_)
    exact wpAny_pure ⟨_, rfl, h⟩
def rExtT (K : PySem.W.Frag) : V → List V → Hp → VK → Prop := fun x vs H Q => ∃ l b xs zs, x = .ref l ∧ vs = [.ref b] ∧ H l = some (.lst xs) ∧ SqT K H b zs ∧ xs.length + zs.length ≤ sizeLine ∧ Q .non (upd H l (.lst (xs ++ zs)))
theorem mt_extT : MtM X "list.extend" (rExtT X.K) := by
  intro pins s σ H x vs v us Q I rx rv h
  obtain ⟨l, b, xs, zs, rfl, rfl, hH, hB, hz, q⟩ := h
  cases rx
  obtain ⟨u, rfl, ru⟩ := rv.one
  cases ru
  obtain ⟨z, its, n, r, hl, e⟩ := I.lstM hH
  obtain ⟨its2, r2, tp, z2⟩ := I.tuple hB
  have l2 := r2.length
  have hsz : its.toArray.size + its2.toArray.size ≤ sizeLine := by rw [List.size_toArray, List.size_toArray]; omega
  refine call_meets PySem.F.slot_list_extend ⟨_, e, rfl⟩ PySem.F.entry_list_extend (PySem.F.args_list_extend_2 _ _) (meets_extT l its.toArray n b its2.toArray hsz) ⟨e, tp, ?_⟩
  refine ⟨.non, _, I.lset (t' := s.toks) (its' := its ++ its2) hH e (by simp) (r.append r2) ?_, rfl, q⟩
  rw [List.length_append]
  omega
def rExtU (K : PySem.W.Frag) : V → List V → Hp → VK → Prop := fun x vs H Q => rExtend x vs H Q ∨ rExtT K x vs H Q
theorem mt_extU : MtM X "list.extend" (rExtU X.K) := fun pins s σ H x vs v us Q I rx rv h => h.elim (mt_extend pins s σ H x vs v us Q I rx rv) (mt_extT pins s σ H x vs v us Q I rx rv)
/-! ### x < y, data -/
def rLtD (K : PySem.W.Frag) : R2 := fun x y H Q => ∃ d e, Dp K H x d ∧ Dp K H y e ∧ PySem.W.alike d e = true ∧ d ≠ .none ∧ d.depth ≤ 8 ∧ Q (.bl (PySem.W.dataLt d e)) H
theorem op_ltD (hu : X.A.units + 64 < cLine) : OpR X (compareOp .Lt) (rLtD X.K) := by
  intro pins s σ H x y v u Q I rx ry h
  obtain ⟨d, e, hx, hy, al, nn, dp, q⟩ := h
  obtain ⟨as, r1⟩ := Dp.reads I d x v hx rx
  obtain ⟨bs, r2⟩ := Dp.reads I e y u hy ry
  exact PySem.W.lt_data r1 r2 al nn (by omega) ⟨.bl _, H, I, rfl, q⟩
def rLtU (K : PySem.W.Frag) : R2 := fun x y H Q => rLtI x y H Q ∨ rLtD K x y H Q
theorem op_ltU (hu : X.A.units + 64 < cLine) : OpR X (compareOp .Lt) (rLtU X.K) := op_ltI.or (op_ltD hu)
/-! ### xs.count(y), flat things -/
def rCntF : V → List V → Hp → VK → Prop := fun x vs H Q => ∃ l xs y, x = .ref l ∧ vs = [y] ∧ H l = some (.lst xs) ∧ flatV y = true ∧ xs.all flatV = true ∧ Q (.int (xs.countP fun z => eqV z y)) H
theorem countP_vals {y : V} {w : Value} (r : L2.RelV y w) : ∀ {xs : List V} {us : List Value}, Vals xs us → xs.all flatV = true → us.countP (eqU y) = xs.countP fun z => eqV z y
  | _, _, .nil, _ => rfl
  | x :: xs, u :: us, .cons h t, f => by
    rw [List.all_cons, Bool.and_eq_true] at f
    rw [List.countP_cons, List.countP_cons, countP_vals r t f.2]
    have e : eqU y u = eqV x y := by
      have := eqU_of (x := y) h f.1
      first | exact this | (rw [this]; rfl)
    rw [e]
theorem mt_cntF : MtM X "list.count" rCntF := by
  intro pins s σ H x vs v us Q I rx rv h
  obtain ⟨l, xs, y, rfl, rfl, hH, fy, fx, q⟩ := h
  cases rx
  obtain ⟨u, rfl, ru⟩ := rv.one
  obtain ⟨z, its, n, r, hl, e⟩ := I.lstM hH
  refine call_meets PySem.F.slot_list_count ⟨_, e, rfl⟩ PySem.F.entry_list_count (PySem.F.args_list_count_2 _ _) (SeqAt.list_countAt l its.toArray n none #[] u (eqU y)) ⟨e, fun w hw => mem_eqAt ru fy r fx w (by simpa using hw), ?_⟩
  refine ⟨.int _, H, I.tok _, ⟨_, rfl⟩, ?_⟩
  rw [show its.toArray.toList = its by simp, countP_vals ru r fx]
  exact q
end
end Pt
namespace Pt
open PySem PySem.Spec PyProof.Rows L2 PySem.Calls
/-! ### t[::-1] of a tuple -/
section
variable {P : Program} {w : World} {A : Around} {E : Value → Shared → Prop} {s : Shared}
theorem places_rev (n : Nat) : Builtin.Slice.slicePlaces ((n : Int) - 1) (-1) (-1) = n := by
  unfold Builtin.Slice.slicePlaces
  rw [if_neg (by decide), show (- -1 : Int) = 1 by decide, Int.ediv_one]
  split <;> omega
theorem fm_congr {α β : Type} {f g : α → Option β} : ∀ {l : List α}, (∀ x ∈ l, f x = g x) → l.filterMap f = l.filterMap g
  | [], _ => rfl
  | x :: r, h => by
    rw [List.filterMap_cons, List.filterMap_cons, h x (by simp), fm_congr fun y hy => h y (by simp [hy])]
theorem pick_rev (xs : Array Value) : ((List.range xs.size).filterMap fun (k : Nat) => xs[(((xs.size : Int) - 1) + (k : Int) * -1).toNat]?).toArray = xs.toList.reverse.toArray := by
  have h1 : (List.range xs.size).filterMap (fun (k : Nat) => xs[(((xs.size : Int) - 1) + (k : Int) * -1).toNat]?) = ((List.range xs.size).map fun k => xs.size - 1 - k).filterMap (xs[·]?) := by
    rw [List.filterMap_map]
    refine fm_congr fun k hk => ?_
    have := List.mem_range.mp hk
    have e : (((xs.size : Int) - 1) + (k : Int) * -1).toNat = xs.size - 1 - k := by omega
    rw [e]
    rfl
  rw [h1, PySem.W.krv_range, List.filterMap_reverse, PySem.W.krv_all]
theorem applied_rev {sl : Addr} {vs : Value} {n : Nat} {Q : Int × Int × Nat → Shared → Prop} (hs : s.heap.IsSliceOf sl .none .none vs) (ps : IsPart vs (some (-1))) (q : Q ((n : Int) - 1, -1, n) s) : wpAny (model P w) A (Builtin.Slice.sliceApplied (.ref sl) (pure (n : Int))) Q E s := by
  obtain ⟨os, ho, hc, hd⟩ := id hs
  unfold Builtin.Slice.sliceApplied Builtin.Slice.sliceFields
  refine wpAny_bind (wpAny_bind (wpAny_field ho hd (x := .none) rfl (wpAny_bind (wpAny_field ho hd (x := .none) rfl (wpAny_bind (wpAny_field ho hd (x := vs) rfl (wpAny_pure ?_)))))))
  refine wpAny_bind (HT.slicePart_ ps ?_)
  show wpAny _ _ (if ((-1 : Int) == 0) = true then _ else _) _ _ s
  rw [if_neg (by decide)]
  refine wpAny_bind (HT.slicePart_ .none (wpAny_bind (HT.slicePart_ .none (wpAny_bind (wpAny_pure ?_)))))
  show wpAny _ _ (pure ((n : Int) - 1, (-1 : Int), Builtin.Slice.slicePlaces ((n : Int) - 1) (-1) (-1))) _ _ s
  rw [places_rev]
  exact wpAny_pure q
theorem getItem_rev {t sl : Addr} {items : Array Value} {vs : Value} {Q : Value → Shared → Prop} (ht : IsTup s.heap t items) (hs : s.heap.IsSliceOf sl .none .none vs) (ps : IsPart vs (some (-1)))
    (q : Q (.ref s.heap.objs.size) { s with heap := s.heap.push { cls := .type "tuple", data := .seq items.toList.reverse.toArray } }) (hz : items.size ≤ sizeLine) : wpAny (model P w) A (getItem (.ref t) (.ref sl)) Q E s := by
  have fits : sizeOk (.seq items.toList.reverse.toArray) := by
    show items.toList.reverse.toArray.size ≤ sizeLine
    simpa using hz
  obtain ⟨os, ho, hc, hd⟩ := id hs
  have ty : s.TypeIs (.ref sl) "slice" := ⟨os, ho, hc⟩
  unfold getItem
  try with_reducible refine wpAny_holding ?_
  first | refine wpAny_bind (wpAny_pure ?_) | skip
  refine wpAny_bind (wpAny_sequenceKey ht.typeIs (by decide) ?_)
  refine wpAny_bind (wpAny_callSpecial?_slot (name := Str.ofString "__getitem__") ht.typeIs PyProof.Rows.slot_tuple_getitem (wpAny_call_entry PyProof.Rows.slot_tuple_getitem ht.typeIs entry_tuple_getitem ?_ (args_tuple_getitem _ _)))
  show wpAny _ _ (Builtin.Tuple.tupleItemsOf (.ref t) >>= _) _ _ s
  refine wpAny_bind (tupleItemsOf_ ht (wpAny_bind (wpAny_typeOf ty ?_)))
  rw [if_pos (by decide)]
  refine wpAny_bind (applied_rev hs ps ?_)
  have no : ¬ ((((items.size : Int) - 1) == 0 && (-1 : Int) == 1 && items.size == items.size) = true) := by
    rw [show ((-1 : Int) == 1) = false by decide, Bool.and_false, Bool.false_and]
    exact Bool.false_ne_true
  show wpAny _ _ (if (((items.size : Int) - 1) == 0 && (-1 : Int) == 1 && items.size == items.size) = true then _ else _) _ _ s
  rw [if_neg no, pick_rev]
  first
    | exact wpAny_bind (m := Builtin.Tuple.tupleExact _) (wpAny_newObj_type (wpAny_pure ⟨_, rfl, wpAny_pure q⟩) fits)
    | exact wpAny_bind (m := Builtin.Tuple.tupleExact _) (wpAny_newObj_type (wpAny_bind (wpAny_pure (wpAny_pure ⟨_, rfl, wpAny_pure q⟩))) fits)
    | exact wpAny_bind (wpAny_bind (m := Builtin.Tuple.tupleExact _) (wpAny_newObj_type (wpAny_pure (wpAny_pure ⟨_, rfl, wpAny_pure q⟩)) fits))
    | exact wpAny_bind (wpAny_bind (m := Builtin.Tuple.tupleExact _) (wpAny_newObj_type (wpAny_pure ⟨_, rfl, wpAny_pure q⟩) fits))
end
section
variable {X : Cx}
def tRevT (K : PySem.W.Frag) (te : TE) : TE := fun σ H Q => te σ H fun x H1 => ∃ a xs, x = .ref a ∧ SqT K H1 a xs ∧ ∀ p, H1 p = none → Q (.ref p) (upd H1 p (.tup xs.reverse))
theorem pe_revT {e : Expr} {te : TE} {k : Nat} {p1 p2 p3 pos : Pos} (he : PE X e te) : PE X (.Subscript e (.Slice none none (some (.UnaryOp .USub (.Constant (.int 1) k p1) p2)) p3) pos) (tRevT X.K te) := by
  refine ⟨fun pins s σ H Q I h => Subscript_ (thn (he.run pins s σ H _ I h) fun v s1 ⟨x, H1, I1, r1, a, xs, ex, hx, q⟩ => ?_)⟩
  subst ex
  cases r1
  have step : PO X (some (.UnaryOp .USub (.Constant (.int 1) k p1) p2)) (tPart (tUn (rU fun i => .int (-i)) (tC (.int 1)))) := po_some (pe_un un_neg pe_int)
  refine wpAny_Slice (thn (po_none.run pins s1 σ H1 (fun o H2 => o = none ∧ H2 = H1) I1 ⟨rfl, rfl⟩) fun vl s2 ⟨l, H2, I2, pl, el, e2⟩ => ?_)
  subst el e2
  refine thn (po_none.run pins s2 σ H2 (fun o H3 => o = none ∧ H3 = H2) I2 ⟨rfl, rfl⟩) fun vu s3 ⟨u, H3, I3, pu, eu, e3⟩ => ?_
  subst eu e3
  refine thn (step.run pins s3 σ H3 (fun o H4 => o = some (-1) ∧ H4 = H3) I3 ⟨1, rfl, -1, rfl, rfl, rfl⟩) fun vs s4 ⟨o, H4, I4, ps, eo, e4⟩ => ?_
  subst eo e4
  cases pl
  cases pu
  have I5 : L2.Inv X pins σ H4 { s4 with heap := s4.heap.push { cls := .type "slice", data := .fields #[.none, .none, vs] } } := I4.kept (t' := s4.toks) fun b ob q => Heap.get?_push_of_some _ q
  obtain ⟨its, r, ht, hz⟩ := I5.tuple hx
  have hl := r.length
  show wpAny (model X.prog X.w) X.A (subscriptTail e (.Slice none none (some (.UnaryOp .USub (.Constant (.int 1) k p1) p2)) p3) (.ref a) (.ref s4.heap.objs.size)) (EP X pins σ Q) X.xe { s4 with heap := s4.heap.push { cls := .type "slice", data := .fields #[.none, .none, vs] } }
  refine tail_any (ops := [.ref a, .ref s4.heap.objs.size]) ht.typeIs PyProof.Rows.slot_tuple_getitem.lookup ?_ (by with_unfolding_all rfl)
  refine getItem_rev ht (Heap.IsSliceOf.new _ .none .none vs) ps ?_ (by rw [List.size_toArray]; omega)
  refine ⟨.ref _, _, I5.laid (t' := s4.toks) (o := .tup xs.reverse) (fun b ob q => Heap.get?_push_of_some _ q) (Nat.le_refl _) ?_, rfl, q _ (I5.hok.fresh (Nat.le_refl _))⟩
  exact ⟨by rw [List.length_reverse]; exact hz, _, r.reverse, _, Heap.get?_push_size _ rfl, rfl, _, rfl⟩
def tRev (K : PySem.W.Frag) (te : TE) : TE := fun σ H Q => tRevL K te σ H Q ∨ tRevT K te σ H Q
theorem pe_rev {e : Expr} {te : TE} {k : Nat} {p1 p2 p3 pos : Pos} (he : PE X e te) : PE X (.Subscript e (.Slice none none (some (.UnaryOp .USub (.Constant (.int 1) k p1) p2)) p3) pos) (tRev X.K te) := PE.or (pe_revL he) (pe_revT he)
end
end Pt
namespace Pt
open PySem PySem.Spec PyProof.Rows L2
/-! ### {} whatever keys will stand in it -/
def tDNew : TE := fun σ H Q => tDNewK σ H Q ∨ tDNewT σ H Q
section
variable {X : Cx}
theorem pe_dnew {pos : Pos} : PE X (.Dict [] [] pos) tDNew := PE.or pe_dnewK pe_dnewT
end
/-! ### C(..), an own class -/
structure HasM (P : Program) (w : World) (K : PySem.W.Frag) (mg : Str → Option Value) (base : Heap) (x : Str) (ps : List Str) (k : Nat) (sp : Sp) : Prop where
  mkr : Mk K (He.ga K x) (He.ma K (He.ga K x) "__init__")
  ex : ∃ fd, FnOk P w K mg base CX0 k (He.ma K (He.ga K x) "__init__") fd ps sp ∧ Binds K fd ps []
  gl : mg x = some (.ref (He.ga K x))
def tMk (C : Addr) (sp : Sp) (t : TA) : TE := fun σ H Q => t σ H fun vs H1 => ∀ x dx, H1 x = none → H1 dx = none → dx ≠ x → sp (.ref x :: vs) (upd (upd H1 dx (.own x)) x (.ins C dx [])) (fun v H2 => v = .non ∧ Q (.ref x) H2) E0
section
variable {X : Cx} {x : Str} {ps : List Str} {k k' : Nat} {sp : Sp} {p pos : Pos} {e : Expr} {es : List Expr} {t : TA}
theorem pe_mk (h : HasM X.prog X.w X.K X.mg X.base x ps k sp) (hr : Room k' X.A) (hk : k + 1 ≤ k') (hg : Gl X x) (ha : PA X (e :: es) t) (hdb : (x == ("__debug__" : Str)) = false := by decide)
    (he : starEach (e :: es) X.env = (false, eval e X.env) :: starEach es X.env := by rfl) (hpl : (backTo pos (starEach es X.env)).any (·.1) = false := by rfl) : PE X (.Call (.Name x p) (e :: es) [] pos) (tMk (He.ga X.K x) sp t) := by
  obtain ⟨fd, F, b⟩ := h.ex
  have q := pe_make (p := p) (pos := pos) h.mkr F (hr.mono hk) hg h.gl b .nil pass0 ha hdb he hpl
  refine ⟨fun pins s σ H Q I d => q.run pins s σ H Q I ?_⟩
  have e1 : tMake (He.ga X.K x) sp [] E0 t = tMk (He.ga X.K x) sp t := by
    funext σ H Q
    unfold tMake tMk
    simp only [List.append_nil]
  rw [e1]
  exact d
end
/-! ### what is known of a class: its instances' fields, isinstance -/
structure ClsF (K : PySem.W.Frag) (x : Str) : Prop where
  cls : Cls K (He.ga K x)
  ha : PySem.W.findIn K (.ref (He.ga K x)) "__class__" = some (some (.builtin "object.__class__"))
  hn : PySem.W.specialIn K (.builtin "object.__class__") "__get__" = some (some (.builtin "getset_descriptor.__get__"))
  htk : PySem.W.takesIn K (.builtin "object.__class__") = some true
  hm : PySem.W.mroIn K (He.ga K x) (.type "object") = some true
def clsT (x : Str) (K : PySem.W.Frag) : Bool := He.eqO (PySem.W.findIn K (.ref (He.ga K x)) "__class__") (some (some (.builtin "object.__class__"))) && (He.eqO (PySem.W.specialIn K (.builtin "object.__class__") "__get__") (some (some (.builtin "getset_descriptor.__get__"))) &&
  (decide (PySem.W.takesIn K (.builtin "object.__class__") = some true) && decide (PySem.W.mroIn K (He.ga K x) (.type "object") = some true)))
theorem clsF_of {K : PySem.W.Frag} {x : Str} (c : Cls K (He.ga K x)) (t : clsT x K = true) : ClsF K x := by
  obtain ⟨h1, t⟩ := He.ba t
  obtain ⟨h2, t⟩ := He.ba t
  obtain ⟨h3, h4⟩ := He.ba t
  exact ⟨c, He.eqO_ok h1, He.eqO_ok h2, of_decide_eq_true h3, of_decide_eq_true h4⟩
theorem isi_own {K : PySem.W.Frag} {H : Hp} {Q : VK} {x : Str} {a dx : Addr} {fs : List (Str × V)} (c : ClsF K x) (e : H a = some (.ins (He.ga K x) dx fs)) (q : Q (.bl true) H) : cIsi K [.ref a, .ref (He.ga K x)] H Q :=
  .inl ⟨.ref a, .ref (He.ga K x), .ref (He.ga K x), .ref (He.ga K x), true, rfl, .own _, .base (.ins e c.cls c.ha c.hn c.htk c.hm), by unfold PySem.W.kitOne; rw [if_pos (by simp)], q⟩
/-! ### the head's hook with a test of one's own -/
def hookT (n : Nat) (fa : List He.Fa) (fn : List He.DefD) (t : PySem.W.Frag → Bool) : PySem.W.Hook where
  α := He.AlD × Bool
  obs := fun s => (He.obsDG n fa fn s.heap.get?, t (He.frG s.heap.get? (He.asD s.heap.get? n)))
  val := fun _ => (He.valD fn, true)
  says := fun _ h => ∃ K : PySem.W.Frag, K.In h ∧ He.SaysD fa fn K ∧ t K = true
  of := fun _ _ e => ⟨_, He.frG_in, congrArg Prod.fst e, congrArg Prod.snd e⟩
  keeps := fun _ _ _ ⟨K, hK, c⟩ k => ⟨K, PySem.W.Frag.In.keeps hK k, c⟩
def obT (n : Nat) (fa : List He.Fa) (fn : List He.DefD) (t : PySem.W.Frag → Bool) (g : Addr → Option Obj) : He.AlD × Bool := (He.obsDG n fa fn g, t (He.frG g (He.asD g n)))
theorem obT_eq {n : Nat} {fa : List He.Fa} {fn : List He.DefD} {t : PySem.W.Frag → Bool} {g : Addr → Option Obj} {s : Shared} (h : ∀ a, g a = s.heap.get? a) : obT n fa fn t g = (hookT n fa fn t).obs s := by
  have e : g = s.heap.get? := funext h
  rw [e]
  rfl
end Pt
namespace Pt
open PySem PySem.Spec PyProof.Rows L2
/-! ### the text -/
def topS (i : Nat) : Stmt := PySem.Challenge.pw_primetexts_k20_whole_counted.main.body.getD i (.Pass ⟨0, 0, 0, 0⟩)
abbrev s_is_sign : Stmt := topS 11
def dd_is_sign : He.DefD := ⟨("is_sign", none), "is_sign", "is_sign", defArgs s_is_sign, defBody s_is_sign, defScope s_is_sign, [], []⟩
abbrev s_is_signs : Stmt := topS 12
def dd_is_signs : He.DefD := ⟨("is_signs", none), "is_signs", "is_signs", defArgs s_is_signs, defBody s_is_signs, defScope s_is_signs, [], []⟩
abbrev s_is_integer : Stmt := topS 19
def dd_is_integer : He.DefD := ⟨("is_integer", none), "is_integer", "is_integer", defArgs s_is_integer, defBody s_is_integer, defScope s_is_integer, [], []⟩
abbrev s_is_row : Stmt := topS 20
def dd_is_row : He.DefD := ⟨("is_row", none), "is_row", "is_row", defArgs s_is_row, defBody s_is_row, defScope s_is_row, [], []⟩
abbrev s_are_ways : Stmt := topS 21
def dd_are_ways : He.DefD := ⟨("are_ways", none), "are_ways", "are_ways", defArgs s_are_ways, defBody s_are_ways, defScope s_are_ways, [], []⟩
abbrev s_shortest_of : Stmt := topS 22
def dd_shortest_of : He.DefD := ⟨("shortest_of", none), "shortest_of", "shortest_of", defArgs s_shortest_of, defBody s_shortest_of, defScope s_shortest_of, [], []⟩
abbrev s_Core_init__ : Stmt := inClass (topS 17) 0
def dd_Core_init__ : He.DefD := ⟨("Core", some "__init__"), "__init__", "Core.__init__", defArgs s_Core_init__, defBody s_Core_init__, defScope s_Core_init__, [], []⟩
abbrev s_need_core : Stmt := topS 23
def dd_need_core : He.DefD := ⟨("need_core", none), "need_core", "need_core", defArgs s_need_core, defBody s_need_core, defScope s_need_core, [], []⟩
abbrev s_need_row : Stmt := topS 24
def dd_need_row : He.DefD := ⟨("need_row", none), "need_row", "need_row", defArgs s_need_row, defBody s_need_row, defScope s_need_row, [], []⟩
abbrev s_norm_by : Stmt := topS 26
def dd_norm_by : He.DefD := ⟨("norm_by", none), "norm_by", "norm_by", defArgs s_norm_by, defBody s_norm_by, defScope s_norm_by, [], []⟩
abbrev s_norm_of : Stmt := topS 27
def dd_norm_of : He.DefD := ⟨("norm_of", none), "norm_of", "norm_of", defArgs s_norm_of, defBody s_norm_of, defScope s_norm_of, [], []⟩
abbrev s_behind : Stmt := topS 29
def dd_behind : He.DefD := ⟨("behind", none), "behind", "behind", defArgs s_behind, defBody s_behind, defScope s_behind, [], []⟩
abbrev s_need_length : Stmt := topS 32
def dd_need_length : He.DefD := ⟨("need_length", none), "need_length", "need_length", defArgs s_need_length, defBody s_need_length, defScope s_need_length, [], []⟩
abbrev s_texts_of : Stmt := topS 33
def dd_texts_of : He.DefD := ⟨("texts_of", none), "texts_of", "texts_of", defArgs s_texts_of, defBody s_texts_of, defScope s_texts_of, [], []⟩
abbrev s_tails_of : Stmt := topS 34
def dd_tails_of : He.DefD := ⟨("tails_of", none), "tails_of", "tails_of", defArgs s_tails_of, defBody s_tails_of, defScope s_tails_of, [], []⟩
abbrev s_kind_counts : Stmt := topS 35
def dd_kind_counts : He.DefD := ⟨("kind_counts", none), "kind_counts", "kind_counts", defArgs s_kind_counts, defBody s_kind_counts, defScope s_kind_counts, [], []⟩
abbrev s_Counted_init__ : Stmt := inClass (topS 36) 0
def dd_Counted_init__ : He.DefD := ⟨("Counted", some "__init__"), "__init__", "Counted.__init__", defArgs s_Counted_init__, defBody s_Counted_init__, defScope s_Counted_init__, [], []⟩
abbrev s_Counted_row : Stmt := inClass (topS 36) 1
def dd_Counted_row : He.DefD := ⟨("Counted", some "row"), "row", "Counted.row", defArgs s_Counted_row, defBody s_Counted_row, defScope s_Counted_row, [], []⟩
abbrev s_count : Stmt := topS 37
def dd_count : He.DefD := ⟨("count", none), "count", "count", defArgs s_count, defBody s_count, defScope s_count, [], []⟩
abbrev s_law_start : Stmt := topS 39
def dd_law_start : He.DefD := ⟨("_law_start", none), "_law_start", "_law_start", defArgs s_law_start, defBody s_law_start, defScope s_law_start, [], []⟩
abbrev s_law_below : Stmt := topS 40
def dd_law_below : He.DefD := ⟨("_law_below", none), "_law_below", "_law_below", defArgs s_law_below, defBody s_law_below, defScope s_law_below, [], []⟩
abbrev s_law_pick : Stmt := topS 41
def dd_law_pick : He.DefD := ⟨("_law_pick", none), "_law_pick", "_law_pick", defArgs s_law_pick, defBody s_law_pick, defScope s_law_pick, [], []⟩
abbrev s_law_mixed : Stmt := topS 42
def dd_law_mixed : He.DefD := ⟨("_law_mixed", none), "_law_mixed", "_law_mixed", defArgs s_law_mixed, defBody s_law_mixed, defScope s_law_mixed, [], []⟩
abbrev s_law_same : Stmt := topS 43
def dd_law_same : He.DefD := ⟨("_law_same", none), "_law_same", "_law_same", defArgs s_law_same, defBody s_law_same, defScope s_law_same, [], []⟩
abbrev s_law_loose : Stmt := topS 44
def dd_law_loose : He.DefD := ⟨("_law_loose", none), "_law_loose", "_law_loose", defArgs s_law_loose, defBody s_law_loose, defScope s_law_loose, [], []⟩
abbrev s_law_bpool : Stmt := topS 45
def dd_law_bpool : He.DefD := ⟨("_law_bpool", none), "_law_bpool", "_law_bpool", defArgs s_law_bpool, defBody s_law_bpool, defScope s_law_bpool, [], []⟩
abbrev s_law_bsigns : Stmt := topS 46
def dd_law_bsigns : He.DefD := ⟨("_law_bsigns", none), "_law_bsigns", "_law_bsigns", defArgs s_law_bsigns, defBody s_law_bsigns, defScope s_law_bsigns, [], []⟩
abbrev s_law_bkinds : Stmt := topS 47
def dd_law_bkinds : He.DefD := ⟨("_law_bkinds", none), "_law_bkinds", "_law_bkinds", defArgs s_law_bkinds, defBody s_law_bkinds, defScope s_law_bkinds, [], []⟩
abbrev s_law_bcore : Stmt := topS 48
def dd_law_bcore : He.DefD := ⟨("_law_bcore", none), "_law_bcore", "_law_bcore", defArgs s_law_bcore, defBody s_law_bcore, defScope s_law_bcore, [], []⟩
abbrev s_law_bmade : Stmt := topS 49
def dd_law_bmade : He.DefD := ⟨("_law_bmade", none), "_law_bmade", "_law_bmade", defArgs s_law_bmade, defBody s_law_bmade, defScope s_law_bmade, [], []⟩
abbrev s_law_bbehind : Stmt := topS 50
def dd_law_bbehind : He.DefD := ⟨("_law_bbehind", none), "_law_bbehind", "_law_bbehind", defArgs s_law_bbehind, defBody s_law_bbehind, defScope s_law_bbehind, [], []⟩
abbrev s_law_bfirsts : Stmt := topS 51
def dd_law_bfirsts : He.DefD := ⟨("_law_bfirsts", none), "_law_bfirsts", "_law_bfirsts", defArgs s_law_bfirsts, defBody s_law_bfirsts, defScope s_law_bfirsts, [], []⟩
abbrev s_law_bnorm : Stmt := topS 52
def dd_law_bnorm : He.DefD := ⟨("_law_bnorm", none), "_law_bnorm", "_law_bnorm", defArgs s_law_bnorm, defBody s_law_bnorm, defScope s_law_bnorm, [], []⟩
abbrev s_law_bcounts : Stmt := topS 53
def dd_law_bcounts : He.DefD := ⟨("_law_bcounts", none), "_law_bcounts", "_law_bcounts", defArgs s_law_bcounts, defBody s_law_bcounts, defScope s_law_bcounts, [], []⟩
abbrev s_law_brow : Stmt := topS 54
def dd_law_brow : He.DefD := ⟨("_law_brow", none), "_law_brow", "_law_brow", defArgs s_law_brow, defBody s_law_brow, defScope s_law_brow, [], []⟩
abbrev s_law : Stmt := topS 55
def dd_law : He.DefD := ⟨("law", none), "law", "law", defArgs s_law, defBody s_law, defScope s_law, [], []⟩
def fn : List He.DefD := [dd_is_sign, dd_is_signs, dd_is_integer, dd_is_row, dd_are_ways, dd_shortest_of, dd_Core_init__, dd_need_core, dd_need_row, dd_norm_by, dd_norm_of, dd_behind, dd_need_length, dd_texts_of, dd_tails_of, dd_kind_counts, dd_Counted_init__, dd_Counted_row, dd_count, dd_law_start, dd_law_below, dd_law_pick, dd_law_mixed, dd_law_same, dd_law_loose, dd_law_bpool, dd_law_bsigns, dd_law_bkinds, dd_law_bcore, dd_law_bmade, dd_law_bbehind, dd_law_bfirsts, dd_law_bnorm, dd_law_bcounts, dd_law_brow, dd_law]
def fa : List He.Fa := [.free "str", .free "isinstance", .free "len", .free "ord", .free "enumerate", .free "int", .free "bool", .free "tuple", .free "list", .int "MOST_LONG" 60, .free "all", .free "dict", .free "any", .free "sum", .int "MOST_KINDS" 12, .free "sorted", .free "max", .int "MOST_NORM" 200, .glo "Core", .free "range", .int "LONGEST" 60, .free "zip", .glo "is_sign", .glo "is_signs", .glo "is_integer", .glo "is_row", .glo "are_ways", .glo "shortest_of", .glo "need_core", .glo "need_row", .glo "norm_by", .glo "norm_of", .glo "behind", .glo "need_length", .glo "texts_of", .glo "tails_of", .glo "kind_counts", .glo "count", .glo "_law_start", .glo "_law_below", .glo "_law_pick", .glo "_law_mixed", .glo "_law_same", .glo "_law_loose", .glo "_law_bpool", .glo "_law_bsigns", .glo "_law_bkinds", .glo "_law_bcore", .glo "_law_bmade", .glo "_law_bbehind", .glo "_law_bfirsts", .glo "_law_bnorm", .glo "_law_bcounts", .glo "_law_brow", .glo "law", .cls "Core", .mkr "Core", .noat "Core" "alphabet", .noat "Core" "width", .noat "Core" "rows", .noat "Core" "shortest", .glo "Counted", .cls "Counted", .mkr "Counted", .noat "Counted" "size", .noat "Counted" "kinds", .noat "Counted" "known", .meth "Counted" "row"]
def ls0 : List Str := ["PrimeError", "BadCore", "BadLength", "BadMany", "BadRow", "BadSigns", "BadWays", "Endless", "TooMany", "is_sign", "is_signs", "MOST_KINDS", "MOST_LONG", "MOST_NORM", "Core", "shown", "is_integer", "is_row", "are_ways", "shortest_of"]
def ls1 : List Str := ["need_core", "need_row", "norm_by", "norm_of", "behind", "LONGEST", "need_length", "texts_of", "tails_of", "kind_counts", "Counted", "count", "_law_start", "_law_below", "_law_pick", "_law_mixed", "_law_same", "_law_loose", "_law_bpool", "_law_bsigns"]
def ls2 : List Str := ["_law_bkinds", "_law_bcore", "_law_bmade", "_law_bbehind", "_law_bfirsts", "_law_bnorm", "_law_bcounts", "_law_brow"]
abbrev loose : List Str := ls0 ++ ls1 ++ ls2
abbrev R : PySem.W.OpenRow := PySem.W.OpenLaw.row PySem.Challenge.rw_primetexts_k20_whole_counted
def tst (K : PySem.W.Frag) : Bool := (clsT "Core" K && (clsT "Counted" K && true))
abbrev hk : PySem.W.Hook := hookT 4 fa fn tst
def ob (s : PySem.W.SharedT) : He.AlD × Bool := obT 4 fa fn tst (HandSHeadRun.getT s)
theorem ob_eq (s : PySem.W.SharedT) : ob s = hk.obs s.abs := obT_eq (HandSHeadRun.getT_eq s)
theorem run (w : World) : HandSHeadRun.RunEq R (PySem.W.view R.prog [55]) hk ob 40000 loose w := by
  intro os
  kernel_rfl
end Pt
namespace Pt
/-! ### cores, plainly: ways, norms -/
abbrev Kd := Nat × Nat
abbrev Wys := List (Kd × List Nat)
def sumN (N : Nat → Nat) (r : List Nat) : Nat := (r.map N).sum
theorem sumN_le {N M : Nat → Nat} {r : List Nat} (h : ∀ p ∈ r, N p ≤ M p) : sumN N r ≤ sumN M r := by
  induction r with
  | nil => exact Nat.le_refl _
  | cons p r ih =>
    have h1 := ih fun q hq => h q (by simp [hq])
    have h2 := h p (by simp)
    simp only [sumN, List.map_cons, List.sum_cons] at *
    omega
theorem sumN_eq {N M : Nat → Nat} {r : List Nat} (h : ∀ p ∈ r, N p = M p) : sumN N r = sumN M r := by
  unfold sumN
  rw [List.map_congr_left h]
theorem le_sumN {N : Nat → Nat} {r : List Nat} {p : Nat} (h : p ∈ r) : N p ≤ sumN N r := by
  induction r with
  | nil => cases h
  | cons q r ih =>
    simp only [sumN, List.map_cons, List.sum_cons]
    rcases List.mem_cons.mp h with e | e
    · rw [e]; omega
    · have := ih e
      simp only [sumN] at this
      omega
theorem sumN_app {N : Nat → Nat} {a b : List Nat} : sumN N (a ++ b) = sumN N a + sumN N b := by simp [sumN]
/-- every kind below m has a way, by kinds of less size -/
structure Grd (m : Nat) (W : Wys) (sz : Nat → Nat) : Prop where
  way : ∀ k, k < m → ∃ s row, ((k, s), row) ∈ W ∧ 1 + sumN sz row ≤ sz k
  parts : ∀ w ∈ W, ∀ p ∈ w.2, p < m
theorem Grd.lt {m : Nat} {W : Wys} {sz : Nat → Nat} (_ : Grd m W sz) {k : Nat} {row : List Nat} (h : 1 + sumN sz row ≤ sz k) {p : Nat} (hp : p ∈ row) : sz p < sz k := by
  have := le_sumN (N := sz) hp
  omega
/-- norms -/
structure IsNrm (m : Nat) (W : Wys) (N : Nat → Nat) : Prop where
  le : ∀ k s row, ((k, s), row) ∈ W → k < m → N k ≤ 1 + sumN N row
  at_ : ∀ k, k < m → ∃ s row, ((k, s), row) ∈ W ∧ N k = 1 + sumN N row
theorem IsNrm.sz {m : Nat} {W : Wys} {N sz : Nat → Nat} (h : IsNrm m W N) (g : Grd m W sz) : ∀ n k, sz k ≤ n → k < m → N k ≤ sz k := by
  intro n
  induction n with
  | zero =>
    intro k hk hm
    obtain ⟨s, row, _, e⟩ := g.way k hm
    omega
  | succ n ih =>
    intro k hk hm
    obtain ⟨s, row, hw, e⟩ := g.way k hm
    have h1 := h.le k s row hw hm
    have h2 : sumN N row ≤ sumN sz row := sumN_le fun p hp => ih p (by have := g.lt e hp; omega) (g.parts _ hw p hp)
    omega
theorem IsNrm.le_sz {m : Nat} {W : Wys} {N sz : Nat → Nat} (h : IsNrm m W N) (g : Grd m W sz) {k : Nat} (hk : k < m) : N k ≤ sz k := h.sz g _ k (Nat.le_refl _) hk
theorem IsNrm.pos {m : Nat} {W : Wys} {N : Nat → Nat} (h : IsNrm m W N) {k : Nat} (hk : k < m) : 0 < N k := by
  obtain ⟨s, row, _, e⟩ := h.at_ k hk
  omega
/-- norms are what they are -/
theorem IsNrm.uniq_le {m : Nat} {W : Wys} {N M : Nat → Nat} (ps : ∀ w ∈ W, ∀ p ∈ w.2, p < m) (h : IsNrm m W N) (h2 : IsNrm m W M) : ∀ n k, M k ≤ n → k < m → N k ≤ M k := by
  intro n
  induction n with
  | zero => intro k hk hm; have := h2.pos hm; omega
  | succ n ih =>
    intro k hk hm
    obtain ⟨s, row, hw, e⟩ := h2.at_ k hm
    have h3 := h.le k s row hw hm
    have h4 : sumN N row ≤ sumN M row := sumN_le fun p hp => ih p (by have := le_sumN (N := M) hp; omega) (ps _ hw p hp)
    omega
theorem IsNrm.uniq {m : Nat} {W : Wys} {N M : Nat → Nat} (ps : ∀ w ∈ W, ∀ p ∈ w.2, p < m) (h : IsNrm m W N) (h2 : IsNrm m W M) {k : Nat} (hk : k < m) : N k = M k :=
  Nat.le_antisymm (h.uniq_le ps h2 _ k (Nat.le_refl _) hk) (h2.uniq_le ps h _ k (Nat.le_refl _) hk)
theorem IsNrm.congr {m : Nat} {W V : Wys} {N : Nat → Nat} (h : IsNrm m W N) (e : ∀ w, w ∈ W ↔ w ∈ V) : IsNrm m V N :=
  ⟨fun k s row hw hk => h.le k s row ((e _).mpr hw) hk, fun k hk => let ⟨s, row, hw, q⟩ := h.at_ k hk; ⟨s, row, (e _).mp hw, q⟩⟩
theorem Grd.congr {m : Nat} {W V : Wys} {sz : Nat → Nat} (h : Grd m W sz) (e : ∀ w, w ∈ W ↔ w ∈ V) : Grd m V sz :=
  ⟨fun k hk => let ⟨s, row, hw, q⟩ := h.way k hk; ⟨s, row, (e _).mp hw, q⟩, fun w hw => h.parts w ((e _).mpr hw)⟩
/-! there are norms -/
def dl (W : Wys) : Nat → Nat → Nat → Prop
  | 0, _, _ => False
  | d + 1, k, n => ∃ s row, ((k, s), row) ∈ W ∧ ∃ f : Nat → Nat, (∀ p ∈ row, dl W d p (f p)) ∧ n = 1 + sumN f row
theorem dl_mono {W : Wys} : ∀ {d e k n : Nat}, d ≤ e → dl W d k n → dl W e k n
  | 0, _, _, _, _, h => h.elim
  | d + 1, 0, _, _, h, _ => by omega
  | d + 1, e + 1, k, n, h, ⟨s, row, hw, f, hf, en⟩ => ⟨s, row, hw, f, fun p hp => dl_mono (by omega) (hf p hp), en⟩
theorem dl_some {m : Nat} {W : Wys} {sz : Nat → Nat} (g : Grd m W sz) : ∀ n k, sz k ≤ n → k < m → ∃ l, dl W n k l := by
  intro n
  induction n with
  | zero => intro k hk hm; obtain ⟨s, row, _, e⟩ := g.way k hm; omega
  | succ n ih =>
    intro k hk hm
    obtain ⟨s, row, hw, e⟩ := g.way k hm
    have h : ∀ p, ∃ l, p ∈ row → dl W n p l := fun p => by
      by_cases hp : p ∈ row
      · obtain ⟨l, hl⟩ := ih p (by have := g.lt e hp; omega) (g.parts _ hw p hp)
        exact ⟨l, fun _ => hl⟩
      · exact ⟨0, fun z => absurd z hp⟩
    refine ⟨_, s, row, hw, fun p => (h p).choose, fun p hp => (h p).choose_spec hp, rfl⟩
theorem least (P : Nat → Prop) (h : ∃ n, P n) : ∃ n, P n ∧ ∀ m, P m → n ≤ m := by
  obtain ⟨n, hn⟩ := h
  induction n using Nat.strongRecOn with
  | _ n ih =>
    by_cases q : ∃ m, m < n ∧ P m
    · obtain ⟨m, h1, h2⟩ := q
      exact ih m h1 h2
    · exact ⟨n, hn, fun m hm => Nat.le_of_not_lt fun z => q ⟨m, z, hm⟩⟩
theorem nrm_ex {m : Nat} {W : Wys} {sz : Nat → Nat} (g : Grd m W sz) : ∃ N, IsNrm m W N := by
  have h : ∀ k, ∃ n, k < m → (∃ d, dl W d k n) ∧ ∀ l, (∃ d, dl W d k l) → n ≤ l := fun k => by
    by_cases hk : k < m
    · obtain ⟨l, hl⟩ := dl_some g _ k (Nat.le_refl _) hk
      obtain ⟨n, h1, h2⟩ := least (fun n => ∃ d, dl W d k n) ⟨l, _, hl⟩
      exact ⟨n, fun _ => ⟨h1, h2⟩⟩
    · exact ⟨0, fun z => absurd z hk⟩
  refine ⟨fun k => (h k).choose, ?_, ?_⟩
  · intro k s row hw hk
    refine ((h k).choose_spec hk).2 _ ?_
    -- one depth for all parts
    have h2 : ∃ d, ∀ p ∈ row, dl W d p (h p).choose := by
      have ps := g.parts _ hw
      clear hw
      simp only at ps
      induction row with
      | nil => exact ⟨0, fun p hp => by cases hp⟩
      | cons q r ih =>
        obtain ⟨d, hd⟩ := ih fun p hp => ps p (by simp [hp])
        obtain ⟨e, he⟩ := ((h q).choose_spec (ps q (by simp))).1
        refine ⟨max d e, fun p hp => ?_⟩
        rcases List.mem_cons.mp hp with z | z
        · rw [z]; exact dl_mono (Nat.le_max_right _ _) he
        · exact dl_mono (Nat.le_max_left _ _) (hd p z)
    obtain ⟨d, hd⟩ := h2
    exact ⟨d + 1, s, row, hw, _, hd, rfl⟩
  · intro k hk
    obtain ⟨⟨d, hd⟩, hmin⟩ := (h k).choose_spec hk
    cases d with
    | zero => exact hd.elim
    | succ d =>
      obtain ⟨s, row, hw, f, hf, en⟩ := hd
      refine ⟨s, row, hw, Nat.le_antisymm ?_ ?_⟩
      · refine hmin _ ?_
        have h2 : ∃ d, ∀ p ∈ row, dl W d p (h p).choose := by
          have ps := g.parts _ hw
          clear hw en hf
          simp only at ps
          induction row with
          | nil => exact ⟨0, fun p hp => by cases hp⟩
          | cons q r ih =>
            obtain ⟨d, hd⟩ := ih fun p hp => ps p (by simp [hp])
            obtain ⟨e, he⟩ := ((h q).choose_spec (ps q (by simp))).1
            refine ⟨max d e, fun p hp => ?_⟩
            rcases List.mem_cons.mp hp with z | z
            · rw [z]; exact dl_mono (Nat.le_max_right _ _) he
            · exact dl_mono (Nat.le_max_left _ _) (hd p z)
        obtain ⟨e, he⟩ := h2
        exact ⟨e + 1, s, row, hw, _, he, rfl⟩
      · rw [en]
        have : sumN (fun k => (h k).choose) row ≤ sumN f row := sumN_le fun p hp => ((h p).choose_spec (g.parts _ hw p hp)).2 _ ⟨d, hf p hp⟩
        omega
end Pt
namespace Pt
/-! ### texts by length, then by signs -/
def lx : List Nat → List Nat → Bool
  | [], [] => false
  | [], _ :: _ => true
  | _ :: _, [] => false
  | a :: r, b :: t => decide (a < b) || (decide (a = b) && lx r t)
theorem lx_iff : ∀ {a b : List Nat}, lx a b = true ↔ a < b
  | [], [] => by simp [lx]
  | [], _ :: _ => by simp [lx]
  | _ :: _, [] => by simp [lx]
  | a :: r, b :: t => by
    have ih := lx_iff (a := r) (b := t)
    rw [List.cons_lt_cons_iff]
    simp [lx, ih]
theorem lx_irr : ∀ a : List Nat, lx a a = false
  | [] => rfl
  | a :: r => by simp [lx, lx_irr r]
theorem lx_tot : ∀ {a b : List Nat}, lx a b = false → lx b a = false → a = b
  | [], [], _, _ => rfl
  | [], _ :: _, h, _ => by simp [lx] at h
  | _ :: _, [], _, h => by simp [lx] at h
  | a :: r, b :: t, h1, h2 => by
    simp only [lx, Bool.or_eq_false_iff, Bool.and_eq_false_imp, decide_eq_false_iff_not, decide_eq_true_eq] at h1 h2
    have e : a = b := by omega
    rw [e, lx_tot (h1.2 e) (h2.2 e.symm)]
theorem lx_tr : ∀ {a b c : List Nat}, lx a b = true → lx b c = true → lx a c = true
  | [], [], _, h, _ => by simp [lx] at h
  | [], _ :: _, [], _, h => by simp [lx] at h
  | [], _ :: _, _ :: _, _, _ => rfl
  | _ :: _, [], _, h, _ => by simp [lx] at h
  | _ :: _, _ :: _, [], _, h => by simp [lx] at h
  | a :: r, b :: t, c :: u, h1, h2 => by
    simp only [lx, Bool.or_eq_true, Bool.and_eq_true, decide_eq_true_eq] at h1 h2 ⊢
    rcases h1 with h1 | ⟨e1, h1⟩ <;> rcases h2 with h2 | ⟨e2, h2⟩
    · left; omega
    · left; omega
    · left; omega
    · right; exact ⟨by omega, lx_tr h1 h2⟩
/-- shorter, or of one length and ahead -/
def lt2 (a b : List Nat) : Bool := decide (a.length < b.length) || (decide (a.length = b.length) && lx a b)
theorem lt2_tot {a b : List Nat} (h1 : lt2 a b = false) (h2 : lt2 b a = false) : a = b := by
  simp only [lt2, Bool.or_eq_false_iff, Bool.and_eq_false_imp, decide_eq_false_iff_not, decide_eq_true_eq] at h1 h2
  have e : a.length = b.length := by omega
  exact lx_tot (h1.2 e) (h2.2 e.symm)
theorem lt2_irr (a : List Nat) : lt2 a a = false := by simp [lt2, lx_irr]
theorem lt2_tr {a b c : List Nat} (h1 : lt2 a b = true) (h2 : lt2 b c = true) : lt2 a c = true := by
  simp only [lt2, Bool.or_eq_true, Bool.and_eq_true, decide_eq_true_eq] at h1 h2 ⊢
  rcases h1 with h1 | ⟨e1, h1⟩ <;> rcases h2 with h2 | ⟨e2, h2⟩
  · left; omega
  · left; omega
  · left; omega
  · right; exact ⟨by omega, lx_tr h1 h2⟩
/-- a is not behind b -/
def le2 (a b : List Nat) : Prop := lt2 b a = false
theorem le2_refl (a : List Nat) : le2 a a := lt2_irr a
theorem le2_anti {a b : List Nat} (h1 : le2 a b) (h2 : le2 b a) : a = b := lt2_tot h2 h1
theorem le2_tr {a b c : List Nat} (h1 : le2 a b) (h2 : le2 b c) : le2 a c := by
  unfold le2 at *
  rw [Bool.eq_false_iff]
  intro h
  -- c < a
  by_cases e : a = b
  · rw [← e, h] at h2; cases h2
  · have h3 : lt2 a b = true := by
      cases q : lt2 a b with
      | true => rfl
      | false => exact absurd (lt2_tot q h1) e
    rw [lt2_tr h h3] at h2
    cases h2
theorem le2_len {a b : List Nat} (h : le2 a b) : a.length ≤ b.length := by
  simp only [le2, lt2, Bool.or_eq_false_iff, decide_eq_false_iff_not] at h
  omega
theorem lt2_le {a b : List Nat} (h : lt2 a b = true) : le2 a b := by
  unfold le2
  rw [Bool.eq_false_iff]
  intro h2
  have := lt2_tr h h2
  rw [lt2_irr] at this
  cases this
theorem lx_app : ∀ {a b : List Nat} (c d : List Nat), a.length = b.length → lx a b = true → lx (a ++ c) (b ++ d) = true
  | [], [], _, _, _, h => by simp [lx] at h
  | [], _ :: _, _, _, h, _ => by simp at h
  | _ :: _, [], _, _, h, _ => by simp at h
  | a :: r, b :: t, c, d, hl, h => by
    simp only [lx, List.cons_append, Bool.or_eq_true, Bool.and_eq_true, decide_eq_true_eq] at h ⊢
    rcases h with h | ⟨e, h⟩
    · exact .inl h
    · exact .inr ⟨e, lx_app c d (by simpa using hl) h⟩
theorem lx_pre : ∀ (a : List Nat) {c d : List Nat}, lx (a ++ c) (a ++ d) = lx c d
  | [], _, _ => rfl
  | x :: r, c, d => by simp [lx, lx_pre r]
theorem le2_app {a b c d : List Nat} (h1 : le2 a b) (h2 : le2 c d) : le2 (a ++ c) (b ++ d) := by
  have l1 := le2_len h1
  have l2 := le2_len h2
  by_cases e1 : a = b
  · rw [e1]
    simp only [le2, lt2, Bool.or_eq_false_iff, Bool.and_eq_false_imp, decide_eq_false_iff_not, decide_eq_true_eq, List.length_append, lx_pre] at h2 ⊢
    exact ⟨by omega, fun e => h2.2 (by omega)⟩
  · by_cases e : a.length + c.length < b.length + d.length
    · exact lt2_le (by simp [lt2, e])
    · have e3 : a.length = b.length := by omega
      have e4 : lx a b = true := by
        cases q : lx a b with
        | true => rfl
        | false =>
          simp only [le2, lt2, Bool.or_eq_false_iff, Bool.and_eq_false_imp, decide_eq_false_iff_not, decide_eq_true_eq] at h1
          exact absurd (lx_tot q (h1.2 e3.symm)) e1
      exact lt2_le (by
        simp only [lt2, Bool.or_eq_true, Bool.and_eq_true, decide_eq_true_eq, List.length_append]
        exact .inr ⟨by omega, lx_app c d e3 e4⟩)
def cat (F : Nat → List Nat) (r : List Nat) : List Nat := r.flatMap F
theorem cat_cons {F : Nat → List Nat} {p : Nat} {r : List Nat} : cat F (p :: r) = F p ++ cat F r := by simp [cat]
theorem cat_app {F : Nat → List Nat} {a b : List Nat} : cat F (a ++ b) = cat F a ++ cat F b := by simp [cat]
theorem cat_len {F : Nat → List Nat} : ∀ r : List Nat, (cat F r).length = sumN (fun k => (F k).length) r
  | [] => rfl
  | p :: r => by
    rw [cat_cons, List.length_append, cat_len r]
    simp [sumN]
theorem cat_le {F G : Nat → List Nat} : ∀ {r : List Nat}, (∀ p ∈ r, le2 (F p) (G p)) → le2 (cat F r) (cat G r)
  | [], _ => le2_refl _
  | p :: r, h => by
    rw [cat_cons, cat_cons]
    exact le2_app (h p (by simp)) (cat_le fun q hq => h q (by simp [hq]))
theorem cat_eq {F G : Nat → List Nat} : ∀ {r : List Nat}, (∀ p ∈ r, F p = G p) → cat F r = cat G r
  | [], _ => rfl
  | p :: r, h => by rw [cat_cons, cat_cons, h p (by simp), cat_eq fun q hq => h q (by simp [hq])]
/-- first texts -/
structure IsFst (m : Nat) (W : Wys) (F : Nat → List Nat) : Prop where
  le : ∀ k s row, ((k, s), row) ∈ W → k < m → le2 (F k) (s :: cat F row)
  at_ : ∀ k, k < m → ∃ s row, ((k, s), row) ∈ W ∧ F k = s :: cat F row
theorem IsFst.nrm {m : Nat} {W : Wys} {F : Nat → List Nat} (h : IsFst m W F) : IsNrm m W fun k => (F k).length where
  le := fun k s row hw hk => by
    have := le2_len (h.le k s row hw hk)
    rw [List.length_cons, cat_len] at this
    omega
  at_ := fun k hk => by
    obtain ⟨s, row, hw, e⟩ := h.at_ k hk
    refine ⟨s, row, hw, ?_⟩
    show (F k).length = _
    rw [e, List.length_cons, cat_len]
    omega
theorem le2_cons {s : Nat} {a b : List Nat} (h : le2 a b) : le2 (s :: a) (s :: b) := le2_app (a := [s]) (b := [s]) (le2_refl _) h
theorem IsFst.uniq_le {m : Nat} {W : Wys} {F G : Nat → List Nat} (ps : ∀ w ∈ W, ∀ p ∈ w.2, p < m) (h : IsFst m W F) (h2 : IsFst m W G) : ∀ n k, (G k).length ≤ n → k < m → le2 (F k) (G k) := by
  intro n
  induction n with
  | zero => intro k hk hm; have h0 : 0 < (G k).length := h2.nrm.pos hm; omega
  | succ n ih =>
    intro k hk hm
    obtain ⟨s, row, hw, e⟩ := h2.at_ k hm
    rw [e]
    refine le2_tr (h.le k s row hw hm) (le2_cons (cat_le fun p hp => ih p ?_ (ps _ hw p hp)))
    have e2 : (G k).length = 1 + sumN (fun k => (G k).length) row := by rw [e, List.length_cons, cat_len]; omega
    have h3 : (G p).length ≤ sumN (fun k => (G k).length) row := le_sumN (N := fun k => (G k).length) hp
    omega
theorem IsFst.uniq {m : Nat} {W : Wys} {F G : Nat → List Nat} (ps : ∀ w ∈ W, ∀ p ∈ w.2, p < m) (h : IsFst m W F) (h2 : IsFst m W G) {k : Nat} (hk : k < m) : F k = G k :=
  le2_anti (h.uniq_le ps h2 _ k (Nat.le_refl _) hk) (h2.uniq_le ps h _ k (Nat.le_refl _) hk)
theorem IsFst.congr {m : Nat} {W V : Wys} {F : Nat → List Nat} (h : IsFst m W F) (e : ∀ w, w ∈ W ↔ w ∈ V) : IsFst m V F :=
  ⟨fun k s row hw hk => h.le k s row ((e _).mpr hw) hk, fun k hk => let ⟨s, row, hw, q⟩ := h.at_ k hk; ⟨s, row, (e _).mp hw, q⟩⟩
/-- the way that a first text takes: of the least sign that does it -/
theorem IsFst.first {m : Nat} {W : Wys} {F N : Nat → List Nat} {k s : Nat} {row : List Nat} (h : IsFst m W F) (un : ∀ q r r', (q, r) ∈ W → (q, r') ∈ W → r = r') (hk : k < m) (hw : ((k, s), row) ∈ W) (e : (F k).length = 1 + sumN (fun k => (F k).length) row)
    (hs : ∀ s' r', s' < s → ((k, s'), r') ∈ W → (F k).length ≠ 1 + sumN (fun k => (F k).length) r') : F k = s :: cat F row := by
  obtain ⟨s0, r0, hw0, e0⟩ := h.at_ k hk
  have l0 : (F k).length = 1 + sumN (fun k => (F k).length) r0 := by rw [e0, List.length_cons, cat_len]; omega
  have h1 : ¬ s0 < s := fun z => hs s0 r0 z hw0 l0
  have h2 : ¬ s < s0 := fun z => by
    have h3 := h.le k s row hw hk
    rw [e0] at h3
    have h4 : (cat F r0).length = (cat F row).length := by rw [cat_len, cat_len]; omega
    simp [le2, lt2, lx, h4, z] at h3
  have es : s0 = s := by omega
  subst es
  rw [e0, un _ _ _ hw hw0]
end Pt
namespace Pt
/-! ### there are first texts -/
/-- the row of a way -/
def look (W : Wys) (q : Kd) : Option (List Nat) := (W.find? fun w => w.1 = q).map (·.2)
theorem look_mem {W : Wys} {q : Kd} {r : List Nat} (h : look W q = some r) : (q, r) ∈ W := by
  unfold look at h
  obtain ⟨w, h1, h2⟩ := Option.map_eq_some_iff.mp h
  have h3 := List.find?_some h1
  have h4 := List.mem_of_find?_eq_some h1
  simp only [decide_eq_true_eq] at h3
  rw [← h2, ← h3]
  exact h4
theorem look_of {W : Wys} {q : Kd} {r : List Nat} (nd : (W.map (·.1)).Nodup) (h : (q, r) ∈ W) : look W q = some r := by
  induction W with
  | nil => cases h
  | cons w W ih =>
    rw [List.map_cons, List.nodup_cons] at nd
    unfold look
    rw [List.find?_cons]
    rcases List.mem_cons.mp h with e | e
    · rw [← e]
      simp
    · have ne : ¬ w.1 = q := fun z => nd.1 (by rw [z]; exact List.mem_map.mpr ⟨(q, r), e, rfl⟩)
      simp only [ne, decide_false]
      exact ih nd.2 e
theorem uniq_of {W : Wys} (nd : (W.map (·.1)).Nodup) : ∀ q r r', (q, r) ∈ W → (q, r') ∈ W → r = r' := fun q r r' h h' => by
  have e1 := look_of nd h
  rw [look_of nd h'] at e1
  exact (Option.some.inj e1).symm
def fx (w : Nat → Nat × List Nat) : Nat → Nat → List Nat
  | 0, _ => []
  | n + 1, k => (w k).1 :: cat (fx w n) (w k).2
theorem fst_ex {m : Nat} {W : Wys} {N : Nat → Nat} (ps : ∀ w ∈ W, ∀ p ∈ w.2, p < m) (un : ∀ q r r', (q, r) ∈ W → (q, r') ∈ W → r = r') (h : IsNrm m W N) : ∃ F, IsFst m W F ∧ ∀ k, k < m → (F k).length = N k := by
  -- the least sign that does it, and its row
  have c : ∀ k, ∃ w : Nat × List Nat, k < m → ((k, w.1), w.2) ∈ W ∧ N k = 1 + sumN N w.2 ∧ ∀ s' r', ((k, s'), r') ∈ W → N k = 1 + sumN N r' → w.1 ≤ s' := fun k => by
    by_cases hk : k < m
    · obtain ⟨s, row, hw, e⟩ := h.at_ k hk
      obtain ⟨s0, ⟨r0, h1, h2⟩, h3⟩ := least (fun s => ∃ row, ((k, s), row) ∈ W ∧ N k = 1 + sumN N row) ⟨s, row, hw, e⟩
      exact ⟨(s0, r0), fun _ => ⟨h1, h2, fun s' r' q1 q2 => h3 s' ⟨r', q1, q2⟩⟩⟩
    · exact ⟨(0, []), fun z => absurd z hk⟩
  obtain ⟨w, hw⟩ : ∃ w : Nat → Nat × List Nat, ∀ k, k < m → ((k, (w k).1), (w k).2) ∈ W ∧ N k = 1 + sumN N (w k).2 ∧ ∀ s' r', ((k, s'), r') ∈ W → N k = 1 + sumN N r' → (w k).1 ≤ s' := ⟨fun k => (c k).choose, fun k => (c k).choose_spec⟩
  have lens : ∀ n k, N k ≤ n → k < m → (fx w n k).length = N k := by
    intro n
    induction n with
    | zero => intro k hk hm; have := h.pos hm; omega
    | succ n ih =>
      intro k hk hm
      obtain ⟨h1, h2, _⟩ := hw k hm
      have pp : ∀ p ∈ (w k).2, p < m := ps _ h1
      show ((w k).1 :: cat (fx w n) (w k).2).length = _
      rw [List.length_cons, cat_len, sumN_eq (M := N) fun p hp => ih p (by have := le_sumN (N := N) hp; omega) (pp p hp)]
      omega
  have stab : ∀ n n' k, N k ≤ n → N k ≤ n' → k < m → fx w n k = fx w n' k := by
    intro n
    induction n with
    | zero => intro n' k hk _ hm; have := h.pos hm; omega
    | succ n ih =>
      intro n' k hk hk' hm
      obtain ⟨h1, h2, _⟩ := hw k hm
      have pp : ∀ p ∈ (w k).2, p < m := ps _ h1
      cases n' with
      | zero => have := h.pos hm; omega
      | succ n' =>
        show (w k).1 :: cat (fx w n) (w k).2 = (w k).1 :: cat (fx w n') (w k).2
        rw [cat_eq fun p hp => ih n' p (by have := le_sumN (N := N) hp; omega) (by have := le_sumN (N := N) hp; omega) (pp p hp)]
  -- the texts
  have step : ∀ k, k < m → fx w (N k) k = (w k).1 :: cat (fun p => fx w (N p) p) (w k).2 := fun k hm => by
    obtain ⟨h1, h2, _⟩ := hw k hm
    have pp : ∀ p ∈ (w k).2, p < m := ps _ h1
    have e : N k = (N k - 1) + 1 := by have := h.pos hm; omega
    rw [e]
    show (w k).1 :: cat (fx w (N k - 1)) (w k).2 = _
    rw [cat_eq fun p hp => stab (N k - 1) (N p) p (by have := le_sumN (N := N) hp; omega) (Nat.le_refl _) (pp p hp)]
  refine ⟨fun k => fx w (N k) k, ⟨?_, fun k hm => ⟨_, _, (hw k hm).1, step k hm⟩⟩, fun k hm => lens _ k (Nat.le_refl _) hm⟩
  intro k s row hr hm
  obtain ⟨h1, h2, h3⟩ := hw k hm
  have l1 : (fx w (N k) k).length = N k := lens _ k (Nat.le_refl _) hm
  have l2 : (s :: cat (fun p => fx w (N p) p) row).length = 1 + sumN N row := by
    have pr : ∀ p ∈ row, p < m := ps _ hr
    rw [List.length_cons, cat_len, sumN_eq (M := N) fun p hp => lens _ p (Nat.le_refl _) (pr p hp)]
    omega
  have l3 := h.le k s row hr hm
  by_cases e : N k = 1 + sumN N row
  · have h4 := h3 s row hr e
    by_cases z : (w k).1 = s
    · have e2 : row = (w k).2 := un _ _ _ hr (by rw [← z]; exact h1)
      show le2 (fx w (N k) k) _
      rw [step k hm, e2, z]
      exact le2_refl _
    · refine lt2_le ?_
      show lt2 (fx w (N k) k) _ = true
      have l4 : (cat (fun p => fx w (N p) p) (w k).2).length = (cat (fun p => fx w (N p) p) row).length := by
        rw [step k hm] at l1
        simp only [List.length_cons] at l1 l2
        omega
      have z2 : (w k).1 < s := by omega
      rw [step k hm]
      simp [lt2, lx, l4, z2]
  · refine lt2_le ?_
    show lt2 (fx w (N k) k) _ = true
    have l5 : (fx w (N k) k).length < (s :: cat (fun p => fx w (N p) p) row).length := by rw [l1, l2]; omega
    unfold lt2
    rw [decide_eq_true l5]
    rfl
/-! ### how many rounds -/
/-- how many kinds have a shorter first text -/
def rnk (m : Nat) (F : Nat → List Nat) (k : Nat) : Nat := ((List.range m).filter fun j => decide ((F j).length < (F k).length)).length
theorem rnk_lt {m : Nat} {F : Nat → List Nat} {p k : Nat} (hp : p < m) (h : (F p).length < (F k).length) : rnk m F p < rnk m F k := by
  unfold rnk
  have sub : ∀ l : List Nat, (l.filter fun j => decide ((F j).length < (F p).length)).length ≤ (l.filter fun j => decide ((F j).length < (F k).length)).length ∧
      (p ∈ l → (l.filter fun j => decide ((F j).length < (F p).length)).length < (l.filter fun j => decide ((F j).length < (F k).length)).length) := by
    intro l
    induction l with
    | nil => exact ⟨Nat.le_refl _, fun z => by cases z⟩
    | cons j l ih =>
      obtain ⟨i1, i2⟩ := ih
      by_cases a : (F j).length < (F p).length
      · have b : (F j).length < (F k).length := by omega
        simp only [List.filter_cons, decide_eq_true a, decide_eq_true b, if_true, List.length_cons]
        refine ⟨by omega, fun z => ?_⟩
        rcases List.mem_cons.mp z with z | z
        · rw [z] at a; omega
        · have := i2 z; omega
      · by_cases b : (F j).length < (F k).length
        · simp only [List.filter_cons, decide_eq_false a, decide_eq_true b, if_true, List.length_cons, Bool.false_eq_true, if_false]
          exact ⟨by omega, fun z => by omega⟩
        · simp only [List.filter_cons, decide_eq_false a, decide_eq_false b, Bool.false_eq_true, if_false]
          refine ⟨i1, fun z => ?_⟩
          rcases List.mem_cons.mp z with z | z
          · rw [z] at h; omega
          · exact i2 z
  exact (sub _).2 (List.mem_range.mpr hp)
theorem rnk_le {m : Nat} {F : Nat → List Nat} {k : Nat} : rnk m F k ≤ m := by
  unfold rnk
  have := List.length_filter_le (fun j => decide ((F j).length < (F k).length)) (List.range m)
  rw [List.length_range] at this
  exact this
theorem rnk_ltm {m : Nat} {F : Nat → List Nat} {k : Nat} (hk : k < m) : rnk m F k < m := by
  have h1 := rnk_lt (m := m) (F := fun j => if j = k then F k else F j) (p := k) (k := k) hk
  unfold rnk
  have hl : (List.range m).length = m := List.length_range
  conv => rhs; rw [← hl]
  refine Nat.lt_of_le_of_ne (List.length_filter_le _ _) fun e => ?_
  have := List.length_filter_eq_length_iff.mp e k (List.mem_range.mpr hk)
  simp at this
/-! ### reading -/
/-- the row behind a sign -/
def bhd (W : Wys) (row : List Nat) (s : Nat) : Option (List Nat) := match row with
  | [] => none
  | k :: r => (look W (k, s)).map (· ++ r)
def rdt (W : Wys) : List Nat → List Nat → Option (List Nat)
  | row, [] => some row
  | row, s :: t => (bhd W row s).bind fun r => rdt W r t
theorem rdt_app {W : Wys} : ∀ {t u row : List Nat}, rdt W row (t ++ u) = (rdt W row t).bind fun r => rdt W r u
  | [], _, _ => rfl
  | s :: t, u, row => by
    show (bhd W row s).bind (fun r => rdt W r (t ++ u)) = ((bhd W row s).bind fun r => rdt W r t).bind _
    cases bhd W row s with
    | none => rfl
    | some r => exact rdt_app
/-- a row's first text is read to the end -/
theorem rdt_first {m : Nat} {W : Wys} {F : Nat → List Nat} (nd : (W.map (·.1)).Nodup) (ps : ∀ w ∈ W, ∀ p ∈ w.2, p < m) (h : IsFst m W F) : ∀ n row rest, (cat F row).length ≤ n → (∀ p ∈ row, p < m) → rdt W (row ++ rest) (cat F row) = some rest := by
  intro n
  induction n with
  | zero =>
    intro row rest hn hp
    cases row with
    | nil => rfl
    | cons k r =>
      have h0 : 0 < (F k).length := h.nrm.pos (hp k (by simp))
      rw [cat_cons, List.length_append] at hn
      omega
  | succ n ih =>
    intro row rest hn hp
    cases row with
    | nil => rfl
    | cons k r =>
      obtain ⟨s, row2, hw, e⟩ := h.at_ k (hp k (by simp))
      have hl := look_of nd hw
      rw [cat_cons, e, List.length_append, List.length_cons] at hn
      rw [cat_cons, e, List.cons_append, List.cons_append, ← cat_app]
      show (bhd W (k :: (r ++ rest)) s).bind _ = _
      show ((look W (k, s)).map (· ++ (r ++ rest))).bind _ = _
      rw [hl]
      show rdt W (row2 ++ (r ++ rest)) (cat F (row2 ++ r)) = _
      rw [← List.append_assoc]
      refine ih (row2 ++ r) rest (by rw [cat_app, List.length_append]; omega) fun p hp2 => ?_
      rcases List.mem_append.mp hp2 with z | z
      · exact ps _ hw p z
      · exact hp p (by simp [z])
end Pt
namespace Pt
/-! ### rounds over all ways, whatever is found of a kind (a length, a text) -/
section
variable {T : Type} (lt : T → T → Bool) (mk : Nat → List T → T) (best : Nat → T) (m : Nat) (W : Wys) (rk : Nat → Nat)
def Does (k s : Nat) (row : List Nat) : Prop := mk s (row.map best) = best k ∧ ∀ p ∈ row, p < m ∧ rk p < rk k
structure Best : Prop where
  mono : ∀ k s row (f : Nat → T), ((k, s), row) ∈ W → k < m → (∀ p ∈ row, lt (f p) (best p) = false) → lt (mk s (row.map f)) (best k) = false
  at_ : ∀ k, k < m → ∃ s row, ((k, s), row) ∈ W ∧ Does mk best m rk k s row
  anti : ∀ x y, lt x y = false → lt y x = false → x = y
  kinds : ∀ w ∈ W, w.1.1 < m ∧ ∀ p ∈ w.2, p < m
/-- what is known ahead of a way -/
def AllIn (found : Nat → Option T) (row : List Nat) : Prop := ∀ p ∈ row, (found p).isSome = true
def setF (found : Nat → Option T) (k : Nat) (t : T) : Nat → Option T := fun j => if j = k then some t else found j
/-- a better one -/
def Better (found : Nat → Option T) (k : Nat) (t : T) : Prop := found k = none ∨ ∃ u, found k = some u ∧ lt t u = true
structure Rnd (t : Nat) (done : Wys) (found : Nat → Option T) : Prop where
  lo : ∀ k, k < m → ∀ u, found k = some u → lt u (best k) = false
  old : ∀ k, k < m → rk k < t → found k = some (best k)
  new : ∀ k, k < m → rk k ≤ t → (∃ s row, ((k, s), row) ∈ done ∧ Does mk best m rk k s row) → found k = some (best k)
end
section
variable {T : Type} [Inhabited T] {lt : T → T → Bool} {mk : Nat → List T → T} {best : Nat → T} {m : Nat} {W : Wys} {rk : Nat → Nat} {found : Nat → Option T}
def gv (found : Nat → Option T) (p : Nat) : T := (found p).getD default
theorem gv_of {p : Nat} {u : T} (h : found p = some u) : gv found p = u := by unfold gv; rw [h]; rfl
theorem gv_some {p : Nat} (h : (found p).isSome = true) : found p = some (gv found p) := by
  cases e : found p with
  | none => rw [e] at h; cases h
  | some u => rw [gv_of e]
theorem Best.cand (B : Best lt mk best m W rk) {t : Nat} {done : Wys} (R : Rnd lt mk best m rk t done found) {k s : Nat} {row : List Nat} (hw : ((k, s), row) ∈ W) (al : AllIn found row) : lt (mk s (row.map (gv found))) (best k) = false :=
  B.mono k s row _ hw (B.kinds _ hw).1 fun p hp => R.lo p ((B.kinds _ hw).2 p hp) _ (gv_some (al p hp))
/-- a way that is passed over: its parts are not all known, or it is no better -/
theorem Rnd.pass (B : Best lt mk best m W rk) {t : Nat} {done : Wys} (R : Rnd lt mk best m rk t done found) {k s : Nat} {row : List Nat} (hw : ((k, s), row) ∈ W)
    (h : AllIn found row → ∃ u, found k = some u ∧ lt (mk s (row.map (gv found))) u = false) : Rnd lt mk best m rk t (done ++ [((k, s), row)]) found where
  lo := R.lo
  old := R.old
  new := fun j hj hr ⟨s', r', hm, d⟩ => by
    rcases List.mem_append.mp hm with z | z
    · exact R.new j hj hr ⟨s', r', z, d⟩
    · have e : ((j, s'), r') = ((k, s), row) := by simpa using z
      cases e
      have parts : ∀ p ∈ row, found p = some (best p) := fun p hp => R.old p (d.2 p hp).1 (by have := (d.2 p hp).2; omega)
      obtain ⟨u, hu, hl⟩ := h fun p hp => by rw [parts p hp]; rfl
      have e2 : mk s (row.map (gv found)) = best k := by
        rw [← d.1]
        exact congrArg _ (List.map_congr_left fun p hp => gv_of (parts p hp))
      rw [e2] at hl
      rw [hu, B.anti u (best k) (R.lo k hj u hu) hl]
/-- a better one is put down -/
theorem Rnd.put (B : Best lt mk best m W rk) {t : Nat} {done : Wys} (R : Rnd lt mk best m rk t done found) {k s : Nat} {row : List Nat} (hw : ((k, s), row) ∈ W) (al : AllIn found row) (h : Better lt found k (mk s (row.map (gv found)))) :
    Rnd lt mk best m rk t (done ++ [((k, s), row)]) (setF found k (mk s (row.map (gv found)))) := by
  have cd := B.cand R hw al
  -- what is the best already is not bettered
  have stay : ∀ j, j < m → found j = some (best j) → setF found k (mk s (row.map (gv found))) j = some (best j) := fun j hj e => by
    unfold setF
    by_cases z : j = k
    · rw [if_pos z]
      subst z
      rcases h with h | ⟨u, hu, hl⟩
      · rw [e] at h; cases h
      · rw [e] at hu
        cases hu
        rw [cd] at hl
        cases hl
    · rw [if_neg z]; exact e
  refine ⟨fun j hj u hu => ?_, fun j hj hr => stay j hj (R.old j hj hr), fun j hj hr ⟨s', r', hm, d⟩ => ?_⟩
  · unfold setF at hu
    by_cases z : j = k
    · rw [if_pos z] at hu
      cases hu
      rw [z]
      exact cd
    · rw [if_neg z] at hu
      exact R.lo j hj u hu
  · rcases List.mem_append.mp hm with z | z
    · exact stay j hj (R.new j hj hr ⟨s', r', z, d⟩)
    · have e : ((j, s'), r') = ((k, s), row) := by simpa using z
      cases e
      have parts : ∀ p ∈ row, found p = some (best p) := fun p hp => R.old p (d.2 p hp).1 (by have := (d.2 p hp).2; omega)
      unfold setF
      rw [if_pos rfl, ← d.1]
      exact congrArg (fun z => some (mk s z)) (List.map_congr_left fun p hp => gv_of (parts p hp))
theorem Rnd.round (B : Best lt mk best m W rk) {t : Nat} {done : Wys} (R : Rnd lt mk best m rk t done found) (all : ∀ w ∈ W, w ∈ done) : Rnd lt mk best m rk (t + 1) [] found where
  lo := R.lo
  old := fun k hk hr => by
    obtain ⟨s, row, hw, d⟩ := B.at_ k hk
    exact R.new k hk (by omega) ⟨s, row, all _ hw, d⟩
  new := fun k hk hr ⟨s, row, hm, d⟩ => by cases hm
theorem Rnd.start : Rnd lt mk best m rk 0 [] (fun _ => (none : Option T)) where
  lo := fun k hk u hu => by cases hu
  old := fun k hk hr => by omega
  new := fun k hk hr ⟨s, row, hm, d⟩ => by cases hm
/-- nothing more to be bettered: all is found -/
theorem Best.fix (B : Best lt mk best m W rk) (lo : ∀ k, k < m → ∀ u, found k = some u → lt u (best k) = false) (h : ∀ k s row, ((k, s), row) ∈ W → AllIn found row → ∃ u, found k = some u ∧ lt (mk s (row.map (gv found))) u = false) :
    ∀ n k, rk k < n → k < m → found k = some (best k) := by
  intro n
  induction n with
  | zero => intro k hk; omega
  | succ n ih =>
    intro k hk hm
    obtain ⟨s, row, hw, d⟩ := B.at_ k hm
    have parts : ∀ p ∈ row, found p = some (best p) := fun p hp => ih p (by have := (d.2 p hp).2; omega) (d.2 p hp).1
    obtain ⟨u, hu, hl⟩ := h k s row hw fun p hp => by rw [parts p hp]; rfl
    have e2 : mk s (row.map (gv found)) = best k := by
      rw [← d.1]
      exact congrArg _ (List.map_congr_left fun p hp => gv_of (parts p hp))
    rw [e2] at hl
    rw [hu, B.anti u (best k) (lo k hm u hu) hl]
end
/-! ### lengths, texts -/
def mkN (_ : Nat) (ls : List Nat) : Nat := 1 + ls.sum
def ltN (a b : Nat) : Bool := decide (a < b)
def mkT (s : Nat) (ts : List (List Nat)) : List Nat := s :: ts.flatten
theorem flat_map {F : Nat → List Nat} (r : List Nat) : (r.map F).flatten = cat F r := by simp [cat, List.flatMap]
theorem bestT {m : Nat} {W : Wys} {F : Nat → List Nat} (h : IsFst m W F) (ks : ∀ w ∈ W, w.1.1 < m ∧ ∀ p ∈ w.2, p < m) : Best lt2 mkT F m W (rnk m F) where
  mono := fun k s row f hw hk hp => by
    unfold mkT
    rw [flat_map]
    exact le2_tr (h.le k s row hw hk) (le2_cons (cat_le fun p hp' => hp p hp'))
  at_ := fun k hk => by
    obtain ⟨s, row, hw, e⟩ := h.at_ k hk
    refine ⟨s, row, hw, by unfold mkT; rw [flat_map, e], fun p hp => ?_⟩
    have hm := (ks _ hw).2 p hp
    refine ⟨hm, rnk_lt hm ?_⟩
    have h3 : (F p).length ≤ sumN (fun k => (F k).length) row := le_sumN (N := fun k => (F k).length) hp
    rw [e, List.length_cons, cat_len]
    omega
  anti := fun x y h1 h2 => lt2_tot h1 h2
  kinds := ks
theorem bestN {m : Nat} {W : Wys} {F : Nat → List Nat} (h : IsFst m W F) (ks : ∀ w ∈ W, w.1.1 < m ∧ ∀ p ∈ w.2, p < m) : Best ltN mkN (fun k => (F k).length) m W (rnk m F) where
  mono := fun k s row f hw hk hp => by
    have h1 := h.nrm.le k s row hw hk
    have h2 : sumN (fun k => (F k).length) row ≤ sumN f row := sumN_le fun p hp' => by
      have := hp p hp'
      simp only [ltN, decide_eq_false_iff_not] at this
      omega
    show decide (1 + (row.map f).sum < (F k).length) = false
    simp only [decide_eq_false_iff_not]
    simp only [sumN] at h1 h2
    omega
  at_ := fun k hk => by
    obtain ⟨s, row, hw, d⟩ := (bestT h ks).at_ k hk
    refine ⟨s, row, hw, ?_, d.2⟩
    have e : (mkT s (row.map F)).length = (F k).length := congrArg List.length d.1
    unfold mkT at e
    rw [flat_map, List.length_cons, cat_len] at e
    show 1 + (row.map fun k => (F k).length).sum = (F k).length
    simp only [sumN] at e
    omega
  anti := fun x y h1 h2 => by
    simp only [ltN, decide_eq_false_iff_not] at h1 h2
    omega
  kinds := ks
end Pt
namespace Pt
/-! ### how far a text is read -/
def wk (W : Wys) : List Nat → List Nat → List Nat × Nat
  | r, [] => (r, 0)
  | r, s :: t => match bhd W r s with
    | none => (r, 0)
    | some r' => ((wk W r' t).1, (wk W r' t).2 + 1)
theorem wk_all {W : Wys} : ∀ {t r r' : List Nat}, rdt W r t = some r' → wk W r t = (r', t.length)
  | [], r, r', h => by cases h; rfl
  | s :: t, r, r', h => by
    have h2 : (bhd W r s).bind (fun r => rdt W r t) = some r' := h
    cases e : bhd W r s with
    | none => rw [e] at h2; cases h2
    | some r1 =>
      rw [e] at h2
      have ih := wk_all (t := t) h2
      unfold wk
      rw [e]
      simp only [ih, List.length_cons]
theorem wk_stop {W : Wys} : ∀ {t r ri : List Nat} {i s : Nat}, t[i]? = some s → rdt W r (t.take i) = some ri → bhd W ri s = none → wk W r t = (ri, i)
  | [], _, _, i, _, h, _, _ => by simp at h
  | c :: t, r, ri, 0, s, h, h1, h2 => by
    cases h
    have e : r = ri := Option.some.inj h1
    subst e
    unfold wk
    rw [h2]
  | c :: t, r, ri, i + 1, s, h, h1, h2 => by
    have h3 : (bhd W r c).bind (fun r => rdt W r (t.take i)) = some ri := h1
    cases e : bhd W r c with
    | none => rw [e] at h3; cases h3
    | some r1 =>
      rw [e] at h3
      have ih := wk_stop (t := t) (by simpa using h) h3 h2
      unfold wk
      rw [e]
      simp only [ih]
theorem wk_le {W : Wys} : ∀ (t r : List Nat), (wk W r t).2 ≤ t.length
  | [], r => Nat.le_refl _
  | s :: t, r => by
    unfold wk
    cases e : bhd W r s with
    | none => simp
    | some r1 => have := wk_le (W := W) t r1; simp; omega
theorem wk_full {W : Wys} : ∀ {t r : List Nat}, (wk W r t).2 = t.length → rdt W r t = some (wk W r t).1
  | [], r, _ => rfl
  | s :: t, r, h => by
    unfold wk at h ⊢
    show (bhd W r s).bind (fun r => rdt W r t) = _
    cases e : bhd W r s with
    | none => rw [e] at h; simp at h
    | some r1 =>
      rw [e] at h
      simp only [List.length_cons, Nat.add_right_cancel_iff] at h
      exact wk_full h
theorem rdt_wk {W : Wys} {t r : List Nat} : rdt W r t = if (wk W r t).2 = t.length then some (wk W r t).1 else none := by
  split
  · exact wk_full (by assumption)
  · rename_i h
    cases e : rdt W r t with
    | none => rfl
    | some r' => exact absurd (by rw [wk_all e]) h
theorem rdt_snoc {W : Wys} {t r r1 : List Nat} {s : Nat} (h : rdt W r t = some r1) : rdt W r (t ++ [s]) = bhd W r1 s := by
  rw [rdt_app, h]
  show (bhd W r1 s).bind (fun r => rdt W r []) = _
  cases bhd W r1 s <;> rfl
theorem look_congr {V W : Wys} (nv : (V.map (·.1)).Nodup) (nw : (W.map (·.1)).Nodup) (e : ∀ w, w ∈ V ↔ w ∈ W) (q : Kd) : look V q = look W q := by
  cases h : look V q with
  | some r => exact (look_of nw ((e _).mp (look_mem h))).symm
  | none =>
    cases h2 : look W q with
    | none => rfl
    | some r =>
      rw [look_of nv ((e _).mpr (look_mem h2))] at h
      cases h
/-- kinds below m, and short ways -/
theorem bhd_ok {m : Nat} {W : Wys} (ok : ∀ w ∈ W, w.2.length ≤ 60 ∧ ∀ k ∈ w.2, k < m) {r r' : List Nat} {s : Nat} (h : bhd W r s = some r') (hr : ∀ k ∈ r, k < m) : (∀ k ∈ r', k < m) ∧ r'.length ≤ r.length + 60 := by
  cases r with
  | nil => cases h
  | cons k r =>
    have h1 : (look W (k, s)).map (· ++ r) = some r' := h
    obtain ⟨w, h2, h3⟩ := Option.map_eq_some_iff.mp h1
    obtain ⟨o1, o2⟩ := ok _ (look_mem h2)
    subst h3
    refine ⟨fun j hj => ?_, by simp only [List.length_append, List.length_cons]; simp only at o1; omega⟩
    rcases List.mem_append.mp hj with z | z
    · exact o2 j z
    · exact hr j (by simp [z])
end Pt
namespace Pt
/-! ### a row's texts, listed -/
/-- all texts of n signs, sign by sign -/
def lts (W : Wys) (S : List Nat) : Nat → List Nat → List (List Nat)
  | 0, r => if r = [] then [[]] else []
  | n + 1, r => S.flatMap fun s => match bhd W r s with
    | none => []
    | some r' => (lts W S n r').map (s :: ·)
theorem lts_mem {W : Wys} {S : List Nat} : ∀ {n : Nat} {r t : List Nat}, t ∈ lts W S n r ↔ t.length = n ∧ (∀ c ∈ t, c ∈ S) ∧ rdt W r t = some []
  | 0, r, t => by
    unfold lts
    constructor
    · intro h
      by_cases e : r = []
      · rw [if_pos e] at h
        rw [List.mem_singleton.mp h, e]
        exact ⟨rfl, fun c hc => (List.not_mem_nil hc).elim, rfl⟩
      · rw [if_neg e] at h
        cases h
    · rintro ⟨h1, _, h2⟩
      cases List.length_eq_zero_iff.mp h1
      rw [if_pos (Option.some.inj h2)]
      simp
  | n + 1, r, t => by
    unfold lts
    rw [List.mem_flatMap]
    constructor
    · rintro ⟨s, hs, h⟩
      cases e : bhd W r s with
      | none => rw [e] at h; cases h
      | some r' =>
        rw [e] at h
        obtain ⟨u, hu, rfl⟩ := List.mem_map.mp h
        obtain ⟨h1, h2, h3⟩ := lts_mem.mp hu
        refine ⟨by simp [h1], fun c hc => ?_, ?_⟩
        · rcases List.mem_cons.mp hc with z | z
          · rw [z]; exact hs
          · exact h2 c z
        · show (bhd W r s).bind (fun r => rdt W r u) = _
          rw [e]
          exact h3
    · rintro ⟨h1, h2, h3⟩
      cases t with
      | nil => cases h1
      | cons s u =>
        have h4 : (bhd W r s).bind (fun r => rdt W r u) = some [] := h3
        refine ⟨s, h2 s (by simp), ?_⟩
        cases e : bhd W r s with
        | none => rw [e] at h4; cases h4
        | some r' =>
          rw [e] at h4
          exact List.mem_map.mpr ⟨u, lts_mem.mpr ⟨by simpa using h1, fun c hc => h2 c (by simp [hc]), h4⟩, rfl⟩
/-- they stand in their order -/
theorem lts_sorted {W : Wys} {S : List Nat} (hS : S.Pairwise (· < ·)) : ∀ (n : Nat) (r : List Nat), (lts W S n r).Pairwise fun a b => lx a b = true
  | 0, r => by
    unfold lts
    by_cases e : r = []
    · rw [if_pos e]; simp
    · rw [if_neg e]; simp
  | n + 1, r => by
    unfold lts
    rw [List.pairwise_flatMap]
    refine ⟨fun s _ => ?_, hS.imp fun {s s'} hs x hx y hy => ?_⟩
    · cases e : bhd W r s with
      | none => simp
      | some r' =>
        simp only
        rw [List.pairwise_map]
        exact (lts_sorted hS n r').imp fun {a b} h => by
          show lx ([s] ++ a) ([s] ++ b) = true
          rw [lx_pre]
          exact h
    · cases e : bhd W r s with
      | none => rw [e] at hx; cases hx
      | some r' =>
        cases e2 : bhd W r s' with
        | none => rw [e2] at hy; cases hy
        | some r2 =>
          rw [e] at hx
          rw [e2] at hy
          obtain ⟨u, _, rfl⟩ := List.mem_map.mp hx
          obtain ⟨v, _, rfl⟩ := List.mem_map.mp hy
          simp [lx, hs]
theorem lts_len {W : Wys} {S : List Nat} : ∀ (n : Nat) (r : List Nat), (lts W S n r).length ≤ S.length ^ n
  | 0, r => by
    unfold lts
    by_cases e : r = [] <;> simp [e]
  | n + 1, r => by
    unfold lts
    rw [List.length_flatMap]
    have h : ∀ l : List Nat, (l.map fun s => (match bhd W r s with | none => [] | some r' => (lts W S n r').map (s :: ·) : List (List Nat)).length).sum ≤ l.length * S.length ^ n := by
      intro l
      induction l with
      | nil => simp
      | cons s l ih =>
        rw [List.map_cons, List.sum_cons, List.length_cons, Nat.succ_mul]
        have : (match bhd W r s with | none => [] | some r' => (lts W S n r').map (s :: ·) : List (List Nat)).length ≤ S.length ^ n := by
          cases bhd W r s with
          | none => simp
          | some r' => simp only [List.length_map]; exact lts_len n r'
        omega
    have := h S
    rw [Nat.pow_succ, Nat.mul_comm]
    exact this
/-! ### going sign by sign with texts and rows -/
abbrev Fro := List (List Nat × List Nat)
/-- what is ahead of one text more -/
def stp1 (W : Wys) (ok : List Nat → Bool) (p : List Nat × List Nat) (s : Nat) : Fro := match bhd W p.2 s with
  | none => []
  | some r' => if ok r' then [(p.1 ++ [s], r')] else []
def stp (W : Wys) (S : List Nat) (ok : List Nat → Bool) (f : Fro) : Fro := f.flatMap fun p => S.flatMap (stp1 W ok p)
def res (W : Wys) (S : List Nat) (L : Nat) (f : Fro) : List (List Nat) := f.flatMap fun p => (lts W S L p.2).map (p.1 ++ ·)
theorem flatMap_congr' {α β : Type} {f g : α → List β} : ∀ {l : List α}, (∀ x ∈ l, f x = g x) → l.flatMap f = l.flatMap g
  | [], _ => rfl
  | x :: l, h => by rw [List.flatMap_cons, List.flatMap_cons, h x (by simp), flatMap_congr' fun y hy => h y (by simp [hy])]
theorem res_step {W : Wys} {S : List Nat} {ok : List Nat → Bool} {L : Nat} {f : Fro} (h : ∀ p ∈ f, ∀ s r', bhd W p.2 s = some r' → ok r' = false → lts W S L r' = []) : res W S L (stp W S ok f) = res W S (L + 1) f := by
  unfold res stp
  rw [List.flatMap_assoc]
  refine flatMap_congr' fun p hp => ?_
  conv => rhs; unfold lts
  rw [List.flatMap_assoc, List.map_flatMap]
  refine flatMap_congr' fun s hs => ?_
  unfold stp1
  cases e : bhd W p.2 s with
  | none => rfl
  | some r' =>
    simp only
    cases ho : ok r' with
    | true => simp
    | false => rw [h p hp s r' e ho]; simp
theorem res_zero {W : Wys} {S : List Nat} (f : Fro) : res W S 0 f = (f.filter fun p => decide (p.2 = [])).map (·.1) := by
  induction f with
  | nil => rfl
  | cons p f ih =>
    unfold res at ih ⊢
    rw [List.flatMap_cons, ih, List.filter_cons]
    unfold lts
    by_cases e : p.2 = []
    · simp [e]
    · simp [e]
theorem stp_ok {m : Nat} {W : Wys} {S : List Nat} {ok : List Nat → Bool} {f : Fro} {B : Nat} (okW : ∀ w ∈ W, w.2.length ≤ 60 ∧ ∀ k ∈ w.2, k < m) (h : ∀ p ∈ f, (∀ k ∈ p.2, k < m) ∧ p.2.length ≤ B) : ∀ p ∈ stp W S ok f, (∀ k ∈ p.2, k < m) ∧ p.2.length ≤ B + 60 := by
  intro p hp
  unfold stp at hp
  obtain ⟨q, hq, h1⟩ := List.mem_flatMap.mp hp
  obtain ⟨s, hs, h2⟩ := List.mem_flatMap.mp h1
  unfold stp1 at h2
  cases e : bhd W q.2 s with
  | none => rw [e] at h2; cases h2
  | some r' =>
    rw [e] at h2
    simp only at h2
    cases ho : ok r' with
    | false => rw [ho] at h2; cases h2
    | true =>
      rw [ho, if_pos rfl] at h2
      rw [List.mem_singleton.mp h2]
      obtain ⟨a, b⟩ := bhd_ok okW e (h q hq).1
      exact ⟨a, by have := (h q hq).2; simp only; omega⟩
theorem stp_len {W : Wys} {S : List Nat} {ok : List Nat → Bool} {f : Fro} : (stp W S ok f).length ≤ f.length * S.length := by
  have h1 : ∀ (p : List Nat × List Nat) (l : List Nat), (l.flatMap (stp1 W ok p)).length ≤ l.length := by
    intro p l
    induction l with
    | nil => simp
    | cons s l ih =>
      rw [List.flatMap_cons, List.length_append, List.length_cons]
      have : (stp1 W ok p s).length ≤ 1 := by
        unfold stp1
        cases bhd W p.2 s with
        | none => simp
        | some r' => simp only; split <;> simp
      omega
  unfold stp
  induction f with
  | nil => simp
  | cons p f ih =>
    rw [List.flatMap_cons, List.length_append, List.length_cons, Nat.succ_mul]
    have := h1 p S
    omega
theorem stp_txt {W : Wys} {S : List Nat} {ok : List Nat → Bool} {f : Fro} {n : Nat} (h : ∀ p ∈ f, p.1.length = n) : ∀ p ∈ stp W S ok f, p.1.length = n + 1 := by
  intro p hp
  unfold stp at hp
  obtain ⟨q, hq, h1⟩ := List.mem_flatMap.mp hp
  obtain ⟨s, hs, h2⟩ := List.mem_flatMap.mp h1
  unfold stp1 at h2
  cases e : bhd W q.2 s with
  | none => rw [e] at h2; cases h2
  | some r' =>
    rw [e] at h2
    simp only at h2
    cases ho : ok r' with
    | false => rw [ho] at h2; cases h2
    | true =>
      rw [ho, if_pos rfl] at h2
      rw [List.mem_singleton.mp h2]
      simp [h q hq]
/-! ### norms and first texts bound -/
theorem rdt_norm {m : Nat} {W : Wys} {F : Nat → List Nat} (ps : ∀ w ∈ W, w.2.length ≤ 60 ∧ ∀ p ∈ w.2, p < m) (h : IsFst m W F) : ∀ {t r r' : List Nat}, (∀ k ∈ r, k < m) → rdt W r t = some r' → sumN (fun k => (F k).length) r ≤ t.length + sumN (fun k => (F k).length) r'
  | [], r, r', _, e => by cases e; simp
  | s :: t, r, r', hr, e => by
    have e2 : (bhd W r s).bind (fun r => rdt W r t) = some r' := e
    cases e3 : bhd W r s with
    | none => rw [e3] at e2; cases e2
    | some r1 =>
      rw [e3] at e2
      have ih := rdt_norm ps h (bhd_ok ps e3 hr).1 (show rdt W r1 t = some r' from e2)
      cases r with
      | nil => cases e3
      | cons k r =>
        have h1 : (look W (k, s)).map (· ++ r) = some r1 := e3
        obtain ⟨w, h2, rfl⟩ := Option.map_eq_some_iff.mp h1
        have h4 := h.nrm.le k s w (look_mem h2) (hr k (by simp))
        rw [sumN_app] at ih
        have e5 : sumN (fun k => (F k).length) (k :: r) = (F k).length + sumN (fun k => (F k).length) r := by simp [sumN]
        rw [e5, List.length_cons]
        omega
theorem lts_norm {m : Nat} {W : Wys} {F : Nat → List Nat} {S : List Nat} {L : Nat} {r : List Nat} (ps : ∀ w ∈ W, w.2.length ≤ 60 ∧ ∀ p ∈ w.2, p < m) (h : IsFst m W F) (hr : ∀ k ∈ r, k < m) (hn : L < sumN (fun k => (F k).length) r) : lts W S L r = [] := by
  cases e : lts W S L r with
  | nil => rfl
  | cons t l =>
    exfalso
    have ht : t ∈ lts W S L r := by rw [e]; simp
    obtain ⟨h1, _, h3⟩ := lts_mem.mp ht
    have := rdt_norm ps h hr h3
    simp only [sumN, List.map_nil, List.sum_nil] at this hn
    omega
theorem first_le {m : Nat} {W : Wys} {F : Nat → List Nat} (ps : ∀ w ∈ W, w.2.length ≤ 60 ∧ ∀ p ∈ w.2, p < m) (h : IsFst m W F) : ∀ {t r : List Nat}, (∀ k ∈ r, k < m) → rdt W r t = some [] → le2 (cat F r) t
  | [], r, hr, e => by
    have : r = [] := Option.some.inj e
    rw [this]
    exact le2_refl _
  | s :: t, r, hr, e => by
    have e2 : (bhd W r s).bind (fun r => rdt W r t) = some [] := e
    cases e3 : bhd W r s with
    | none => rw [e3] at e2; cases e2
    | some r1 =>
      rw [e3] at e2
      have ih := first_le ps h (bhd_ok ps e3 hr).1 (show rdt W r1 t = some [] from e2)
      cases r with
      | nil => cases e3
      | cons k r =>
        have h1 : (look W (k, s)).map (· ++ r) = some r1 := e3
        obtain ⟨w, h2, rfl⟩ := Option.map_eq_some_iff.mp h1
        have h4 := h.le k s w (look_mem h2) (hr k (by simp))
        rw [cat_app] at ih
        rw [cat_cons]
        refine le2_tr (b := (s :: cat F w) ++ cat F r) (le2_app h4 (le2_refl _)) ?_
        rw [List.cons_append]
        exact le2_cons ih
/-! ### all texts of up to so many signs -/
def told (W : Wys) (S : List Nat) (n : Nat) (r : List Nat) : List (List Nat) := (List.range n).flatMap fun L => lts W S L r
theorem told_succ {W : Wys} {S : List Nat} {n : Nat} {r : List Nat} : told W S (n + 1) r = told W S n r ++ lts W S n r := by
  unfold told
  rw [List.range_succ, List.flatMap_append]
  simp
theorem told_mem {W : Wys} {S : List Nat} {n : Nat} {r t : List Nat} : t ∈ told W S n r ↔ t.length < n ∧ (∀ c ∈ t, c ∈ S) ∧ rdt W r t = some [] := by
  unfold told
  rw [List.mem_flatMap]
  constructor
  · rintro ⟨L, hL, h⟩
    obtain ⟨h1, h2⟩ := lts_mem.mp h
    exact ⟨by rw [h1]; exact List.mem_range.mp hL, h2⟩
  · rintro ⟨h1, h2⟩
    exact ⟨_, List.mem_range.mpr h1, lts_mem.mpr ⟨rfl, h2⟩⟩
theorem told_sorted {W : Wys} {S : List Nat} (hS : S.Pairwise (· < ·)) (n : Nat) (r : List Nat) : (told W S n r).Pairwise fun a b => lt2 a b = true := by
  unfold told
  rw [List.pairwise_flatMap]
  refine ⟨fun L _ => ?_, ?_⟩
  · refine (lts_sorted hS L r).imp_of_mem fun {a b} ha hb h => ?_
    obtain ⟨a1, _⟩ := lts_mem.mp ha
    obtain ⟨b1, _⟩ := lts_mem.mp hb
    simp [lt2, a1, b1, h]
  · refine List.Pairwise.imp ?_ List.pairwise_lt_range
    intro a b hab x hx y hy
    obtain ⟨a1, _⟩ := lts_mem.mp hx
    obtain ⟨b1, _⟩ := lts_mem.mp hy
    have : x.length < y.length := by omega
    simp [lt2, this]
/-- the first of all is the first text -/
theorem told_first {m : Nat} {W : Wys} {F : Nat → List Nat} {S : List Nat} {n : Nat} {r t : List Nat} {l : List (List Nat)} (nd : (W.map (·.1)).Nodup) (ps : ∀ w ∈ W, w.2.length ≤ 60 ∧ ∀ p ∈ w.2, p < m) (sg : ∀ w ∈ W, w.1.2 ∈ S) (h : IsFst m W F) (hS : S.Pairwise (· < ·)) (hr : ∀ k ∈ r, k < m)
    (e : told W S n r = t :: l) : t = cat F r := by
  have so := told_sorted (W := W) hS n r
  have ht : t ∈ told W S n r := by rw [e]; simp
  obtain ⟨t1, t2, t3⟩ := told_mem.mp ht
  have le := first_le ps h hr t3
  have rf : rdt W r (cat F r) = some [] := by
    have := rdt_first nd (fun w hw => (ps w hw).2) h _ r [] (Nat.le_refl _) hr
    rwa [List.append_nil] at this
  have sgs : ∀ {u q q' : List Nat}, rdt W q u = some q' → ∀ c ∈ u, c ∈ S := by
    intro u
    induction u with
    | nil => intro _ _ _ c hc; cases hc
    | cons s u ih =>
      intro q q' hq c hc
      have e2 : (bhd W q s).bind (fun r => rdt W r u) = some q' := hq
      cases e3 : bhd W q s with
      | none => rw [e3] at e2; cases e2
      | some q1 =>
        rw [e3] at e2
        rcases List.mem_cons.mp hc with z | z
        · cases q with
          | nil => cases e3
          | cons k q =>
            have h1 : (look W (k, s)).map (· ++ q) = some q1 := e3
            obtain ⟨w, h2, _⟩ := Option.map_eq_some_iff.mp h1
            rw [z]
            exact sg _ (look_mem h2)
        · exact ih e2 c z
  have hc : cat F r ∈ told W S n r := told_mem.mpr ⟨Nat.lt_of_le_of_lt (le2_len le) t1, sgs rf, rf⟩
  rw [e] at hc so
  rcases List.mem_cons.mp hc with z | z
  · exact z.symm
  · have h1 := (List.pairwise_cons.mp so).1 _ z
    unfold le2 at le
    rw [h1] at le
    cases le
theorem rdt_sg {W : Wys} {S : List Nat} (sg : ∀ w ∈ W, w.1.2 ∈ S) : ∀ {u q q' : List Nat}, rdt W q u = some q' → ∀ c ∈ u, c ∈ S := by
    intro u
    induction u with
    | nil => intro _ _ _ c hc; cases hc
    | cons s u ih =>
      intro q q' hq c hc
      have e2 : (bhd W q s).bind (fun r => rdt W r u) = some q' := hq
      cases e3 : bhd W q s with
      | none => rw [e3] at e2; cases e2
      | some q1 =>
        rw [e3] at e2
        rcases List.mem_cons.mp hc with z | z
        · cases q with
          | nil => cases e3
          | cons k q =>
            have h1 : (look W (k, s)).map (· ++ q) = some q1 := e3
            obtain ⟨w, h2, _⟩ := Option.map_eq_some_iff.mp h1
            rw [z]
            exact sg _ (look_mem h2)
        · exact ih e2 c z
/-- no text begins another one -/
theorem no_pre {W : Wys} {r t u : List Nat} (h1 : rdt W r t = some []) (h2 : rdt W r u = some []) (e : u.take t.length = t) : u = t := by
  have h3 : u = t ++ u.drop t.length := by
    have := List.take_append_drop t.length u
    rw [e] at this
    exact this.symm
  generalize u.drop t.length = v at h3
  rw [h3, rdt_app, h1] at h2
  cases v with
  | nil => rw [h3]; simp
  | cons c v => cases h2
end Pt
namespace Pt
/-! ### how many texts -/
def cN (W : Wys) (S : List Nat) (r : List Nat) (n : Nat) : Nat := (lts W S n r).length
/-- sums of products -/
def cnv (f g : Nat → Nat) (n : Nat) : Nat := ((List.range (n + 1)).map fun a => f a * g (n - a)).sum
theorem sum_add {α : Type} {f g : α → Nat} : ∀ l : List α, (l.map fun x => f x + g x).sum = (l.map f).sum + (l.map g).sum
  | [] => rfl
  | x :: l => by
    simp only [List.map_cons, List.sum_cons, sum_add l]
    omega
theorem sum_mul {α : Type} {f : α → Nat} {c : Nat} : ∀ l : List α, (l.map fun x => f x * c).sum = (l.map f).sum * c
  | [] => by simp
  | x :: l => by simp only [List.map_cons, List.sum_cons, sum_mul l, Nat.add_mul]
theorem sum_zero {α : Type} {f : α → Nat} : ∀ {l : List α}, (∀ x ∈ l, f x = 0) → (l.map f).sum = 0
  | [], _ => rfl
  | x :: l, h => by
    rw [List.map_cons, List.sum_cons, h x (by simp), sum_zero fun y hy => h y (by simp [hy])]
theorem sum_swap {α β : Type} {f : α → β → Nat} (l : List α) : ∀ k : List β, (l.map fun x => (k.map (f x)).sum).sum = (k.map fun y => (l.map fun x => f x y).sum).sum
  | [] => by
    show (l.map fun x => 0).sum = 0
    exact sum_zero fun _ _ => rfl
  | y :: k => by
    simp only [List.map_cons, List.sum_cons]
    rw [sum_add, sum_swap l k]
theorem sum_congr {α : Type} {f g : α → Nat} {l : List α} (h : ∀ x ∈ l, f x = g x) : (l.map f).sum = (l.map g).sum := by rw [List.map_congr_left h]
theorem cN_nil {W : Wys} {S : List Nat} (n : Nat) : cN W S [] n = if n = 0 then 1 else 0 := by
  cases n with
  | zero => rfl
  | succ n =>
    rw [if_neg (by omega)]
    unfold cN
    rw [List.length_eq_zero_iff, List.eq_nil_iff_forall_not_mem]
    intro t ht
    obtain ⟨h1, _, h3⟩ := lts_mem.mp ht
    cases t with
    | nil => cases h1
    | cons s u => cases h3
theorem cN_zero {W : Wys} {S : List Nat} {k : Nat} {r : List Nat} : cN W S (k :: r) 0 = 0 := rfl
/-- the row behind, or none: how many texts -/
def cO (W : Wys) (S : List Nat) (o : Option (List Nat)) (n : Nat) : Nat := match o with
  | none => 0
  | some r => cN W S r n
theorem cN_succ {W : Wys} {S : List Nat} {r : List Nat} {n : Nat} : cN W S r (n + 1) = (S.map fun s => cO W S (bhd W r s) n).sum := by
  unfold cN
  conv => lhs; unfold lts
  rw [List.length_flatMap]
  refine sum_congr fun s _ => ?_
  cases bhd W r s with
  | none => rfl
  | some r' => simp [cO, cN]
theorem bhd_app {W : Wys} {k : Nat} {a b : List Nat} {s : Nat} : bhd W (k :: a ++ b) s = (bhd W (k :: a) s).map (· ++ b) := by
  show (look W (k, s)).map (· ++ (a ++ b)) = ((look W (k, s)).map (· ++ a)).map (· ++ b)
  rw [Option.map_map]
  congr 1
  funext x
  simp
theorem cnv_succ {f g : Nat → Nat} {n : Nat} (h : f 0 = 0) : cnv f g (n + 1) = cnv (fun i => f (i + 1)) g n := by
  unfold cnv
  rw [List.range_succ_eq_map, List.map_cons, List.sum_cons, List.map_map, h, Nat.zero_mul, Nat.zero_add]
  refine sum_congr fun i hi => ?_
  show f (i + 1) * g (n + 1 - (i + 1)) = _
  rw [Nat.add_sub_add_right]
theorem cN_app {W : Wys} {S : List Nat} : ∀ (n : Nat) (a b : List Nat), cN W S (a ++ b) n = cnv (cN W S a) (cN W S b) n
  | n, [], b => by
    rw [List.nil_append]
    unfold cnv
    rw [List.range_succ_eq_map, List.map_cons, List.sum_cons, List.map_map, cN_nil, if_pos rfl, Nat.one_mul, Nat.sub_zero, sum_zero fun i hi => ?_]
    · rfl
    · show cN W S [] (i + 1) * _ = 0
      rw [cN_nil, if_neg (by omega), Nat.zero_mul]
  | 0, k :: a, b => by
    show cN W S (k :: (a ++ b)) 0 = cnv _ _ 0
    unfold cnv
    simp [cN_zero]
  | n + 1, k :: a, b => by
    rw [cnv_succ cN_zero, cN_succ]
    have h1 : ∀ s ∈ S, cO W S (bhd W (k :: a ++ b) s) n = ((List.range (n + 1)).map fun i => cO W S (bhd W (k :: a) s) i * cN W S b (n - i)).sum := fun s _ => by
      rw [bhd_app]
      cases e : bhd W (k :: a) s with
      | none =>
        show 0 = _
        rw [sum_zero fun i _ => ?_]
        show 0 * _ = 0
        rw [Nat.zero_mul]
      | some r' =>
        show cN W S (r' ++ b) n = _
        rw [cN_app n r' b]
        rfl
    rw [sum_congr h1, sum_swap]
    unfold cnv
    refine sum_congr fun i hi => ?_
    rw [sum_mul]
    congr 1
    exact cN_succ.symm
theorem cN_cons {W : Wys} {S : List Nat} {k : Nat} {r : List Nat} {n : Nat} : cN W S (k :: r) n = cnv (cN W S [k]) (cN W S r) n := cN_app n [k] r
/-- the texts of a kind, way by way -/
theorem cN_kind {W : Wys} {S : List Nat} {k n : Nat} (nd : (W.map (·.1)).Nodup) (sg : ∀ w ∈ W, w.1.2 ∈ S) (hS : S.Nodup) : cN W S [k] (n + 1) = ((W.filter fun w => decide (w.1.1 = k)).map fun w => cN W S w.2 n).sum := by
  rw [cN_succ]
  have A : ∀ (g : List Nat → Nat) (V : Wys), (V.map (·.1)).Nodup → ∀ s, ((look V (k, s)).map g).getD 0 = (V.map fun w => if w.1 = (k, s) then g w.2 else 0).sum := by
    intro g V
    induction V with
    | nil => intro _ _; rfl
    | cons w V ih =>
      intro nd s
      rw [List.map_cons, List.nodup_cons] at nd
      rw [List.map_cons, List.sum_cons]
      unfold look
      rw [List.find?_cons]
      by_cases e : w.1 = (k, s)
      · rw [decide_eq_true e, if_pos e, sum_zero fun v hv => if_neg fun z => nd.1 (by rw [e, ← z]; exact List.mem_map.mpr ⟨v, hv, rfl⟩)]
        rfl
      · rw [decide_eq_false e, if_neg e, Nat.zero_add]
        exact ih nd.2 s
  have B : ∀ (g : List Nat → Nat) (w : Kd × List Nat), w.1.2 ∈ S → (S.map fun s => if w.1 = (k, s) then g w.2 else 0).sum = if w.1.1 = k then g w.2 else 0 := by
    intro g w hw
    by_cases e : w.1.1 = k
    · rw [if_pos e]
      clear A nd sg
      induction S with
      | nil => cases hw
      | cons s S ih =>
        rw [List.nodup_cons] at hS
        rw [List.map_cons, List.sum_cons]
        by_cases z : w.1.2 = s
        · rw [if_pos (by rw [← e, ← z]), sum_zero fun s' hs' => if_neg fun q => hS.1 (by rw [← z, congrArg Prod.snd q]; exact hs')]
          rfl
        · rw [if_neg (fun q => z (congrArg Prod.snd q)), Nat.zero_add]
          rcases List.mem_cons.mp hw with q | q
          · exact absurd q z
          · exact ih hS.2 q
    · rw [if_neg e, sum_zero fun s _ => if_neg fun q => e (congrArg Prod.fst q)]
  have C : ∀ s ∈ S, cO W S (bhd W [k] s) n = (W.map fun w => if w.1 = (k, s) then cN W S w.2 n else 0).sum := fun s _ => by
    rw [← A (fun r => cN W S r n) W nd s]
    show cO W S ((look W (k, s)).map (· ++ [])) n = _
    cases look W (k, s) with
    | none => rfl
    | some r =>
      show cN W S (r ++ []) n = cN W S r n
      rw [List.append_nil]
  rw [sum_congr C, sum_swap]
  have D : ∀ w ∈ W, (S.map fun s => if w.1 = (k, s) then cN W S w.2 n else 0).sum = if w.1.1 = k then cN W S w.2 n else 0 := fun w hw => B (fun r => cN W S r n) w (sg w hw)
  rw [sum_congr D]
  have F : ∀ (g : Kd × List Nat → Nat) (V : Wys), (V.map fun w => if w.1.1 = k then g w else 0).sum = ((V.filter fun w => decide (w.1.1 = k)).map g).sum := by
    intro g V
    induction V with
    | nil => rfl
    | cons w V ih =>
      rw [List.map_cons, List.sum_cons, List.filter_cons, ih]
      by_cases e : w.1.1 = k
      · rw [if_pos e, decide_eq_true e, if_pos rfl, List.map_cons, List.sum_cons]
      · rw [if_neg e, decide_eq_false e, if_neg (by simp), Nat.zero_add]
  exact F (fun w => cN W S w.2 n) W
end Pt
namespace Pt
open PySem PySem.Spec PyProof.Rows L2
/-! ### steps for own classes -/
section
variable {K : PySem.W.Frag} {σ : L2.St} {H : Hp} {D : Ends} {Q : VK} {ta tb tv : TE} {f : Str} {as : TA}
theorem w_fld (h : ta σ H fun x H1 => ∃ a C dx fs v, x = .ref a ∧ H1 a = some (.ins C dx fs) ∧ Cls K C ∧ NoAttr K C f ∧ fs.lookup f = some v ∧ Q v H1) : tFld K ta f σ H Q := h
theorem w_sfld (h : tv σ H fun y H1 => ta σ H1 fun x H2 => ∃ a C dx fs, x = .ref a ∧ H2 a = some (.ins C dx fs) ∧ Cls K C ∧ NoAttr K C f ∧ fs.length < 1000 ∧ D.nx σ (upd H2 a (.ins C dx (putF f y fs)))) : sFld K ta tv f D σ H := h
theorem w_dget2 {td : TE} (h : td σ H fun x H1 => ∃ a, x = .ref a ∧ IsD H1 a ∧ ta σ H1 fun y H2 => tb σ H2 fun z H3 => ∃ o, DGet H3 a y o ∧ Q (o.getD z) H3) : tDGet2 td ta tb σ H Q := h
theorem w_mk {C : Addr} {sp : Sp} (h : as σ H fun vs H1 => ∀ x dx, H1 x = none → H1 dx = none → dx ≠ x → sp (.ref x :: vs) (upd (upd H1 dx (.own x)) x (.ins C dx [])) (fun v H2 => v = .non ∧ Q (.ref x) H2) E0) : tMk C sp as σ H Q := h
theorem w_lstrg (h : ta σ H fun x H1 => ∃ n : Int, x = .int n ∧ RgOk 0 n ∧ ∀ q, H1 q = none → Q (.ref q) (upd H1 q (.lst (rgV 0 n)))) : tLstRg (tRg1 ta) σ H Q := by
  show tRg1 ta σ H _
  refine cast (congrArg (fun z => ta σ H z) ?_) h
  rfl
end
end Pt
namespace Pt
open PySem PySem.Spec PyProof.Rows L2
/-! ### dict comprehensions with tuple keys, over a walk -/
theorem w_dct {wi : TI} {g : TG} {tt : TT} {tk tv : TE} {vs : List Nat} {σ : L2.St} {H : Hp} {Q : VK} (h : wi σ H fun J H1 => ∀ D, H1 D = none → ∃ W : Nat → Nat → Hp → Prop, (∃ m, W 0 m (upd H1 D (.dT []))) ∧ ∀ i m H, W i m H →
  (J.stop i H ∧ Q (.ref D) H) ∨ (J.go i H ∧ ∃ Nx : Hp → Prop, (∀ H', Nx H' → ∃ m', m' < m ∧ W (i + 1) m' H') ∧ ∀ x H', J.yld i H x H' → g x (wipe σ vs) H' fun σ2 H2 => wipe σ2 vs = wipe σ vs ∧ tt σ2 H2 fun c H3 =>
    if c = true then tk σ2 H3 fun y H4 => tv σ2 H4 fun z H5 => ∃ kvs k b, y = .ref b ∧ H5 D = some (.dT kvs) ∧ H5 b = some (.tup (k.map kV)) ∧ kvs.length < sizeLine ∧ Nx (upd H5 D (.dT (putK kvs k z))) else Nx H3)) : tDcT wi g tt tk tv vs σ H Q := h
theorem dct_it {J : It} {n : Nat} {G : Hp → Prop} {Y : Nat → Hp → V → Hp → Prop} (w : Walk J n G Y) {g : TG} {tt : TT} {tk tv : TE} {vs : List Nat} {σ : L2.St} {H1 : Hp} {D : Addr} {Qd : Hp → Prop} (Pv : Nat → Hp → Prop) (h0 : Pv 0 (upd H1 D (.dT []))) (hG : ∀ i H, i ≤ n → Pv i H → G H)
    (hs : ∀ i x H H2, i < n → Pv i H → Y i H x H2 → g x (wipe σ vs) H2 fun σ2 H3 => wipe σ2 vs = wipe σ vs ∧ tt σ2 H3 fun c H4 =>
      if c = true then tk σ2 H4 fun y H5 => tv σ2 H5 fun z H6 => ∃ kvs k b, y = .ref b ∧ H6 D = some (.dT kvs) ∧ H6 b = some (.tup (k.map kV)) ∧ kvs.length < sizeLine ∧ Pv (i + 1) (upd H6 D (.dT (putK kvs k z))) else Pv (i + 1) H4)
    (hd : ∀ H, Pv n H → Qd H) :
    ∃ W : Nat → Nat → Hp → Prop, (∃ m, W 0 m (upd H1 D (.dT []))) ∧ ∀ i m H, W i m H →
      (J.stop i H ∧ Qd H) ∨ (J.go i H ∧ ∃ Nx : Hp → Prop, (∀ H', Nx H' → ∃ m', m' < m ∧ W (i + 1) m' H') ∧ ∀ x H', J.yld i H x H' → g x (wipe σ vs) H' fun σ2 H2 => wipe σ2 vs = wipe σ vs ∧ tt σ2 H2 fun c H3 =>
        if c = true then tk σ2 H3 fun y H4 => tv σ2 H4 fun z H5 => ∃ kvs k b, y = .ref b ∧ H5 D = some (.dT kvs) ∧ H5 b = some (.tup (k.map kV)) ∧ kvs.length < sizeLine ∧ Nx (upd H5 D (.dT (putK kvs k z))) else Nx H3) := by
  refine ⟨fun i m H => m = n - i ∧ i ≤ n ∧ Pv i H, ⟨n, by simp, Nat.zero_le _, h0⟩, ?_⟩
  rintro i m H ⟨rfl, hi, p⟩
  have q := hG i H hi p
  by_cases lt : i < n
  · exact .inr ⟨w.goes i H lt q, Pv (i + 1), fun H' p' => ⟨n - (i + 1), by omega, rfl, lt, p'⟩, fun x H' y => hs i x H H' lt p (w.yields i H x H' lt q y)⟩
  · have e : i = n := by omega
    subst e
    exact .inl ⟨w.stops H q, hd H p⟩
theorem putK_new {kvs : List (List L2.Key × V)} {k : List L2.Key} {v : V} (h : k ∉ kvs.map (·.1)) : putK kvs k v = kvs ++ [(k, v)] := by
  unfold putK
  rw [if_neg]
  intro z
  obtain ⟨q, hq, e⟩ := List.any_eq_true.mp z
  exact h (List.mem_map.mpr ⟨q, hq, of_decide_eq_true e⟩)
theorem perm_unmap {α β : Type} {f : α → β} {ks l : List β} (h : ks.Perm l) : ∀ W : List α, l = W.map f → ∃ W' : List α, W'.Perm W ∧ ks = W'.map f := by
  induction h with
  | nil => exact fun W e => ⟨W, List.Perm.refl _, e⟩
  | cons x h ih =>
    intro W e
    cases W with
    | nil => cases e
    | cons w W =>
      simp only [List.map_cons, List.cons.injEq] at e
      obtain ⟨W', p, e2⟩ := ih W e.2
      exact ⟨w :: W', p.cons _, by rw [List.map_cons, e.1, e2]⟩
  | swap x y l =>
    intro W e
    cases W with
    | nil => cases e
    | cons a W => cases W with
      | nil => simp at e
      | cons b W =>
        simp only [List.map_cons, List.cons.injEq] at e
        exact ⟨b :: a :: W, List.Perm.swap _ _ _, by rw [List.map_cons, List.map_cons, e.1, e.2.1, e.2.2]⟩
  | trans h1 h2 ih1 ih2 =>
    intro W e
    obtain ⟨W1, p1, e1⟩ := ih2 W e
    obtain ⟨W2, p2, e2⟩ := ih1 W1 e1
    exact ⟨W2, p2.trans p1, e2⟩
end Pt
namespace Pt
open PySem PySem.Spec PyProof.Rows L2
section
variable {X : Cx}
/-! ### xs.count(y), data -/
def rCntD (K : PySem.W.Frag) : V → List V → Hp → VK → Prop := fun x vs H Q => ∃ l xs y d ds, x = .ref l ∧ vs = [y] ∧ SqL K H l xs ∧ DpAll K H xs ds ∧ Dp K H y d ∧ PyData.plainAll ds = true ∧ d.plain = true ∧ d.depth ≤ 8 ∧ Q (.int (ds.countP fun z => PyData.eqv z d)) H
theorem mt_cntD (hu : X.A.units + 64 < cLine) : MtM X "list.count" (rCntD X.K) := by
  intro pins s σ H x vs v us Q I rx rv h
  obtain ⟨l, xs, y, d, ds, rfl, rfl, hs, hx, hy, px, pd, dp, q⟩ := h
  cases rx
  obtain ⟨u, rfl, ru⟩ := rv.one
  obtain ⟨its, rs, pl, hz⟩ := I.list hs
  obtain ⟨as, r1⟩ := Dp.readsAll I ds _ _ hx rs
  obtain ⟨bs, r2⟩ := Dp.reads I d _ _ hy ru
  refine SeqAt.count_list_data pl.isList (by simpa using r1) r2 px pd (by omega) ?_
  exact ⟨.int _, H, I.tok _, ⟨_, rfl⟩, q⟩
def rCntU (K : PySem.W.Frag) : V → List V → Hp → VK → Prop := fun x vs H Q => rCntF x vs H Q ∨ rCntD K x vs H Q
theorem mt_cntU (hu : X.A.units + 64 < cLine) : MtM X "list.count" (rCntU X.K) := fun pins s σ H x vs v us Q I rx rv h => h.elim (mt_cntF pins s σ H x vs v us Q I rx rv) (mt_cntD hu pins s σ H x vs v us Q I rx rv)
end
end Pt
namespace Pt
open PySem PySem.Spec PyProof.Rows L2
/-! ### for row in d.values(): tuple keys -/
def Itvt (d : Addr) (o : Obj) (kvs : List (List L2.Key × V)) : It :=
  ⟨fun i H => H d = some (.frz o (.dT kvs)) ∧ i < kvs.length, fun i H x H' => H' = H ∧ ∃ k, kvs[i]? = some (k, x), fun i H => H d = some (.frz o (.dT kvs)) ∧ kvs.length ≤ i⟩
theorem turn_vt {P : Program} {w : World} {K : PySem.W.Frag} {d : Addr} {o : Obj} {es : Array DictEntry} {ep : Nat} {kvs : List (List L2.Key × V)} {tg : Expr} (it : Addr) (hod : o.data = .dict es ep) :
    Turn P w K tg (Itvt d o kvs) [it] it (fun i h => h.IsValIter it d i kvs.length ep) where
  mem := by simp
  obj := fun i h st b hb => by
    have e : b = it := by simpa using hb
    subst e
    obtain ⟨oi, e, c, dd⟩ := st
    exact ⟨oi, e, fun v z => by rw [dd] at z; cases z⟩
  keep := fun i h h' st k => st.at fun oi e => k it (by simp) oi e
  item := by
    intro X hP hw hK hc i pins s σ H E I hf st hg
    subst hP hw hK
    obtain ⟨hd, hi⟩ := hg
    obtain ⟨f0, f1, f2, f3, f4, f5⟩ := hf it (by simp)
    obtain ⟨hs, es', ep', raw, hdt, hsz, ent⟩ := frzT2 I hd
    obtain ⟨rfl, rfl⟩ := dict_ep hod hdt
    obtain ⟨⟨k, v⟩, hkv⟩ : ∃ p, kvs[i]? = some p := ⟨kvs[i], List.getElem?_eq_getElem hi⟩
    obtain ⟨en, q, hen, hkey, hq, ru⟩ := ent i k v hkv
    rw [← hsz] at st
    have hi2 : i < es'.size := by omega
    have een : es'[i] = en := by
      rw [Array.getElem?_eq_getElem hi2] at hen
      exact Option.some.inj hen
    refine wpAny_pyNext_values_item_raw st raw hi2 fun h' st' sb => ?_
    rw [een]
    have I1 : Inv X pins σ H { s with heap := h' } := I.turned (t' := s.toks) (fun b ob hb e => (sb.2 b hb).trans e) f0 f1 f3 f4 f5
    obtain ⟨oi, e, c, dd⟩ := id st'
    refine ⟨en.val, rfl, go_of (s := { s with heap := h' }) e c dd (by decide) ⟨v, H, I1, ru, ⟨rfl, k, hkv⟩, ?_, fun b hb => (hf b hb).1⟩⟩
    rw [← hsz]
    exact st'
  done := by
    intro X hP hw hK hc i pins s σ H E I hf st hg
    subst hP hw hK
    obtain ⟨hd, hi⟩ := hg
    obtain ⟨f0, f1, f2, f3, f4, f5⟩ := hf it (by simp)
    obtain ⟨hs, es', ep', raw, hdt, hsz, ent⟩ := frzT2 I hd
    obtain ⟨rfl, rfl⟩ := dict_ep hod hdt
    rw [← hsz] at st
    exact wpAny_pyNext_values_end_raw (I.ok.hd hc) st raw (by omega) fun h' eb => ⟨rfl, I.turned (t' := s.toks) (fun b ob hb e => eb b ob hb e) f0 f1 f3 f4 f5⟩
  self := fun A i s Q E st h => wpAny_pyIter_valiter st h
def iValsT (td : TE) : TI := fun σ H R => td σ H fun x H1 => ∃ d o kvs, x = .ref d ∧ H1 d = some (.frz o (.dT kvs)) ∧ R (Itvt d o kvs) H1
section
variable {X : Cx} {e tg : Expr} {td : TE} {apos cpos : Pos}
theorem pi_valsT (he : PE X e td) (hbase : attributeBase e "values" X.env (eval e X.env) = eval e X.env := by rfl) (hline : (apos.endLine == cpos.line) = true := by rfl) :
    PI X tg (.Call (.Attribute e "values" apos) [] [] cpos) (iValsT td) := by
  refine ⟨fun pins s σ H R I h => ?_⟩
  refine wpAny_Call_method (T := "dict") (id := "dict.values") hbase rfl hline PySem.F.plainAttrs_dict PySem.F.slot_dict_values PySem.F.type_dict_values (thn (he.run pins s σ H _ I h) fun u s1 ⟨x, H1, I1, rx, d, o, kvs, ex, hd, q⟩ => ?_)
  subst ex
  obtain rfl : u = Value.ref d := rx
  obtain ⟨hs, es, ep, raw, hdt, hsz, ent⟩ := frzT2 I1 hd
  refine ⟨raw.typeIs, fun b eb => ?_, ?_⟩
  · cases eb
    obtain ⟨o1, h1, h2, h3⟩ := raw
    exact ⟨o1, h1, h2.2.1⟩
  have I2 : L2.Inv X pins σ H1 { s1 with heap := s1.heap.push { cls := .type "dict_values", data := .fields #[.ref d] } } := I1.kept (t' := s1.toks) fun b ob q => Heap.get?_push_of_some _ q
  have fin : wpAny (model X.prog X.w) X.A (pyIter (.ref s1.heap.objs.size)) (PIE X pins σ tg R) X.xe { s1 with heap := s1.heap.push { cls := .type "dict_values", data := .fields #[.ref d] } } := by
    refine wpAny_pyIter_values_raw (d := d) (es := es) (ep := ep) ⟨_, Heap.get?_push_size _ rfl, rfl, rfl⟩ (raw.push _) (pi_one (tk := s1.toks) I2 _ (turn_vt _ hdt) ⟨_, Heap.get?_push_size _ rfl, rfl, ?_⟩ q)
    rw [← hsz] <;> rfl
  show wpAny _ _ (callWith cpos (.builtin "dict.values") [.ref d] [] []) _ X.xe s1
  exact method_meetsIn PySem.F.slot_dict_values PySem.F.entry_dict_values rfl (PySem.evalArgs_none ⟨rfl, raw.typeIs, PySem.F.args_dict_values_1 _, _, meets_dict_values_raw d hs, ⟨es, ep, raw⟩, fin⟩)
theorem walk_valsT {d : Addr} {o : Obj} {kvs : List (List L2.Key × V)} : Walk (Itvt d o kvs) kvs.length (fun H => H d = some (.frz o (.dT kvs))) (fun i H x H' => H' = H ∧ ∃ k, kvs[i]? = some (k, x)) :=
  ⟨fun _ _ hi q => ⟨q, hi⟩, fun _ q => ⟨q, Nat.le_refl _⟩, fun _ _ _ _ _ _ y => y⟩
end
end Pt
namespace Pt
open PySem PySem.Spec PyProof.Rows L2
section
variable {X : Cx}
/-! ### {k: v}, the key a tuple -/
def tDisp1T (tk tv : TE) : TE := fun σ H Q => ∀ p, H p = none → tk σ (upd H p (.dT [])) fun x H1 => tv σ H1 fun y H2 => ∃ b k, x = .ref b ∧ H2 p = some (.dT []) ∧ H2 b = some (.tup (k.map kV)) ∧ Q (.ref p) (upd H2 p (.dT [(k, y)]))
theorem pe_disp1T {k v : Expr} {pos : Pos} {tk tv : TE} (hu : X.A.units + 64 < cLine) (hk : PE X k tk) (hv : PE X v tv) : PE X (.Dict [some k] [v] pos) (tDisp1T tk tv) := by
  refine ⟨fun pins s σ H Q I h => ?_⟩
  have hn := I.hok.fresh (Nat.le_refl s.heap.objs.size)
  have I1 := I.laid (a := s.heap.objs.size) (o := .dT []) (h' := s.heap.push { cls := .type "dict", data := .dict #[] }) (t' := s.toks) (fun _ _ q => Heap.get?_push_of_some _ q) (Nat.le_refl _) (dt_empty s.heap I.big)
  rw [arm_eval_Dict, zip_pairTrees [some k] [v] X.env pos (by rfl) rfl, dictDisplay_pairs _ (by simp [pairTrees]) (by simp [pairTrees])]
  refine wpAny_bind (wpAny_standAt (wpAny_bind ?_))
  unfold subDict
  refine wpAny_bind (wpAny_alloc ?_)
  refine wpAny_bind (wpAny_holding ?_)
  rw [if_pos (by simp [pairTrees])]
  refine wpAny_bind ?_
  refine pairTrees_cons_walk (thn (hk.run pins _ σ _ _ I1 (h _ hn)) fun u s1 ⟨x, H1, I2, rx, q1⟩ => thn (hv.run pins s1 σ H1 _ I2 q1) fun w2 s2 ⟨y, H2, I3, ry, b, kk, ex, ep, eb, q2⟩ => pairTrees_nil_walk ?_)
  subst ex
  cases (show u = Value.ref b from rx)
  refine wpAny_holding (wpAny_bind ?_)
  rw [List.forIn_cons]
  refine wpAny_bind (wpAny_bind (put_dT (by omega) I3 ep eb (by show 0 < sizeLine; decide) ry fun s3 I4 => wpAny_pure ?_))
  show wpAny _ _ (forIn ([] : List (Value × Value)) _ _) _ _ _
  rw [List.forIn_nil]
  exact wpAny_pure (wpAny_pure (wpAny_pure (wpAny_pure ⟨.ref s.heap.objs.size, _, I4, rfl, q2⟩)))
/-! ### d.setdefault(k, v), the key a tuple -/
def tDSetdT (td ty tx : TE) : TE := fun σ H Q => td σ H fun x H1 => ∃ a, x = .ref a ∧ IsD H1 a ∧ ty σ H1 fun y H2 => tx σ H2 fun z H3 => ∃ (kvs : List (List L2.Key × V)) (k : List L2.Key) (b : Addr), H3 a = some (.dT kvs) ∧ y = .ref b ∧ H3 b = some (.tup (k.map kV)) ∧ kvs.length < sizeLine ∧
  (∀ v, valV kvs k = some v → Q v H3) ∧ (valV kvs k = none → Q z (upd H3 a (.dT (putK kvs k z))))
theorem d_setdT {A : Around} {E : Value → Shared → Prop} {pins : List (Addr × Obj)} {σ : L2.St} {H : Hp} {s : Shared} {a b : Addr} {kvs : List (List L2.Key × V)} {k : List L2.Key} {d : V} {r : Value} {Q : Value → Shared → Prop} (hu : A.units + 1 < cLine) (I : L2.Inv X pins σ H s) (e : H a = some (.dT kvs)) (eb : H b = some (.tup (k.map kV))) (rd : L2.RelV d r) (hl : kvs.length < sizeLine)
    (h1 : ∀ v, valV kvs k = some v → ∀ (w' : Value) (s' : Shared), L2.Inv X pins σ H s' → L2.RelV v w' → Q w' s') (h2 : valV kvs k = none → ∀ (w' : Value) (s' : Shared), L2.Inv X pins σ (upd H a (.dT (putK kvs k d))) s' → L2.RelV d w' → Q w' s') :
    wpAny (model X.prog X.w) A (call (.builtin "dict.setdefault") [.ref a, .ref b, r]) Q E s := by
  obtain ⟨z, hd, xs, rel, dd⟩ := dt_of I.hok e
  have hz : xs.length ≤ sizeLine := by rw [← Paired.length rel]; exact z
  have hl2 : (putK kvs k d).length ≤ sizeLine := by have := length_putK kvs k d; omega
  refine call_setdefault_heap (hsz := hz) (tupleKind_room_in1 hu) (key_of I.hok eb) hd dd (fun p hp => ?_) fun hn h' dd' hs => ?_
  · have q := rel.val k
    rw [hp] at q
    cases q0 : valV kvs k with
    | none => rw [q0] at q; exact (show False from q).elim
    | some v0 =>
      rw [q0] at q
      exact h1 v0 q0 _ _ (I.tok _) q
  · have q := rel.val k
    rw [hn] at q
    cases q0 : valV kvs k with
    | some v0 => rw [q0] at q; exact (show False from q).elim
    | none =>
      obtain ⟨q1, es, ep, hq, g2, g3, g4, _, g5⟩ := dd'
      refine h2 q0 _ _ (d_write I (by rw [e]; exact True.intro) hs ⟨q1, hq⟩ ⟨hl2, hd, _, (rel.put k eb rd).keeps fun c ys ec => ?_, q1, es, ep, hq, g2, g3, g4, g5⟩) rd
      rw [upd_ne (ne_of ec e (fun z => nomatch z))]
      exact ec
theorem pe_dsetdT {o e f : Expr} {td ty tx : TE} {apos cpos : Pos} (hu : X.A.units + 64 < cLine) (ho : PE X o td) (he : PE X e ty) (hf : PE X f tx) (m : M2 X o "setdefault" apos e f cpos) : PE X (.Call (.Attribute o "setdefault" apos) [e, f] [] cpos) (tDSetdT td ty tx) := by
  refine ⟨fun pins s σ H Q I h => ?_⟩
  refine wpAny_Call_method m.base m.few m.line PySem.F.plainAttrs_dict PySem.F.slot_dict_setdefault PySem.F.type_dict_setdefault (thn (ho.run pins s σ H _ I h) fun u s1 ⟨x, H1, I1, rx, a, ex, d, q1⟩ => ?_)
  subst ex
  obtain rfl : u = Value.ref a := rx
  obtain ⟨t1, t2, _⟩ := isD_at I1 d
  refine ⟨t1, t2, ?_⟩
  rw [m.trees]
  refine Calls.callWith_builtin rfl (Calls.evalArgs_plain (Calls.spliced_cons (thn (he.run pins s1 σ H1 _ I1 q1) fun iv s2 ⟨y, H2, I2, ry, q2⟩ =>
    Calls.spliced_cons (thn (hf.run pins s2 σ H2 _ I2 q2) fun fv s3 ⟨z, H3, I3, rz, kvs, k, b, ea, ey, eb, hl, q3, q4⟩ => Calls.spliced_nil ?_))))
  subst ey
  cases (show iv = Value.ref b from ry)
  exact d_setdT (by omega) I3 ea eb rz hl (fun v hv w' s4 I4 rw' => ⟨v, _, I4, rw', q3 v hv⟩) fun hn w' s4 I4 rw' => ⟨z, _, I4, rw', q4 hn⟩
/-! ### d.update(e), the keys tuples -/
/-- a tuple of ints as a key -/
def kR (r : List Nat) : List L2.Key := r.map fun k => Sum.inl ((k : Nat) : Int)
def hashR (r : List Nat) : Int := reduceHash (Builtin.Tuple.tupleHashOf (r.map fun k => hashInt ((k : Nat) : Int)))
theorem hashR_eq {P : Program} {w : World} (r : List Nat) : (tupleKind (mixKind P w)).hash (kR r) = hashR r := by
  show tupleKeyHash (mixKind P w) (kR r) = hashR r
  unfold tupleKeyHash hashR kR
  rw [List.map_map]
  rfl
def rUpdT : V → List V → Hp → VK → Prop := fun x vs H Q => ∃ (d o : Addr) (kvs more : List (List L2.Key × V)), x = .ref d ∧ vs = [.ref o] ∧ d ≠ o ∧ H d = some (.dT kvs) ∧ H o = some (.dT more) ∧ kvs.length + more.length ≤ sizeLine ∧
  (kvs ≠ [] ∨ ∃ rs : List (List Nat), more.map (·.1) = rs.map kR ∧ (rs.map hashR).Nodup) ∧ Q .non (upd H d (.dT (mergeT kvs more)))
theorem kt_tup {X : Cx} {pins : List (Addr × Obj)} {σ : L2.St} {H : Hp} {s : Shared} (I : L2.Inv X pins σ H s) {kvs : List (List L2.Key × V)} {xs : List (List L2.Key × Addr × Value)} (r : KT H kvs xs) : ∀ x ∈ xs, s.TypeIs (.ref x.2.1) "tuple" := fun x hx => by
  obtain ⟨o', its', n', g1, g2, _⟩ := key_of (P := X.prog) (w := X.w) I.hok (kt_at r x hx)
  exact ⟨o', g1, g2⟩
theorem mt_updT (hu : X.A.units + 64 < cLine) : MtM X "dict.update" rUpdT := by
  intro pins s σ H x vs v us Q I rx rv h
  obtain ⟨d, o, kvs, more, rfl, rfl, ne, hd, ho, hl, hap, q⟩ := h
  cases rx
  obtain ⟨u, rfl, ru⟩ := rv.one
  cases ru
  obtain ⟨z1, hs1, xs, r1, d1⟩ := dt_of I.hok hd
  obtain ⟨z2, hs2, ys, r2, d2⟩ := dt_of I.hok ho
  have l1 : kvs.length = xs.length := paired_len r1
  have l2 : more.length = ys.length := paired_len r2
  have hl2 : (mergeT kvs more).length ≤ sizeLine := by have := mergeT_len more kvs; omega
  refine call_update_dictH (knd := tupleKind (mixKind X.prog X.w)) (tupleKind_room_in1 (by omega)) ne hs2 d1 d2 ?_ (by omega) fun h' e1 e2 hs => ?_
  · rcases hap with e | ⟨rs, e, nd⟩
    · exact .inl fun z => e (by rw [z] at l1; exact List.length_eq_zero_iff.mp l1)
    · refine .inr ⟨kt_tup I r2, ?_⟩
      have e3 : ys.map (·.1) = rs.map kR := by rw [kt_keys r2, e]
      have e4 : (ys.map fun x => (tupleKind (mixKind X.prog X.w)).hash x.1) = rs.map hashR := by
        have e5 := congrArg (List.map (tupleKind (mixKind X.prog X.w)).hash) e3
        rw [List.map_map, List.map_map] at e5
        refine e5.trans (List.map_congr_left fun r _ => hashR_eq r)
      rw [e4]
      exact nd
  · obtain ⟨q1, es, ep, hq, g2, g3, g4, _, g5⟩ := e1
    refine ⟨.non, upd H d (.dT (mergeT kvs more)), d_write I (t' := s.toks) (by rw [hd]; exact True.intro) hs ⟨q1, hq⟩ (show ObjOk X.prog X.w (upd H d (.dT (mergeT kvs more))) h' d (.dT (mergeT kvs more)) from ⟨hl2, hs1, _, (kt_merge r2 r1).keeps fun c ys ec => ?_, q1, es, ep, hq, g2, g3, g4, g5⟩), rfl, q⟩
    rw [upd_ne (ne_of ec hd (fun z => nomatch z))]
    exact ec
/-! ### xs[i] op= e, a list's item -/
def rGetL (K : PySem.W.Frag) : V → V → Hp → VK → Prop := fun o i H Q => ∃ (p : Addr) (xs : List V) (k : Nat) (z : V), o = .ref p ∧ i = .int (k : Nat) ∧ SqL K H p xs ∧ xs[k]? = some z ∧ Q z H
theorem get_listG : PGet X (rGetL X.K) := by
  intro pins s σ H o i ov iv Q I ro ri h
  obtain ⟨p, xs, k, z, rfl, rfl, hq, he, q⟩ := h
  cases ro
  obtain ⟨t, rfl⟩ := ri
  obtain ⟨its, r, pl, hz⟩ := I.list hq
  obtain ⟨w, ew, rw'⟩ := r.get he
  have hl := r.length
  have hn := line63
  have hk : k < xs.length := (List.getElem?_eq_some_iff.mp he).1
  exact wpAny_getItem_list (x := w) pl.isList (by omega) (by omega) (by simpa using ew) ⟨z, H, I, rw', q⟩
end
end Pt
namespace Pt
open PySem PySem.Spec PyProof.Rows L2 PySem.W
section
variable {X : Cx}
/-! ### sorted(d, key=len), the keys tuples -/
def tSrtLen (td : TE) : TE := fun σ H Q => td σ H fun x H1 => ∃ (d : Addr) (kvs : List (List L2.Key × V)), x = .ref d ∧ Rd H1 d (.dT kvs) ∧
  ∀ (ks : List (List L2.Key)) (bs : List Addr) p, ks.Perm (kvs.map (·.1)) → ks.Pairwise (fun a b => a.length ≤ b.length) → Paired (fun k b => H1 b = some (.tup (k.map kV))) ks bs → H1 p = none → Q (.ref p) (upd H1 p (.lst (bs.map V.ref)))
theorem each_map {β : Type} {R : Value → β → Prop} {f : β → Value} : ∀ {bs : List β}, (∀ b ∈ bs, R (f b) b) → EachIs R (bs.map f) bs
  | [], _ => .nil
  | b :: bs, h => .cons (h b (by simp)) (each_map fun c hc => h c (by simp [hc]))
theorem each_vals {β : Type} {f : β → Addr} : ∀ {bs : List β} {us : List Value}, EachIs (fun u b => u = Value.ref (f b)) us bs → Vals ((bs.map f).map V.ref) us
  | _, _, .nil => .nil
  | _, _, .cons r1 r2 => .cons r1 (each_vals r2)
theorem lenLe (β : Type) (f : β → Nat) (a b : β) : dataLe false (fun x : β => PyData.int ((f x : Nat) : Int)) a b = decide (f a ≤ f b) := by
  have h := congrFun (congrFun (PySem.W.dataLe_int (fun z : β => ((f z : Nat) : Int))) a) b
  rw [h, decide_eq_decide]
  simp
theorem sorted_len {pins : List (Addr × Obj)} {σ : L2.St} {H : Hp} {s : Shared} {d : Addr} {kvs : List (List L2.Key × V)} {Q : VK} (hc : X.calm = true) (hu : X.A.units + 64 < cLine) (I : L2.Inv X pins σ H s) (hd : Rd H d (.dT kvs))
    (q : ∀ (ks : List (List L2.Key)) (bs : List Addr) p, ks.Perm (kvs.map (·.1)) → ks.Pairwise (fun a b => a.length ≤ b.length) → Paired (fun k b => H b = some (.tup (k.map kV))) ks bs → H p = none → Q (.ref p) (upd H p (.lst (bs.map V.ref)))) :
    wpAny (model X.prog X.w) X.A (call (.builtin "sorted") [.ref d] [(Str.ofString "key", .builtin "len")]) (EP X pins σ Q) X.xe s := by
  have hh : X.A.handled = none := I.ok.hd hc
  obtain ⟨z, hs, ks, pr, o, es, ep, ho, hx, hdt, he, hn⟩ := (show ObjOk X.prog X.w H s.heap d (.dT kvs) from hd.ok I.hok)
  have l1 : es.size = ks.length := size_of_entries he
  have l2 : kvs.length = ks.length := Paired.length pr
  have ek := kt_keys pr
  refine PyProof.Rows.call_function_entry_kw PyProof.Rows.kind_sorted PyProof.Rows.plain_sorted PyProof.Rows.entry_sorted (PyProof.Rows.ksk_s1 _ _) ?_
  unfold Builtin.«sorted»
  refine wpAny_bind (m := checkCount "sorted" 1 1 _) (wpAny_pure ?_)
  refine wpAny_bind (kdu_collect (A := X.A.in1) (kdl_raw hs hx hdt) hh ho (by omega) fun h' tk acc hkp its => ?_)
  have ea : acc.toList = ks.map fun x => Value.ref x.2.1 := by
    have hl : acc.toList.length = ks.length := by rw [Array.length_toList, its.1]; exact l1
    apply List.ext_getElem?
    intro j
    rw [List.getElem?_map]
    cases hj : acc.toList[j]? with
    | none =>
      have h1 := List.getElem?_eq_none_iff.mp hj
      rw [List.getElem?_eq_none (by omega)]
      rfl
    | some v =>
      obtain ⟨en, hen, hv⟩ := its.2 j v (by rw [← Array.getElem?_toList]; exact hj)
      have qe := entry_at he j
      rw [hen] at qe
      cases hb : ks[j]? with
      | none =>
        rw [hb] at qe
        exact nomatch (show some en = none from qe)
      | some b =>
        rw [hb] at qe
        have e2 : en = entryOfKey (tupleKind (mixKind X.prog X.w)) b := Option.some.inj qe
        rw [hv, e2]
        rfl
  rw [ea]
  have I1 : L2.Inv X pins σ H { s with heap := h', toks := tk } := I.kept hkp
  have hz : ks.length ≤ sizeLine := by omega
  refine wpAny_bind (wpAny_newList ?_ (by rw [List.length_map]; exact hz))
  have el : (h'.push (seqObj "list" (ks.map fun x => Value.ref x.2.1).toArray 0)).get? h'.objs.size = some (seqObj "list" (ks.map fun x => Value.ref x.2.1).toArray 0) := Heap.get?_push_size _ rfl
  show wpAny _ _ _ _ _ { s with heap := h'.push (seqObj "list" (ks.map fun x => Value.ref x.2.1).toArray 0), toks := tk }
  have tup : ∀ x ∈ ks, ∃ its : Array Value, IsTup h' x.2.1 its ∧ its.size = x.1.length ∧ its.size ≤ sizeLine := fun x hx => by
    obtain ⟨its, rv, ht, hz2⟩ := I1.tuple (show L2.SqT X.K H x.2.1 (x.1.map kV) from .inl (.inl (kt_at pr x hx)))
    have := rv.length
    rw [List.length_map] at this hz2
    exact ⟨its.toArray, ht, by rw [List.size_toArray]; exact this.symm, by rw [List.size_toArray, ← this]; exact hz2⟩
  have er : EachIs (fun u (b : List L2.Key × Addr × Value) => u = Value.ref b.2.1) (ks.map fun x => Value.ref x.2.1) ks := each_map fun b _ => rfl
  refine wpAny_bind (wpAny_holding (list_sort_key_data (s := { s with heap := h'.push (seqObj "list" (ks.map fun x => Value.ref x.2.1).toArray 0), toks := tk }) (f := .builtin "len") (kw := [(Str.ofString "key", .builtin "len")]) (b := false) (fun x => PyData.int ((x.1.length : Nat) : Int)) el er ?_ ?_ hz (fun x _ => ?_) (PyProof.Rows.ksk_l1 _ _) (PyProof.Rows.ksk_t4 _ _) ?_ fun out c h2 tk2 hk2 e2 hlo ho2 => ?_))
  · exact AllAlike.of fun b b' => by simp [alike]
  · exact Sortable.others fun b => ⟨fun z => (nomatch z), fun xs z => (nomatch z)⟩
  · show X.A.in1.units + 1 + 0 < cLine
    simp only [Around.in1_units]
    omega
  · intro v x ev hx h3 tk3 kp
    subst ev
    obtain ⟨its3, ht, e3, hz3⟩ := tup x hx
    have hn63 := line63
    have lt : x.2.1 < h'.objs.size := by obtain ⟨o', g, _⟩ := ht; exact Heap.lt_size g
    have ht3 : IsTup h3 x.2.1 its3 := by
      obtain ⟨o', g, r⟩ := ht
      exact ⟨o', kp _ _ (Nat.ne_of_lt lt) (Heap.get?_push_of_some _ g), r⟩
    refine PyProof.Rows.len_tuple (s := { s with heap := h3, toks := tk3 }) ht3 (by omega) ⟨h3, _, rfl, fun _ _ e => e, ?_⟩
    rw [e3]
    exact .int _ _
  · have pm := List.mergeSort_perm ks (dataLe false (fun x : List L2.Key × Addr × Value => PyData.int ((x.1.length : Nat) : Int)))
    have L := lenLe (List L2.Key × Addr × Value) (fun x => x.1.length)
    have so := List.pairwise_mergeSort (le := dataLe false (fun x : List L2.Key × Addr × Value => PyData.int ((x.1.length : Nat) : Int))) (fun a b c => by rw [L a b, L b c, L a c]; simp; omega) (fun a b => by rw [L a b, L b a]; simp; omega) ks
    replace so : (ks.mergeSort (dataLe false (fun x : List L2.Key × Addr × Value => PyData.int ((x.1.length : Nat) : Int)))).Pairwise fun a b => a.1.length ≤ b.1.length := so.imp fun {a b} h => by rw [L a b] at h; exact of_decide_eq_true h
    generalize ks.mergeSort (dataLe false (fun x : List L2.Key × Addr × Value => PyData.int ((x.1.length : Nat) : Int))) = srt at pm so ho2
    refine wpAny_pure ⟨_, rfl, .ref h'.objs.size, upd H h'.objs.size (.lst ((srt.map fun x => x.2.1).map V.ref)), I1.laid (t' := tk2) (fun b u e => ?_) (Nat.le_refl _)
      (show ObjOk X.prog X.w _ _ _ (.lst ((srt.map fun x => x.2.1).map V.ref)) from ⟨?_, out, c, each_vals ho2, e2⟩), rfl, ?_⟩
    · have hb : b < h'.objs.size := Heap.lt_size e
      exact hk2 b u (Nat.ne_of_lt hb) (Heap.get?_push_of_some _ e)
    · rw [List.length_map, List.length_map, pm.length_eq]
      exact hz
    · have h2 := q (srt.map (·.1)) (srt.map fun x => x.2.1) h'.objs.size (by rw [← ek]; exact pm.map _) ?_ ?_ (I1.hok.fresh (Nat.le_refl _))
      · exact h2
      · exact List.pairwise_map.mpr so
      · have h3 : ∀ x ∈ srt, H x.2.1 = some (.tup (x.1.map kV)) := fun x m => kt_at pr x (pm.mem_iff.mp m)
        clear pm so ho2
        induction srt with
        | nil => exact .nil
        | cons x r ih => exact .cons (h3 x (by simp)) (ih fun y m => h3 y (by simp [m]))
theorem pe_srtLen {e : Expr} {te : TE} {p p2 pos kpos : Pos} (hc : X.calm = true) (hu : X.A.units + 64 < cLine) (hg : Gl X "sorted") (hm : X.mg "sorted" = none) (hg2 : Gl X "len") (hm2 : X.mg "len" = none) (ha : PA X [e] (tCons te tNil))
    (hs : backTo pos (starEach [e] X.env) = (false, eval e X.env) :: backTo pos (starEach [] X.env) := by rfl) (hpl : (backTo pos (starEach [e] X.env)).any (·.1) = false := by rfl)
    (hall : (backToKw pos (keywordEach [⟨some "key", .Name "len" p2, kpos⟩] X.env)).all (·.1.isSome) = true := by rfl) (hnone : (backToKw pos (keywordEach [⟨some "key", .Name "len" p2, kpos⟩] X.env)).any (·.1.isNone) = false := by rfl) (hks : (backToKw pos (keywordEach [⟨some "key", .Name "len" p2, kpos⟩] X.env)).filterMap (·.1) = [Str.ofString "key"] := by rfl) :
    PE X (.Call (.Name "sorted" p) [e] [⟨some "key", .Name "len" p2, kpos⟩] pos) (tSrtLen te) := by
  refine ⟨fun pins s σ H Q I h => ?_⟩
  refine wpAny_Call_Name_kw (ld_blt I hg hm (show bootBuiltins "sorted" = some (.builtin "sorted") by decide +kernel) ?_ (by decide) (by decide))
  refine PyProof.Rows.callWith_kw (thn (ha.run pos pins s σ H (fun vs H1 => match vs with
    | [x] => ∃ (d : Addr) (kvs : List (List L2.Key × V)), x = .ref d ∧ Rd H1 d (.dT kvs) ∧
      ∀ (ks : List (List L2.Key)) (bs : List Addr) p, ks.Perm (kvs.map (·.1)) → ks.Pairwise (fun a b => a.length ≤ b.length) → Paired (fun k b => H1 b = some (.tup (k.map kV))) ks bs → H1 p = none → Q (.ref p) (upd H1 p (.lst (bs.map V.ref)))
    | _ => False) I h) fun us s1 ⟨vs, H1, I1, r1, q0⟩ => ?_) hs hpl hall hnone
  · obtain ⟨x, rfl⟩ : ∃ x, vs = [x] := by
      cases vs with
      | nil => exact q0.elim
      | cons x r =>
        cases r with
        | nil => exact ⟨x, rfl⟩
        | cons y r => exact q0.elim
    obtain ⟨d, kvs, ex, hd, q⟩ := q0
    subst ex
    obtain ⟨u, rfl, ru⟩ := vals1 r1
    cases ru
    rw [hks]
    show wpAny _ _ (evalAll [(do let v ← eval (.Name "len" p2) X.env; standAt pos; pure v)]) _ _ s1
    refine wpAny_evalAll_cons (wpAny_bind (ld_blt I1 hg2 hm2 (show bootBuiltins "len" = some (.builtin "len") by decide +kernel) ?_ (by decide) (by decide)))
    refine wpAny_bind (wpAny_standAt (wpAny_pure (wpAny_evalAll_nil ?_)))
    exact sorted_len hc hu I1 hd q
end
end Pt
namespace Pt
open PySem PySem.Spec PyProof.Rows L2
/-! ### o.m(..), a method of an own class -/
structure HasT (P : Program) (w : World) (K : PySem.W.Frag) (mg : Str → Option Value) (base : Heap) (x m : Str) (ps : List Str) (k : Nat) (sp : Sp) : Prop where
  cls : Cls K (He.ga K x)
  mt : Meth K (He.ga K x) m (He.ma K (He.ga K x) m)
  ex : ∃ fd, FnOk P w K mg base CX0 k (He.ma K (He.ga K x) m) fd ps sp ∧ Binds K fd ps []
def tMeO (C : Addr) (m : Str) (sp : Sp) (ta : TE) (t : TA) : TE := fun σ H Q => ta σ H fun x H1 => ∃ a dx fs, x = .ref a ∧ H1 a = some (.ins C dx fs) ∧ fs.lookup m = none ∧ t σ H1 fun vs H2 => sp (x :: vs) H2 Q E0
section
variable {X : Cx} {x m : Str} {ps : List Str} {k k' : Nat} {sp : Sp} {p pos apos : Pos} {o e : Expr} {es : List Expr} {ta : TE} {t : TA}
theorem pe_meO {pl : Sem Bool} (h : HasT X.prog X.w X.K X.mg X.base x m ps k sp) (hr : Room k' X.A) (hk : k ≤ k') (he : PE X o ta) (ha : PA X (e :: es) t)
    (hst : starEach (e :: es) X.env = (false, eval e X.env) :: starEach es X.env := by rfl) (hpl : (backTo pos (starEach es X.env)).any (·.1) = false := by rfl)
    (ht : eval (.Call (.Attribute o m apos) (e :: es) [] pos) X.env = (do
      let ov ← eval o X.env
      standAt apos.atName
      let (f, first) ← holding [ov] (getMethod ov m pl)
      callWith pos f first (backTo pos (starEach (e :: es) X.env)) (backToKw pos (keywordEach [] X.env))) := by rfl) :
    PE X (.Call (.Attribute o m apos) (e :: es) [] pos) (tMeO (He.ga X.K x) m sp ta t) := by
  obtain ⟨fd, F, b⟩ := h.ex
  have q := pe_meth he h.cls h.mt F (hr.mono hk) b .nil pass0 ha hst hpl ht
  refine ⟨fun pins s σ H Q I d => q.run pins s σ H Q I ?_⟩
  have e1 : tMeth (He.ga X.K x) m sp [] E0 ta t = tMeO (He.ga X.K x) m sp ta t := by
    funext σ H Q
    unfold tMeth tMeO
    simp only [List.append_nil]
  rw [e1]
  exact d
end
/-! ### steps -/
section
variable {K : PySem.W.Frag} {σ : L2.St} {H : Hp} {D : Ends} {Q : VK} {ta tb tv : TE} {as : TA}
theorem w_meO {C : Addr} {m : Str} {sp : Sp} (h : ta σ H fun x H1 => ∃ a dx fs, x = .ref a ∧ H1 a = some (.ins C dx fs) ∧ fs.lookup m = none ∧ as σ H1 fun vs H2 => sp (x :: vs) H2 Q E0) : tMeO C m sp ta as σ H Q := h
theorem w_d1T (h : ∀ p, H p = none → ta σ (upd H p (.dT [])) fun x H1 => tb σ H1 fun y H2 => ∃ b k, x = .ref b ∧ H2 p = some (.dT []) ∧ H2 b = some (.tup (k.map kV)) ∧ Q (.ref p) (upd H2 p (.dT [(k, y)]))) : tDisp1T ta tb σ H Q := h
theorem w_sdT (h : ta σ H fun x H1 => ∃ a, x = .ref a ∧ IsD H1 a ∧ tb σ H1 fun y H2 => tv σ H2 fun z H3 => ∃ (kvs : List (List L2.Key × V)) (k : List L2.Key) (b : Addr), H3 a = some (.dT kvs) ∧ y = .ref b ∧ H3 b = some (.tup (k.map kV)) ∧ kvs.length < sizeLine ∧
  (∀ v, valV kvs k = some v → Q v H3) ∧ (valV kvs k = none → Q z (upd H3 a (.dT (putK kvs k z))))) : tDSetdT ta tb tv σ H Q := h
theorem w_srl (h : ta σ H fun x H1 => ∃ (d : Addr) (kvs : List (List L2.Key × V)), x = .ref d ∧ Rd H1 d (.dT kvs) ∧
  ∀ (ks : List (List L2.Key)) (bs : List Addr) p, ks.Perm (kvs.map (·.1)) → ks.Pairwise (fun a b => a.length ≤ b.length) → Paired (fun k b => H1 b = some (.tup (k.map kV))) ks bs → H1 p = none → Q (.ref p) (upd H1 p (.lst (bs.map V.ref)))) : tSrtLen ta σ H Q := h
theorem w_augS {tget : V → V → Hp → VK → Prop} {tip : TIp} {tset : TSet} (h : ta σ H fun o H1 => tb σ H1 fun i H2 => tget o i H2 fun x H3 => tv σ H3 fun y H4 => tip x y H4 fun z H5 => tset o i z H5 fun H6 => D.nx σ H6) : tAugS ta tb tv tget tip tset D σ H := h
theorem w_valsT {R : It → Hp → Prop} (h : ta σ H fun x H1 => ∃ d o kvs, x = .ref d ∧ H1 d = some (.frz o (.dT kvs)) ∧ R (Itvt d o kvs) H1) : iValsT ta σ H R := h
end
end Pt
open PySem PySem.Spec PyProof.Rows L2 Pt
local macro_rules | `(tactic| walk_at "lk") => `(tactic| first
  | assumption
  | with_reducible exact upd_same
  | (with_reducible apply sql_of); walk_at "lk"
  | (with_reducible apply sqt_of); walk_at "lk"
  | ((with_reducible apply lk_ne); focus (walk_at "ne")); walk_at "lk"
  | ((with_reducible apply Same.at); focus assumption); walk_at "lk"
  | ((with_reducible apply sql_same); focus assumption); walk_at "lk"
  | ((with_reducible apply sqt_same); focus assumption); walk_at "lk")
local macro_rules | `(tactic| walk_at "g1") => `(tactic| first
  | with_reducible refine w_seq ?_
  | with_reducible refine w_asg ?_
  | with_reducible refine w_drop ?_
  | with_reducible refine w_if ?_
  | with_reducible refine w_ret ?_
  | with_reducible refine w_retN ?_
  | with_reducible refine w_next ?_
  | with_reducible refine w_brk ?_
  | with_reducible refine w_cont ?_
  | with_reducible refine w_par ?_
  | with_reducible refine w_par3 ?_
  | with_reducible refine e_two ?_
  | with_reducible refine e_three ?_
  | with_reducible refine w_gn ?_
  | with_reducible refine w_gsub ?_
  | with_reducible refine w_gcons ?_
  | with_reducible refine w_gnil ?_
  | ((with_reducible apply w_var); focus exact rfl)
  | with_reducible refine w_c ?_
  | with_reducible refine w_op ?_
  | with_reducible refine w_un ?_
  | with_reducible refine w_chain ?_
  | with_reducible refine w_andT ?_
  | with_reducible refine w_orT ?_
  | with_reducible refine w_notT ?_
  | with_reducible refine w_ifx ?_
  | with_reducible refine w_cb ?_
  | with_reducible refine w_own ?_
  | with_reducible refine w_tup ?_
  | with_reducible refine w_lst ?_
  | with_reducible refine w_cons ?_
  | with_reducible refine w_nil ?_
  | with_reducible refine w_bm ?_
  | with_reducible refine w_bm0 ?_
  | with_reducible refine w_m1 ?_
  | with_reducible refine w_part ?_
  | with_reducible refine w_nopart ?_
  | with_reducible refine w_sl ?_
  | with_reducible refine w_test ?_
  | with_reducible refine w_tru ?_
  | with_reducible refine w_tnot ?_
  | with_reducible refine w_tand ?_
  | with_reducible refine w_tor ?_
  | with_reducible refine w_yes ?_
  | with_reducible refine w_lc ?_
  | with_reducible refine w_for ?_
  | with_reducible refine w_ienumS ?_
  | with_reducible refine w_ienum ?_
  | with_reducible refine w_irng1 ?_
  | with_reducible refine w_irng2 ?_
  | with_reducible refine w_ilist ?_
  | with_reducible refine w_itup ?_
  | with_reducible refine w_istr ?_
  | with_reducible refine w_izip ?_
  | with_reducible refine w_ikeys ?_
  | with_reducible refine e_enumS ?_
  | with_reducible refine e_istr ?_
  | with_reducible refine e_bl ?_
  | with_reducible refine e_int ?_
  | with_reducible refine e_str ?_
  | with_reducible refine e_tb ?_
  | with_reducible refine e_ti ?_
  | with_reducible refine e_tn ?_
  | ((with_reducible apply e_tl); focus (walk_at "lk"))
  | ((with_reducible apply e_tt); focus (walk_at "lk"))
  | ((with_reducible apply e_tyl); focus (walk_at "lk"))
  | with_reducible refine plus_i ?_
  | with_reducible refine minus_i ?_
  | ((with_reducible refine mod_i ?_ ?_); focus omega)
  | ((with_reducible refine div_i ?_ ?_ ?_); (focus omega); (focus omega))
  | with_reducible refine lt_i ?_
  | with_reducible refine le_i ?_
  | with_reducible refine gt_i ?_
  | with_reducible refine ge_i ?_
  | with_reducible refine eq_i ?_
  | with_reducible refine eq_s ?_
  | with_reducible refine eq_b ?_
  | with_reducible refine ne_i ?_
  | with_reducible refine ne_s ?_
  | with_reducible refine ne_b ?_
  | ((with_reducible apply is_N); focus exact rfl)
  | ((with_reducible apply isnt_N); focus exact rfl)
  | with_reducible refine is_b ?_
  | with_reducible refine isnt_b ?_
  | with_reducible refine in_sg ?_
  | with_reducible refine notin_sg ?_
  | with_reducible refine int_i ?_
  | with_reducible refine int_b ?_
  | with_reducible refine ord_1 ?_
  | ((with_reducible refine times_l ?_ ?_); focus (constructor <;> omega))
  | ((with_reducible refine times_r ?_ ?_); focus (constructor <;> omega))
  | ((with_reducible apply set_l); (focus (walk_at "lk")); (focus exact rfl))
  | ((with_reducible apply ix_l); (focus (walk_at "lk")); (focus exact rfl))
  | ((with_reducible apply ix_t); (focus (walk_at "lk")); (focus exact rfl))
  | ((with_reducible apply len_l); focus (walk_at "lk"))
  | ((with_reducible apply len_t); focus (walk_at "lk")))
local macro_rules | `(tactic| walk_at "ne") => `(tactic| first | assumption | exact Ne.symm (by assumption))
local macro_rules | `(tactic| walk_at "go") => `(tactic| repeat walk_at "g1")
local macro_rules | `(tactic| walk_at "ln") => `(tactic| first
  | exact fun hh => congrArg List.length (And.left hh)
  | (refine fun hh => Exists.elim hh ?_; intro _; walk_at "ln")
  | (refine fun hh => Or.elim hh ?_ ?_ <;> walk_at "ln")
  | (refine fun hh => And.elim (fun _ => ?_) hh; walk_at "ln"))
local macro_rules | `(tactic| walk_at "g2") => `(tactic| first
  | with_reducible refine w_fld ?_
  | with_reducible refine w_sfld ?_
  | with_reducible refine w_dget2 ?_
  | with_reducible refine w_mk ?_
  | with_reducible refine w_lstrg ?_
  | with_reducible refine w_dct ?_
  | with_reducible refine w_meO ?_
  | with_reducible refine w_d1T ?_
  | with_reducible refine w_sdT ?_
  | with_reducible refine w_srl ?_
  | with_reducible refine w_augS ?_
  | with_reducible refine w_valsT ?_
  | walk_at "g1")
local macro_rules | `(tactic| walk_at "gw") => `(tactic| repeat walk_at "g2")
namespace Pt
/-! ### is_sign -/
/-- a sign's code -/
def isSgn (c : Nat) : Bool := decide (33 ≤ c ∧ c ≤ 126 ∧ c ≠ 34 ∧ c ≠ 37)
def isSign (z : Str) : Bool := match z.cps.toList with
  | [c] => isSgn c
  | _ => false
/-- the thing is no text -/
def NoStr (K : PySem.W.Frag) (H : Hp) (v : V) : Prop := ∃ t, TyX K H v t ∧ PySem.W.kitOne K t (.type "str") = some false
def sp_is_sign (K : PySem.W.Frag) : Sp := fun vs H Q _ => ∃ c : Nat, vs = [.str ⟨#[c]⟩] ∧ ∀ H', Same H H' → Q (.bl (isSgn c)) H'
abbrev n_is_sign : List Str := ["thing"]
def t_is_sign (K : PySem.W.Frag) : TS :=
  tRet (tAndT K (tCB (cIsi K) (tCons (tVar 0) (tCons (tC (.ty "str")) (tNil)))) (tAndT K (tOp (rEqU K) (tCB (cLen K) (tCons (tVar 0) (tNil))) (tC (.int 1))) (tAndT K (tChain rLeI rLeI (tC (.int 33)) (tCB (cOrd) (tCons (tVar 0) (tNil))) (tC (.int 126))) (tOp (rNotInU K) (tCB (cOrd) (tCons (tVar 0) (tNil))) (tTup (tCons (tC (.int 34)) (tCons (tC (.int 37)) (tNil))))))))
theorem pure_is_sign {K : PySem.W.Frag} (vs : List V) (H : Hp) (Q : VK) (E : XK) (h : sp_is_sign K vs H Q E) : t_is_sign K { nx := fun _ H' => Q .non H', rt := Q } (start n_is_sign vs) H := by
  obtain ⟨c, rfl, q⟩ := h
  unfold t_is_sign
  walk_at "go"
  refine isi_1 (.base (.str _)) (kit_ty (b := "str") (r := true) (by decide +kernel)) ?_
  walk_at "go"
  refine w_iteT rfl ?_
  walk_at "go"
  refine len_s (by show 1 ≤ sizeLine; decide) ?_
  walk_at "go"
  refine w_iteT rfl ?_
  walk_at "go"
  refine w_ite (fun h1 => ?_) (fun h1 => ?_)
  · walk_at "go"
    refine w_ite (fun h2 => ?_) (fun h2 => ?_)
    · walk_at "go"
      refine ⟨by show 2 ≤ sizeLine; decide, fun p hp => ?_⟩
      refine notin_l (.inr (sqt_of upd_same)) rfl rfl ?_
      have e : isSgn c = !inV (.int c) [.int 34, .int 37] := by
        simp only [decide_eq_true_eq] at h1 h2
        rw [Bool.eq_iff_iff]
        simp [isSgn, inV, eqV]
        omega
      exact e ▸ q _ (same_new hp)
    · walk_at "go"
      rw [h2]
      have e : isSgn c = false := by
        simp only [decide_eq_false_iff_not] at h2
        exact decide_eq_false (by omega)
      exact e ▸ q _ (Same.refl _)
  · walk_at "go"
    refine w_iteF rfl ?_
    have e : isSgn c = false := by
      simp only [decide_eq_false_iff_not] at h1
      exact decide_eq_false (by omega)
    exact e ▸ q _ (Same.refl _)
/-! ### is_signs -/
def isSigns (z : Str) : Bool := decide (1 ≤ z.cps.size) && decide (z.cps.size ≤ 6) && z.cps.toList.all isSgn && decide z.cps.toList.Nodup
def sp_is_signs (K : PySem.W.Frag) : Sp := fun vs H Q _ =>
  (∃ z : Str, vs = [.str z] ∧ z.length ≤ sizeLine ∧ ∀ H', Same H H' → Q (.bl (isSigns z)) H') ∨
  ∃ v : V, vs = [v] ∧ NoStr K H v ∧ ∀ H', Same H H' → Q (.bl false) H'
abbrev n_is_signs : List Str := ["thing", "at", "sign"]
def t_is_signs (K : PySem.W.Frag) : TS :=
  tSeq (tIfS (tOr (tNot (tTru K (tCB (cIsi K) (tCons (tVar 0) (tCons (tC (.ty "str")) (tNil)))))) (tNot (tTest (tChain rLeI rLeI (tC (.int 1)) (tCB (cLen K) (tCons (tVar 0) (tNil))) (tC (.int 6)))))) (tRet (tC (.bl false))) (tNext)) (tRet (tOp (rEqU K) (tLc (iEnumS (tCons (tVar 0) (tNil))) (gTup K 2 (gCons (gName 1) (gCons (gName 2) (gNil)))) (tOr (tNot (tTru K (tOwn (sp_is_sign K) (tCons (tVar 2) (tNil))))) (tTest (tOp (rInU K) (tVar 2) (tSl (rSlU K) (tVar 0) (tNoPart) (tPart (tVar 1)))))) (tC (.int 1)) [1, 2]) (tLst (tNil))))
/-- the i-th sign is none, or stands ahead -/
def badAt (z : Str) (i : Nat) : Bool := !isSgn (z.cps.toList.getD i 0) || decide (z.cps.toList.getD i 0 ∈ z.cps.toList.take i)
theorem isSigns_of {z : Str} (h1 : 1 ≤ z.cps.size) (h2 : z.cps.size ≤ 6) : isSigns z = (given z.cps.size (badAt z) fun _ => V.int 1).isEmpty := by
  have hl : z.cps.size = (cs z).length := by simp [cs]
  rw [Bool.eq_iff_iff, given_empty]
  unfold isSigns
  rw [decide_eq_true h1, decide_eq_true h2]
  simp only [Bool.true_and, Bool.and_eq_true, List.all_eq_true, decide_eq_true_eq]
  constructor
  · rintro ⟨ha, hn⟩ i hi
    unfold badAt
    have h3 := nodup_take.mp hn i (by omega)
    have h4 := ha ((cs z).getD i 0) (by
      rw [List.getD_eq_getElem?_getD, List.getElem?_eq_getElem (by omega)]
      exact List.getElem_mem _)
    rw [h4, decide_eq_false h3]
    rfl
  · intro h
    refine ⟨fun c hc => ?_, nodup_take.mpr fun i hi => ?_⟩
    · obtain ⟨j, hj, e⟩ := List.mem_iff_getElem.mp hc
      have h3 := h j (by omega)
      unfold badAt at h3
      rw [Bool.or_eq_false_iff, List.getD_eq_getElem?_getD, List.getElem?_eq_getElem (by omega)] at h3
      have h4 : (!isSgn (cs z)[j]) = false := h3.1
      rw [e] at h4
      simpa using h4
    · have h3 := h i (by omega)
      unfold badAt at h3
      rw [Bool.or_eq_false_iff] at h3
      exact of_decide_eq_false h3.2
theorem pure_is_signs {K : PySem.W.Frag} (vs : List V) (H : Hp) (Q : VK) (E : XK) (h : sp_is_signs K vs H Q E) : t_is_signs K { nx := fun _ H' => Q .non H', rt := Q } (start n_is_signs vs) H := by
  rcases h with ⟨z, rfl, hz, q⟩ | ⟨v, rfl, ⟨t, ty, kt⟩, q⟩
  · unfold t_is_signs
    have no : ∀ H', Same H H' → ¬ (1 ≤ z.cps.size ∧ z.cps.size ≤ 6) → Q (.bl false) H' := fun H' e h => by
      have e1 : isSigns z = false := by
        unfold isSigns
        by_cases h1 : 1 ≤ z.cps.size
        · have h2 : ¬ z.cps.size ≤ 6 := fun h2 => h ⟨h1, h2⟩
          simp [h2]
        · simp [h1]
      exact e1 ▸ q H' e
    walk_at "go"
    refine isi_1 (.base (.str _)) (kit_ty (b := "str") (r := true) (by decide +kernel)) ?_
    walk_at "go"
    refine w_iteF rfl ?_
    walk_at "go"
    refine len_s hz ?_
    walk_at "go"
    refine w_ite (fun h1 => ?_) (fun h1 => ?_)
    · walk_at "go"
      refine w_ite (fun h2 => ?_) (fun h2 => ?_)
      · walk_at "go"
        refine no _ (Same.refl _) fun ⟨_, h3⟩ => ?_
        rw [decide_eq_true (show ((z.length : Nat) : Int) ≤ 6 by have : z.length = z.cps.size := rfl; omega)] at h2
        cases h2
      · walk_at "go"
        have h3 : 1 ≤ z.cps.size := by
          have := of_decide_eq_true h1
          have : z.length = z.cps.size := rfl
          omega
        have h4 : z.cps.size ≤ 6 := by
          have e : decide (((z.length : Nat) : Int) ≤ 6) = true := by simpa using h2
          have := of_decide_eq_true e
          have : z.length = z.cps.size := rfl
          omega
        -- the list of what is wrong
        refine lc_im walk_enumS (badAt z) (fun _ => .int 1) (Nat.le_trans h4 (by decide)) (fun _ _ _ _ => True.intro) ?_ ?_
        · rintro i x H1 H2 KY KN hi s1 ⟨T, c, rfl, hT, rfl, hc⟩ kY kN
          have hc2 := get_cps hc
          have eb : badAt z i = (!isSgn c || decide (c ∈ z.cps.toList.take i)) := by
            unfold badAt
            rw [List.getD_eq_getElem?_getD, hc2]
            rfl
          refine w_gtup (sqt_of upd_same) rfl ?_
          walk_at "go"
          refine ⟨rfl, ?_⟩
          walk_at "go"
          refine ⟨c, rfl, fun H3 s3 => ?_⟩
          have s13 : Same H1 H3 := (same_new hT).trans s3
          walk_at "go"
          refine w_ite (fun h5 => ?_) (fun h5 => ?_)
          · refine w_iteT rfl ?_
            walk_at "go"
            refine kY ?_ _ s13
            rw [eb, h5]
            rfl
          · walk_at "go"
            refine sl_s hz ?_
            walk_at "go"
            rw [show (cutS z none (some (i : Int))).cps.toList = (cs z).take i from cutS_take]
            refine w_ite (fun h6 => ?_) (fun h6 => ?_)
            · walk_at "go"
              refine kY ?_ _ s13
              rw [eb, h6, Bool.or_true]
            · refine kN ?_ _ s13
              rw [eb, h5, h6]
              rfl
        · intro D H1 hD s1 h5
          walk_at "go"
          refine ⟨Nat.zero_le _, fun p hp => ?_⟩
          have dD : Dp K (upd H1 p (.lst [])) (.ref D) (.list (((List.range z.cps.size).filter (badAt z)).map fun _ => .int 1)) := .lst (sql_of (same_new hp _ _ h5)) (dpa_map fun _ _ => .int 1)
          refine eq_D dD (.lst (sql_of upd_same) .nil) ((sh_list (n := 0) fun d hd => ?_).ok (by decide)) ((sh_list (n := 0) fun d hd => by cases hd).ok (by decide)) ?_
          · obtain ⟨_, _, rfl⟩ := List.mem_map.mp hd
            exact sh_int
          · have e : PyData.eqv (.list (((List.range z.cps.size).filter (badAt z)).map fun _ => PyData.int 1)) (.list []) = isSigns z := by
              show PyData.eqvAll _ [] = _
              rw [eqvAll_nil, isSigns_of h3 h4]
              unfold given
              rw [List.isEmpty_map, List.isEmpty_map]
            rw [e]
            exact q _ (s1.trans (same_new hp))
    · walk_at "go"
      refine w_iteT rfl ?_
      walk_at "go"
      refine no _ (Same.refl _) fun ⟨h3, _⟩ => ?_
      rw [decide_eq_true (show (1 : Int) ≤ ((z.length : Nat) : Int) by have : z.length = z.cps.size := rfl; omega)] at h1
      cases h1
  · unfold t_is_signs
    walk_at "go"
    refine isi_1 ty kt ?_
    walk_at "go"
    refine w_iteT rfl ?_
    walk_at "go"
    refine w_iteT rfl ?_
    walk_at "go"
    exact q _ (Same.refl _)
end Pt
namespace Pt
/-! ### the spring of draws -/
def Strm (s c : Addr) (n : Nat) (H : Hp) : Prop := ∃ (cells : List Int) (acc mix : Int), H s = some (.lst [.ref c, .int acc, .int n, .int mix]) ∧ H c = some (.lst (cells.map V.int)) ∧ 0 ≤ acc ∧ 0 ≤ mix ∧ mix < 2147483647
theorem Strm.same {s c : Addr} {n : Nat} {H H' : Hp} (h : Strm s c n H) (e : Same H H') : Strm s c n H' := by
  obtain ⟨cells, acc, mix, h1, h2, r⟩ := h
  exact ⟨cells, acc, mix, e _ _ h1, e _ _ h2, r⟩
theorem Strm.frm {s c : Addr} {n : Nat} {R : List Addr} {H H' : Hp} (h : Strm s c n H) (e : Frm R H H') (h1 : s ∉ R) (h2 : c ∉ R) : Strm s c n H' := by
  obtain ⟨cells, acc, mix, g1, g2, r⟩ := h
  exact ⟨cells, acc, mix, e.at_ _ _ h1 g1, e.at_ _ _ h2 g2, r⟩
theorem Strm.ne {s c : Addr} {n : Nat} {H : Hp} (h : Strm s c n H) : s ≠ c := by
  obtain ⟨cells, acc, mix, h1, h2, _⟩ := h
  intro e
  rw [e, h2] at h1
  cases cells with
  | nil => cases h1
  | cons x r => simp at h1
def sp_law_below (K : PySem.W.Frag) : Sp := fun vs H Q _ => ∃ (s c : Addr) (n : Nat) (m : Int), vs = [.ref s, .int m] ∧ Strm s c n H ∧ 0 < m ∧ m < 1073741824 ∧ n < 1099511627776 ∧
  ∀ (r : Nat) H', (r : Int) < m → Frm [s, c] H H' → Strm s c (n + 1) H' → Q (.int r) H'
def sp_law_start (K : PySem.W.Frag) : Sp := fun vs H Q _ => ∃ (a : Addr) (ns : List Int), vs = [.ref a] ∧ SqL K H a (ns.map V.int) ∧ ∀ s c H', Same H H' → H s = none → H c = none → Strm s c 0 H' → Q (.ref s) H'
theorem popAt_nat {l : Addr} {xs : List V} {k : Nat} {y : V} {H : Hp} {Q : VK} (h : H l = some (.lst xs)) (hk : xs[k]? = some y) (hb : (k : Int) < 2 ^ 63) (q : Q y (upd H l (.lst (xs.eraseIdx k)))) : rPopAt (.ref l) [.int (k : Nat)] H Q := by
  obtain ⟨hlt, _⟩ := List.getElem?_eq_some_iff.mp hk
  exact ⟨l, xs, k, k, y, rfl, rfl, h, by omega, hb, by rw [seqIndex_of (by omega) (by omega)]; simp, hk, q⟩
abbrev n_law_start : List Str := ["script"]
def t_law_start (K : PySem.W.Frag) : TS :=
  tRet (tLst (tCons (tCB (cList K) (tCons (tVar 0) (tNil))) (tCons (tC (.int 0)) (tCons (tC (.int 0)) (tCons (tC (.int 43)) (tNil))))))
abbrev n_law_below : List Str := ["stream", "many", "cell", "digit", "mixed"]
def t_law_below_p1 (K : PySem.W.Frag) : TS :=
  tSeq (tIfS (tTest (tOp rGtI (tOp (rIxU K) (tVar 0) (tC (.int 1))) (tC (.int 0)))) (tSeq (tAsg (tOp rMod (tCB (cInt) (tCons (tOp (rIxU K) (tVar 0) (tC (.int 1))) (tNil))) (tVar 1)) (gName 3)) (tSeq (tAsg (tOp rDiv (tOp (rIxU K) (tVar 0) (tC (.int 1))) (tVar 1)) (gSub (tVar 0) (tC (.int 1)) rSetU)) (tRet (tVar 3)))) (tNext)) (tSeq (tAsg (tOp rMod (tCB (cInt) (tCons (tOp rPow (tOp (rPlus K) (tOp (rPlus K) (tOp (rIxU K) (tVar 0) (tC (.int 3))) (tOp rTimes (tC (.int 9049)) (tOp (rIxU K) (tVar 0) (tC (.int 2))))) (tC (.int 130073))) (tC (.int 5))) (tNil))) (tC (.int 2147483629))) (gName 4)) (tRet (tOp rMod (tOp rMod (tCB (cInt) (tCons (tOp rPow (tOp (rPlus K) (tOp (rPlus K) (tOp rTimes (tVar 4) (tC (.int 44089))) (tOp rTimes (tC (.int 60077)) (tOp (rIxU K) (tVar 0) (tC (.int 2))))) (tC (.int 47))) (tC (.int 3))) (tNil))) (tC (.int 1000000007))) (tVar 1))))
def t_law_below (K : PySem.W.Frag) : TS :=
  tSeq (tAsg (tOp (rPlus K) (tOp (rIxU K) (tVar 0) (tC (.int 2))) (tC (.int 1))) (gSub (tVar 0) (tC (.int 2)) rSetU)) (tSeq (tWhile (tAnd (tTest (tOp (rEqU K) (tOp (rIxU K) (tVar 0) (tC (.int 1))) (tC (.int 0)))) (tTest (tOp (rNeU K) (tOp (rIxU K) (tVar 0) (tC (.int 0))) (tLst (tNil))))) (tSeq (tAsg (tBM K "list" rPopAt (tOp (rIxU K) (tVar 0) (tC (.int 0))) (tCons (tC (.int 0)) (tNil))) (gName 2)) (tSeq (tAsg (tOp rMod (tCB (cInt) (tCons (tOp (rPlus K) (tOp (rPlus K) (tOp rTimes (tOp (rIxU K) (tVar 0) (tC (.int 3))) (tC (.int 69031))) (tVar 2)) (tC (.int 13))) (tNil))) (tC (.int 2147483647))) (gSub (tVar 0) (tC (.int 3)) rSetU)) (tAsg (tIf (tTest (tOp rGeI (tVar 2) (tOp rPow (tC (.int 10)) (tC (.int 18))))) (tVar 2) (tC (.int 0))) (gSub (tVar 0) (tC (.int 1)) rSetU))))) (t_law_below_p1 K))
theorem pure_law_start {K : PySem.W.Frag} (vs : List V) (H : Hp) (Q : VK) (E : XK) (h : sp_law_start K vs H Q E) : t_law_start K { nx := fun _ H' => Q .non H', rt := Q } (start n_law_start vs) H := by
  obtain ⟨a, ns, rfl, hs, q⟩ := h
  unfold t_law_start
  walk_at "go"
  refine list_s (.inl hs) fun c hc => ?_
  walk_at "go"
  refine ⟨by show 4 ≤ sizeLine; decide, fun s hs' => ?_⟩
  refine q s c _ ((same_new hc).trans (same_new hs')) ?_ hc ?_
  · exact same_free (same_new hc) hs'
  · have ne : c ≠ s := ne_of_none upd_same hs'
    exact ⟨ns, 0, 43, upd_same, by rw [upd_ne ne, upd_same], by omega, by omega, by omega⟩
theorem pure_law_below_p1 {K : PySem.W.Frag} {s c : Addr} {n : Nat} {m : Int} {o2 : Option V} {H : Hp} {Q : VK} (st : Strm s c (n + 1) H) (m0 : 0 < m) (m1 : m < 1073741824) (hn : n < 1099511627776)
    (q : ∀ (r : Nat) H', (r : Int) < m → Frm [s, c] H H' → Strm s c (n + 1) H' → Q (.int r) H') :
    t_law_below_p1 K { nx := fun _ H' => Q .non H', rt := Q } [some (.ref s), some (.int m), o2, none, none] H := by
  have nsc := st.ne
  obtain ⟨cells, acc, mix, h1, h2, a0, x0, x1⟩ := id st
  unfold t_law_below_p1
  walk_at "go"
  refine w_ite (fun e1 => ?_) (fun e1 => ?_)
  · walk_at "go"
    have e2 := Int.emod_nonneg acc (show m ≠ 0 by omega)
    have e3 := Int.emod_lt_of_pos acc m0
    have q2 := q (acc % m).toNat (upd H s (.lst [.ref c, .int (acc / m), .int ((n + 1 : Nat) : Int), .int mix])) (by omega) (frm_upd (by simp)) ⟨cells, acc / m, mix, upd_same, by rw [upd_ne nsc.symm]; exact h2, Int.ediv_nonneg a0 (by omega), x0, x1⟩
    rw [Int.toNat_of_nonneg e2] at q2
    exact q2
  · walk_at "go"
    refine pow_i (by omega) (by omega) (by omega) ?_
    walk_at "go"
    refine pow_i (by omega) (by omega) ?_ ?_
    · have e2 := Int.emod_nonneg ((mix + 9049 * ((n + 1 : Nat) : Int) + 130073) ^ (5 : Int).toNat) (show (2147483629 : Int) ≠ 0 by omega)
      have e3 := Int.emod_lt_of_pos ((mix + 9049 * ((n + 1 : Nat) : Int) + 130073) ^ (5 : Int).toNat) (show (0 : Int) < 2147483629 by omega)
      omega
    · walk_at "go"
      generalize (_ : Int) ^ (3 : Int).toNat % 1000000007 = z
      have e2 := Int.emod_nonneg z (show m ≠ 0 by omega)
      have e3 := Int.emod_lt_of_pos z m0
      have q2 := q (z % m).toNat H (by omega) (Frm.refl _ _) st
      rw [Int.toNat_of_nonneg e2] at q2
      exact q2
theorem pure_law_below {K : PySem.W.Frag} (vs : List V) (H : Hp) (Q : VK) (E : XK) (h : sp_law_below K vs H Q E) : t_law_below K { nx := fun _ H' => Q .non H', rt := Q } (start n_law_below vs) H := by
  obtain ⟨s, c, n, m, rfl, st, m0, m1, hn, q⟩ := h
  have nsc := st.ne
  obtain ⟨cells, acc, mix, h1, h2, a0, x0, x1⟩ := st
  unfold t_law_below
  walk_at "go"
  -- the loop
  refine ⟨fun k σ H' => ∃ o2, σ = [some (.ref s), some (.int m), o2, none, none] ∧ Frm [s, c] H H' ∧ ∃ (cells : List Int) (acc mix : Int), cells.length = k ∧ H' s = some (.lst [.ref c, .int acc, .int ((n + 1 : Nat) : Int), .int mix]) ∧ H' c = some (.lst (cells.map V.int)) ∧ 0 ≤ acc ∧ 0 ≤ mix ∧ mix < 2147483647,
    ⟨cells.length, none, rfl, frm_upd (by simp), cells, acc, mix, rfl, ?_, ?_, a0, x0, x1⟩, ?_⟩
  · rw [upd_same]
    simp
  · rw [upd_ne nsc.symm]
    exact h2
  clear h1 h2 a0 x0 x1 cells acc mix
  rintro k σ H1 ⟨o2, rfl, f1, cells, acc, mix, hk, h1, h2, a0, x0, x1⟩
  have out : ∀ H2, Same H1 H2 → t_law_below_p1 K { nx := fun _ H' => Q .non H', rt := Q } [some (.ref s), some (.int m), o2, none, none] H2 := fun H2 s2 =>
    pure_law_below_p1 ⟨cells, acc, mix, s2 _ _ h1, s2 _ _ h2, a0, x0, x1⟩ m0 m1 hn fun r H' hr f st => q r H' hr ((f1.trans (Same.frm s2)).trans f) st
  walk_at "go"
  refine w_ite (fun e1 => ?_) (fun e1 => ?_)
  · walk_at "go"
    refine ⟨Nat.zero_le _, fun p hp => ?_⟩
    have s1 := same_new (o := .lst []) hp
    refine ne_D (.lst (sql_of (s1 _ _ h2)) (dpa_map fun _ _ => .int _)) (.lst (sql_of upd_same) .nil) ((sh_list (n := 0) fun d hd => ?_).ok (by decide)) ((sh_list (n := 0) fun d hd => by cases hd).ok (by decide)) ?_
    · obtain ⟨_, _, rfl⟩ := List.mem_map.mp hd
      exact sh_int
    rw [show PyData.eqv (.list (cells.map PyData.int)) (.list []) = (cells.map PyData.int).isEmpty from eqvAll_nil]
    walk_at "go"
    refine w_ite (fun e2 => ?_) (fun e2 => ?_)
    · obtain ⟨z, r, rfl⟩ : ∃ z r, cells = z :: r := by
        cases cells with
        | nil => cases e2
        | cons z r => exact ⟨z, r, rfl⟩
      refine ⟨fun σ' H' => ∃ o2, σ' = [some (.ref s), some (.int m), o2, none, none] ∧ Frm [s, c] H H' ∧ ∃ (cells : List Int) (acc mix : Int), cells.length = r.length ∧ H' s = some (.lst [.ref c, .int acc, .int ((n + 1 : Nat) : Int), .int mix]) ∧ H' c = some (.lst (cells.map V.int)) ∧ 0 ≤ acc ∧ 0 ≤ mix ∧ mix < 2147483647, fun σ' H' hN => ⟨r.length, by rw [← hk]; exact Nat.lt_succ_self _, hN⟩, ?_⟩
      have h1' := s1 _ _ h1
      have h2' := s1 _ _ h2
      have f1' : Frm [s, c] H (upd H1 p (.lst [])) := f1.trans (Same.frm s1)
      generalize upd H1 p (.lst []) = H2 at h1' h2' f1'
      clear h1 h2 f1 s1
      walk_at "go"
      refine popAt_nat (k := 0) h2' rfl (by decide) ?_
      walk_at "go"
      refine pow_i (by omega) (by omega) (by decide) ?_
      walk_at "go"
      have e3 := Int.emod_nonneg (mix * 69031 + z + 13) (show (2147483647 : Int) ≠ 0 by omega)
      have e4 := Int.emod_lt_of_pos (mix * 69031 + z + 13) (show (0 : Int) < 2147483647 by omega)
      refine w_ite (fun e5 => ?_) (fun e5 => ?_)
      · walk_at "go"
        have e6 : (10 : Int) ^ (18 : Int).toNat ≤ z := of_decide_eq_true e5
        have e7 : (0 : Int) ≤ (10 : Int) ^ (18 : Int).toNat := by decide
        refine ⟨some (.int z), rfl, f1'.trans ((frm_upd (by simp)).trans ((frm_upd (by simp)).trans (frm_upd (by simp)))), r, z, _, rfl, upd_same, ?_, by omega, e3, e4⟩
        rw [upd_ne nsc.symm, upd_ne nsc.symm, upd_same]
        rfl
      · walk_at "go"
        refine ⟨some (.int z), rfl, f1'.trans ((frm_upd (by simp)).trans ((frm_upd (by simp)).trans (frm_upd (by simp)))), r, 0, _, rfl, upd_same, ?_, by omega, e3, e4⟩
        rw [upd_ne nsc.symm, upd_ne nsc.symm, upd_same]
        rfl
    · exact out _ s1
  · refine w_iteF rfl ?_
    exact out _ (Same.refl _)
end Pt
namespace Pt
/-! ### draws of things -/
def SqA (K : PySem.W.Frag) (H : Hp) (p : Addr) (xs : List V) : Prop := SqL K H p xs ∨ SqT K H p xs
theorem sqa_same {K : PySem.W.Frag} {H H' : Hp} {p : Addr} {xs : List V} (e : Same H H') (h : SqA K H p xs) : SqA K H' p xs := h.imp (sql_same e) (sqt_same e)
theorem len_a {K : PySem.W.Frag} {H : Hp} {Q : VK} {p : Addr} {xs : List V} (hs : SqA K H p xs) (q : Q (.int xs.length) H) : cLen K [.ref p] H Q := hs.elim (fun h => len_l h q) (fun h => len_t h q)
theorem ix_a {K : PySem.W.Frag} {H : Hp} {Q : VK} {p : Addr} {xs : List V} {z : Int} {v : V} (hs : SqA K H p xs) (ha : atI xs z = some v) (q : Q v H) : rIxU K (.ref p) (.int z) H Q := hs.elim (fun h => ix_l h ha q) (fun h => ix_t h ha q)
def sp_law_pick (K : PySem.W.Frag) : Sp := fun vs H Q _ => ∃ (s c : Addr) (n : Nat) (p : Addr) (xs : List V), vs = [.ref s, .ref p] ∧ Strm s c n H ∧ n < 1099511627776 ∧ SqA K (hid [s, c] H) p xs ∧ 0 < xs.length ∧ xs.length < 1073741824 ∧
  ∀ (r : Nat) v H', xs[r]? = some v → Frm [s, c] H H' → Strm s c (n + 1) H' → Q v H'
def sp_law_mixed (K : PySem.W.Frag) : Sp := fun vs H Q _ => ∃ (s c : Addr) (n : Nat) (p : Addr) (xs : List V), vs = [.ref s, .ref p] ∧ Strm s c n H ∧ n + xs.length < 1099511627776 ∧ SqA K (hid [s, c] H) p xs ∧ xs.length ≤ 1000000 ∧
  ∀ (ys : List V) q H', ys.Perm xs → Frm [s, c] H H' → Strm s c (n + xs.length) H' → H q = none → H' q = some (.lst ys) → Q (.ref q) H'
def poolS : Str := "!#$&'()*+,-./0123456789:;<=>?@ABCDEFGHIJKLMNOPQRSTUVWXYZ[]^_`abcdefghijklmnopqrstuvwxyz{|}~"
def poolC : List Nat := cs poolS
theorem pool_len : poolC.length = 91 := by decide +kernel
theorem pool_nd : poolC.Nodup := by decide +kernel
theorem pool_sg : ∀ c ∈ poolC, isSgn c = true := by decide +kernel
def sp_law_bpool (K : PySem.W.Frag) : Sp := fun vs H Q _ => vs = [] ∧ ∀ p H', Same H H' → H p = none → H' p = some (.lst (poolC.map sg)) → Q (.ref p) H'
abbrev n_law_pick : List Str := ["stream", "some"]
def t_law_pick (K : PySem.W.Frag) : TS :=
  tRet (tOp (rIxU K) (tVar 1) (tOwn (sp_law_below K) (tCons (tVar 0) (tCons (tCB (cLen K) (tCons (tVar 1) (tNil))) (tNil)))))
abbrev n_law_mixed : List Str := ["stream", "some", "left", "k"]
def t_law_mixed (K : PySem.W.Frag) : TS :=
  tSeq (tAsg (tCB (cList K) (tCons (tVar 1) (tNil))) (gName 2)) (tRet (tLc (iRng1 (tCons (tCB (cLen K) (tCons (tVar 2) (tNil))) (tNil))) (gName 3) (tYes) (tBM K "list" rPopAt (tVar 2) (tCons (tOwn (sp_law_below K) (tCons (tVar 0) (tCons (tCB (cLen K) (tCons (tVar 2) (tNil))) (tNil)))) (tNil))) [3]))
abbrev n_law_bpool : List Str := ["sign"]
def t_law_bpool (K : PySem.W.Frag) : TS :=
  tRet (tLc (iStr (tC (.str "!#$&'()*+,-./0123456789:;<=>?@ABCDEFGHIJKLMNOPQRSTUVWXYZ[]^_`abcdefghijklmnopqrstuvwxyz{|}~"))) (gName 0) (tYes) (tVar 0) [0])
theorem pure_law_pick {K : PySem.W.Frag} (vs : List V) (H : Hp) (Q : VK) (E : XK) (h : sp_law_pick K vs H Q E) : t_law_pick K { nx := fun _ H' => Q .non H', rt := Q } (start n_law_pick vs) H := by
  obtain ⟨s, c, n, p, xs, rfl, st, hn, hs, h0, h1, q⟩ := h
  unfold t_law_pick
  walk_at "go"
  refine len_a (sqa_same hid_sub hs) ?_
  walk_at "go"
  refine ⟨s, c, n, xs.length, rfl, st, by omega, by omega, hn, fun r H' hr f st' => ?_⟩
  obtain ⟨v, hv⟩ : ∃ v, xs[r]? = some v := ⟨_, List.getElem?_eq_getElem (by omega)⟩
  refine ix_a (sqa_same hid_sub (sqa_same (hid_frm f fun _ h => h) hs)) (atI_nat hv) ?_
  exact q r v H' hv f st'
theorem pure_law_mixed {K : PySem.W.Frag} (vs : List V) (H : Hp) (Q : VK) (E : XK) (h : sp_law_mixed K vs H Q E) : t_law_mixed K { nx := fun _ H' => Q .non H', rt := Q } (start n_law_mixed vs) H := by
  obtain ⟨s, c, n, p, xs, rfl, st, hn, hs, h1, q⟩ := h
  unfold t_law_mixed
  walk_at "go"
  refine list_s (sqa_same hid_sub hs) fun l hl => ?_
  have sl := same_new (o := .lst xs) hl
  have st1 := st.same sl
  have nls : l ≠ s := fun e => by
    obtain ⟨_, _, _, h, _⟩ := st
    rw [← e, hl] at h; cases h
  have nlc : l ≠ c := fun e => by
    obtain ⟨_, _, _, _, h, _⟩ := st
    rw [← e, hl] at h; cases h
  have il : InH [l, s, c] (upd H l (.lst xs)) := by
    obtain ⟨_, _, _, g1, g2, _⟩ := st1
    intro a ha
    simp at ha
    rcases ha with rfl | rfl | rfl
    · exact InH.some upd_same
    · exact InH.some g1
    · exact InH.some g2
  walk_at "go"
  refine e_rng (by omega) (by omega) ?_
  refine lc_full (walk_range (lo := 0) (n := xs.length)) [l, s, c] [l, s, c] (fun i acc H' => Strm s c (n + i) H' ∧ ∃ rest, H' l = some (.lst rest) ∧ rest.length + i = xs.length ∧ (acc ++ rest).Perm xs) (fun _ _ _ => True) il (fun _ h => h) ?_ ⟨st1, xs, upd_same, rfl, List.Perm.refl _⟩ (fun _ _ => True.intro) (fun _ _ _ _ _ _ => True.intro) (fun _ _ _ _ _ _ => True.intro) ?_ ?_ ?_
  · rintro i acc H1 D ys hD ⟨st2, rest, e1, e2⟩
    have n1 := il.ne hD
    simp only [List.mem_cons, not_or] at n1
    obtain ⟨n2, n3, n4, _⟩ := n1
    exact ⟨st2.frm (R := [D]) (frm_upd (by simp)) (by simpa using Ne.symm n3) (by simpa using Ne.symm n4), rest, by rw [upd_ne (Ne.symm n2)]; exact e1, e2⟩
  · exact Nat.le_trans h1 (by decide)
  · rintro D i acc x H1 H2 Nx hD hi f kn inn hd' ⟨st2, rest, e1, e2, pm⟩ _ hl ⟨rfl, rfl⟩ kY kN
    walk_at "go"
    refine ⟨rfl, ?_⟩
    walk_at "go"
    refine w_iteT rfl ?_
    walk_at "go"
    have n5 : n + i < 1099511627776 := by omega
    refine ⟨s, c, n + i, rest.length, rfl, st2, by omega, by omega, n5, fun r H3 hr f3 st3 => ?_⟩
    obtain ⟨v, hv⟩ : ∃ v, rest[r]? = some v := ⟨_, List.getElem?_eq_getElem (by omega)⟩
    have e3 : H3 l = some (.lst rest) := f3.at_ _ _ (by simp [nls, nlc]) e1
    walk_at "go"
    refine popAt_nat (k := r) e3 hv (by omega) ?_
    have f4 : Frm [l, s, c] H2 (upd H3 l (.lst (rest.eraseIdx r))) := (f3.mono (by simp)).trans (frm_upd (by simp))
    have hr2 : r < rest.length := by omega
    refine kY v _ f4 ⟨?_, rest.eraseIdx r, upd_same, ?_, ?_⟩ True.intro
    · have st4 := st3.frm (R := [l]) (H' := upd H3 l (.lst (rest.eraseIdx r))) (frm_upd (by simp)) (by simpa using Ne.symm nls) (by simpa using Ne.symm nlc)
      rw [show n + (i + 1) = n + i + 1 by omega]
      exact st4
    · rw [List.length_eraseIdx_of_lt hr2]
      omega
    · have e5 : v = rest[r] := by
        rw [List.getElem?_eq_getElem hr2] at hv
        exact (Option.some.inj hv).symm
      refine List.Perm.trans ?_ pm
      rw [List.append_assoc]
      refine List.Perm.append_left _ ?_
      rw [e5]
      exact perm_erase hr2
  · rintro D acc H1 hD f inn kn hd' ⟨st2, rest, e1, e2, pm⟩ _ _
    have e3 : rest = [] := List.length_eq_zero_iff.mp (by omega)
    rw [e3, List.append_nil] at pm
    refine q acc D H1 pm ⟨fun a o ha e => ?_, fun a ha => f.live a (Same.live sl a ha)⟩ st2 (same_free sl hD) hd'
    have ne : a ≠ l := ne_of_none e hl
    exact f.at_ a o (by simpa [ne] using ha) (sl a o e)
theorem pure_law_bpool {K : PySem.W.Frag} (vs : List V) (H : Hp) (Q : VK) (E : XK) (h : sp_law_bpool K vs H Q E) : t_law_bpool K { nx := fun _ H' => Q .non H', rt := Q } (start n_law_bpool vs) H := by
  obtain ⟨rfl, q⟩ := h
  unfold t_law_bpool
  walk_at "go"
  refine lc_im walk_str (fun _ => true) (fun i => sg (poolC.getD i 0)) (by decide +kernel) (fun _ _ _ _ => True.intro) ?_ ?_
  · rintro i x H1 H2 KY KN hi s1 ⟨rfl, c, hc, rfl⟩ kY kN
    walk_at "go"
    refine ⟨rfl, ?_⟩
    walk_at "go"
    refine w_iteT rfl ?_
    walk_at "go"
    have k2 := kY rfl _ (Same.refl _)
    have e : poolC.getD i 0 = c := by
      have h2 : poolC[i]? = some c := get_cps hc
      rw [List.getD_eq_getElem?_getD, h2]
      rfl
    rw [e] at k2
    exact k2
  · intro D H1 hD s1 h5
    refine q D H1 s1 hD ?_
    refine h5.trans (congrArg (fun l => some (HO.lst l)) (given_all poolC sg (fun i => sg (poolC.getD i 0)) fun i x h => ?_))
    show sg (poolC.getD i 0) = sg x
    rw [List.getD_eq_getElem?_getD, h]
    rfl
end Pt
namespace Pt
/-! ### data of whatever kind -/
def kP : Key → PyData
  | .inl i => .int i
  | .inr x => .str x
mutual
def noDct : PyData → Bool
  | .list xs => noDctAll xs
  | .tuple xs => noDctAll xs
  | .dict _ => false
  | _ => true
def noDctAll : List PyData → Bool
  | [] => true
  | x :: xs => noDct x && noDctAll xs
end
mutual
inductive Dq (K : PySem.W.Frag) (H : Hp) : V → PyData → Prop
  | non : Dq K H .non .none
  | bl (b : Bool) : Dq K H (.bl b) (.bool b)
  | int (i : Int) : Dq K H (.int i) (.int i)
  | str (x : Str) : Dq K H (.str x) (.str x)
  | lst {a : Addr} {xs : List V} {ds : List PyData} : SqL K H a xs → xs.length ≤ 1000000 → DqAll K H xs ds → Dq K H (.ref a) (.list ds)
  | tup {a : Addr} {xs : List V} {ds : List PyData} : SqT K H a xs → xs.length ≤ 1000000 → DqAll K H xs ds → Dq K H (.ref a) (.tuple ds)
  | dct {a : Addr} {kvs : List (Key × V)} {ds : List (PyData × PyData)} : H a = some (.dK kvs) → kvs.length ≤ 1000000 → (kvs.map (·.1)).Nodup → DqKv K H kvs ds → Dq K H (.ref a) (.dict ds)
inductive DqAll (K : PySem.W.Frag) (H : Hp) : List V → List PyData → Prop
  | nil : DqAll K H [] []
  | cons {v : V} {vs : List V} {d : PyData} {ds : List PyData} : Dq K H v d → DqAll K H vs ds → DqAll K H (v :: vs) (d :: ds)
inductive DqKv (K : PySem.W.Frag) (H : Hp) : List (Key × V) → List (PyData × PyData) → Prop
  | nil : DqKv K H [] []
  | cons {k : Key} {v : V} {kvs : List (Key × V)} {d : PyData} {ds : List (PyData × PyData)} : Dq K H v d → noDct d = true → DqKv K H kvs ds → DqKv K H ((k, v) :: kvs) ((kP k, d) :: ds)
end
section
variable {K : PySem.W.Frag} {H H' : Hp}
/-- what could be read can be read -/
def RdS (H H' : Hp) : Prop := ∀ a xs, (Rd H a (.lst xs) → Rd H' a (.lst xs)) ∧ (Rd H a (.tup xs) → Rd H' a (.tup xs))
theorem Same.rds (e : Same H H') : RdS H H' := fun _ _ => ⟨rd_same e, rd_same e⟩
theorem rds_frz {a : Addr} {o : Obj} {kvs : List (Key × V)} (h : H a = some (.dK kvs)) : RdS H (upd H a (.frz o (.dK kvs))) := fun b xs => by
  have ne : ∀ u, (∃ x, H b = some u ∧ u = x) → u ≠ .dK kvs → b ≠ a := fun u hu n z => by
    obtain ⟨_, e, _⟩ := hu
    rw [z, h] at e
    exact n (Option.some.inj e).symm
  constructor <;>
  · rintro (e | ⟨o', e⟩)
    · exact .inl (by rw [upd_ne (ne _ ⟨_, e, rfl⟩ (fun z => nomatch z))]; exact e)
    · exact .inr ⟨o', by rw [upd_ne (ne _ ⟨_, e, rfl⟩ (fun z => nomatch z))]; exact e⟩
theorem rds_unfrz {a : Addr} {o : Obj} {kvs : List (Key × V)} (h : H a = some (.frz o (.dK kvs))) : RdS H (upd H a (.dK kvs)) := fun b xs => by
  constructor <;>
  · rintro (e | ⟨o', e⟩)
    · have ne : b ≠ a := fun z => by
        rw [z, h] at e
        cases e
      exact .inl (by rw [upd_ne ne]; exact e)
    · have ne : b ≠ a := fun z => by
        rw [z, h] at e
        cases e
      exact .inr ⟨o', by rw [upd_ne ne]; exact e⟩
theorem hid_upd_eq {M : List Addr} {a : Addr} {o : HO} (h : a ∉ M) : hid M (upd H a o) = upd (hid M H) a o := by
  funext b
  by_cases q : b = a
  · rw [q, hid_at h, upd_same, upd_same]
  · rw [upd_ne q]
    unfold hid
    rw [upd_ne q]
theorem mergeK_nd : ∀ {more kvs : List (Key × V)}, ((kvs ++ more).map (·.1)).Nodup → mergeK kvs more = kvs ++ more
  | [], kvs, _ => by simp [mergeK]
  | p :: r, kvs, h => by
    have e : putK kvs p.1 p.2 = kvs ++ [p] := by
      unfold putK
      rw [if_neg]
      intro z
      obtain ⟨q, hq, e⟩ := List.any_eq_true.mp z
      rw [List.map_append, List.nodup_append] at h
      exact h.2.2 q.1 (List.mem_map.mpr ⟨q, hq, rfl⟩) p.1 (by simp) (of_decide_eq_true e)
    show mergeK (putK kvs p.1 p.2) r = _
    rw [e, mergeK_nd (by simpa using h)]
    simp
theorem valV_get {κ : Type} [DecidableEq κ] : ∀ {kvs : List (κ × V)} {i : Nat} {k : κ} {v : V}, (kvs.map (·.1)).Nodup → kvs[i]? = some (k, v) → valV kvs k = some v
  | [], i, _, _, _, h => by cases h
  | p :: r, 0, k, v, _, h => by
    cases h
    exact valV_pos rfl
  | p :: r, i + 1, k, v, n, h => by
    have n2 := List.nodup_cons.mp n
    have hm : k ∈ r.map (·.1) := List.mem_map.mpr ⟨(k, v), List.mem_of_getElem? h, rfl⟩
    rw [valV_neg (fun e => n2.1 (by show p.1 ∈ _; rw [show p.1 = k from e]; exact hm))]
    exact valV_get n2.2 h
theorem paired_snoc {α β : Type} {F : α → β → Prop} : ∀ {xs : List α} {ys : List β} {x : α} {y : β}, Paired F xs ys → F x y → Paired F (xs ++ [x]) (ys ++ [y])
  | _, _, _, _, .nil, h => .cons h .nil
  | _, _, _, _, .cons r t, h => .cons r (paired_snoc t h)
theorem sql_rds (e : RdS H H') {a : Addr} {xs : List V} (h : SqL K H a xs) : SqL K H' a xs := h.imp (e a xs).1 id
theorem sqt_rds (e : RdS H H') {a : Addr} {xs : List V} (h : SqT K H a xs) : SqT K H' a xs := h.imp (e a xs).2 id
mutual
theorem dq_same (e : Same H H') : ∀ {d : PyData} {v : V}, Dq K H v d → Dq K H' v d
  | _, _, .non => .non
  | _, _, .bl b => .bl b
  | _, _, .int i => .int i
  | _, _, .str x => .str x
  | _, _, .lst s l h => .lst (sql_same e s) l (dqa_same e h)
  | _, _, .tup s l h => .tup (sqt_same e s) l (dqa_same e h)
  | _, _, .dct s l n h => .dct (e _ _ s) l n (dqk_same e h)
theorem dqa_same (e : Same H H') : ∀ {ds : List PyData} {vs : List V}, DqAll K H vs ds → DqAll K H' vs ds
  | _, _, .nil => .nil
  | _, _, .cons h t => .cons (dq_same e h) (dqa_same e t)
theorem dqk_same (e : Same H H') : ∀ {ds : List (PyData × PyData)} {vs : List (Key × V)}, DqKv K H vs ds → DqKv K H' vs ds
  | _, _, .nil => .nil
  | _, _, .cons h n t => .cons (dq_same e h) n (dqk_same e t)
end
mutual
theorem dq_rds (e : RdS H H') : ∀ {d : PyData} {v : V}, Dq K H v d → noDct d = true → Dq K H' v d
  | _, _, .non, _ => .non
  | _, _, .bl b, _ => .bl b
  | _, _, .int i, _ => .int i
  | _, _, .str x, _ => .str x
  | _, _, .lst s l h, n => .lst (sql_rds e s) l (dqa_rds e h n)
  | _, _, .tup s l h, n => .tup (sqt_rds e s) l (dqa_rds e h n)
theorem dqa_rds (e : RdS H H') : ∀ {ds : List PyData} {vs : List V}, DqAll K H vs ds → noDctAll ds = true → DqAll K H' vs ds
  | _, _, .nil, _ => .nil
  | _, _, .cons h t, n => by
    have n2 : (noDct _ && noDctAll _) = true := n
    rw [Bool.and_eq_true] at n2
    exact .cons (dq_rds e h n2.1) (dqa_rds e t n2.2)
end
theorem dqk_rds (e : RdS H H') : ∀ {ds : List (PyData × PyData)} {vs : List (Key × V)}, DqKv K H vs ds → DqKv K H' vs ds
  | _, _, .nil => .nil
  | _, _, .cons h n t => .cons (dq_rds e h n) n (dqk_rds e t)
theorem DqAll.length : ∀ {vs : List V} {ds : List PyData}, DqAll K H vs ds → vs.length = ds.length
  | _, _, .nil => rfl
  | _, _, .cons _ t => congrArg Nat.succ t.length
theorem DqAll.get : ∀ {vs : List V} {ds : List PyData} {i : Nat} {v : V}, DqAll K H vs ds → vs[i]? = some v → ∃ d, ds[i]? = some d ∧ Dq K H v d
  | _, _, i, _, .nil, h => by cases h
  | _, _, 0, _, .cons h t, e => by
    cases e
    exact ⟨_, rfl, h⟩
  | _, _, i + 1, _, .cons h t, e => t.get (i := i) e
theorem DqAll.snoc : ∀ {vs : List V} {ds : List PyData} {v : V} {d : PyData}, DqAll K H vs ds → Dq K H v d → DqAll K H (vs ++ [v]) (ds ++ [d])
  | _, _, _, _, .nil, h => .cons h .nil
  | _, _, _, _, .cons g t, h => .cons g (t.snoc h)
theorem DqKv.get : ∀ {kvs : List (Key × V)} {ds : List (PyData × PyData)} {i : Nat} {k : Key} {v : V}, DqKv K H kvs ds → kvs[i]? = some (k, v) → ∃ d, ds[i]? = some (kP k, d) ∧ Dq K H v d ∧ noDct d = true
  | _, _, i, _, _, .nil, h => by cases h
  | _, _, 0, _, _, .cons h n t, e => by
    cases e
    exact ⟨_, rfl, h, n⟩
  | _, _, i + 1, _, _, .cons h n t, e => t.get (i := i) e
theorem DqKv.snoc : ∀ {kvs : List (Key × V)} {ds : List (PyData × PyData)} {k : Key} {v : V} {d : PyData}, DqKv K H kvs ds → Dq K H v d → noDct d = true → DqKv K H (kvs ++ [(k, v)]) (ds ++ [(kP k, d)])
  | _, _, _, _, _, .nil, h, n => .cons h n .nil
  | _, _, _, _, _, .cons g m t, h, n => .cons g m (t.snoc h n)
/-! the rank: how deep a walk goes -/
mutual
def rk : PyData → Nat
  | .list xs => rkAll xs + 1
  | .tuple xs => rkAll xs + 1
  | .dict kvs => rkKv kvs + 3
  | _ => 0
def rkAll : List PyData → Nat
  | [] => 0
  | x :: xs => max (rk x) (rkAll xs)
def rkKv : List (PyData × PyData) → Nat
  | [] => 0
  | (_, x) :: xs => max (rk x) (rkKv xs)
end
theorem rkAll_get : ∀ {ds : List PyData} {i : Nat} {d : PyData}, ds[i]? = some d → rk d ≤ rkAll ds
  | [], _, _, h => by cases h
  | x :: xs, 0, _, h => by
    cases h
    exact Nat.le_max_left _ _
  | x :: xs, i + 1, _, h => Nat.le_trans (rkAll_get (ds := xs) (i := i) h) (Nat.le_max_right _ _)
theorem rkKv_get : ∀ {ds : List (PyData × PyData)} {i : Nat} {k d : PyData}, ds[i]? = some (k, d) → rk d ≤ rkKv ds
  | [], _, _, _, h => by cases h
  | (_, x) :: xs, 0, _, _, h => by
    cases h
    exact Nat.le_max_left _ _
  | (_, x) :: xs, i + 1, _, _, h => Nat.le_trans (rkKv_get (ds := xs) (i := i) h) (Nat.le_max_right _ _)
/-! kinds -/
def tyN : PyData → String
  | .none => "NoneType"
  | .bool _ => "bool"
  | .int _ => "int"
  | .str _ => "str"
  | .list _ => "list"
  | .tuple _ => "tuple"
  | .dict _ => "dict"
theorem tyx_l {a : Addr} {xs : List V} (h : SqL K H a xs) : TyX K H (.ref a) (.type "list") := by
  rcases h with (h | ⟨o, h⟩) | ⟨o, its, n, e, c, _⟩
  · exact .base (.lst h)
  · exact .base (.frz h)
  · exact .kList e c
theorem tyx_t {a : Addr} {xs : List V} (h : SqT K H a xs) : TyX K H (.ref a) (.type "tuple") := by
  rcases h with (h | ⟨o, h⟩) | ⟨o, its, n, e, c, _⟩
  · exact .base (.tup h)
  · exact .fTuple h
  · exact .kTuple e c
theorem dq_ty {v : V} {d : PyData} (h : Dq K H v d) : TyX K H v (.type (tyN d)) := by
  cases h with
  | non => exact .base .non
  | bl b => exact .base (.bl b)
  | int i => exact .base (.int i)
  | str x => exact .base (.str x)
  | lst s _ _ => exact tyx_l s
  | tup s _ _ => exact tyx_t s
  | dct s _ _ _ => exact .base (.dK s)
theorem isi_q {v : V} {d : PyData} {tn n : String} {b : Bool} {Q : VK} (h : Dq K H v d) (e : tyN d = tn) (hb : kitB tn n = some b) (q : Q (.bl b) H) : cIsi K [v, .ty n] H Q := isi_1 (dq_ty h) (kit_ty (e ▸ hb)) q
theorem kit_any {a : String} {ns : List String} {b : Bool} (h : (ns.foldr (fun n (r : Option Bool) => match kitB a n with | some true => some true | some false => r | none => none) (some false)) = some b) : PySem.W.kitAny K (.type a) (ns.map Value.type) = some b := by
  induction ns generalizing b with
  | nil => exact h
  | cons n r ih =>
    show PySem.W.kitAny K (.type a) (.type n :: r.map Value.type) = some b
    simp only [List.foldr_cons] at h
    cases e : kitB a n with
    | none => rw [e] at h; cases h
    | some k =>
      rw [e] at h
      cases k with
      | true =>
        cases h
        exact kitAny_cons (kit_ty e) (fun z => by cases z) (fun _ => rfl)
      | false => exact kitAny_cons (kit_ty e) (fun _ => ih h) (fun z => by cases z)
theorem clsv_all : ∀ ns : List String, Paired ClsV (ns.map V.ty) (ns.map Value.type)
  | [] => .nil
  | n :: r => .cons (.ty n) (clsv_all r)
def kitL (a : String) (ns : List String) : Option Bool := ns.foldr (fun n (r : Option Bool) => match kitB a n with | some true => some true | some false => r | none => none) (some false)
/-- isinstance(x, (t1, t2, ..)), the tuple just laid at p -/
theorem isi_qt {v : V} {d : PyData} {p : Addr} (ns : List String) {tn : String} {b : Bool} {Q : VK} (h : Dq K H v d) (e : tyN d = tn) (hp : H p = some (.tup (ns.map V.ty))) (hb : kitL tn ns = some b) (q : Q (.bl b) H) : cIsi K [v, .ref p] H Q :=
  .inr ⟨v, p, _, _, _, b, rfl, hp, clsv_all ns, dq_ty h, kit_any (e ▸ hb), q⟩
theorem dq_hid {M : List Addr} {v : V} {d : PyData} (h : Dq K (hid M H) v d) : Dq K H v d := dq_same hid_sub h
end
end Pt
namespace Pt
def sp_law_copied (K : PySem.W.Frag) : Nat → Sp
  | 0 => fun _ _ _ _ => False
  | n + 1 => fun vs H Q _ => ∃ (M : List Addr) (v : V) (d : PyData), vs = [v] ∧ InH M H ∧ Dq K (hid M H) v d ∧ rk d ≤ n ∧ ∀ v' H', Same H H' → Dq K (hid M H') v' d → Q v' H'
abbrev n_law_copied : List Str := ["thing", "found", "key", "part"]
def t_law_copied (K : PySem.W.Frag) (n : Nat) : TS :=
  tSeq (tIfS (tTru K (tCB (cIsi K) (tCons (tVar 0) (tCons (tC (.ty "dict")) (tNil))))) (tRet (tCB (cDict K) (tCons (tLockE (tLc (iKeys (tVar 0)) (gName 2) (tYes) (tTup (tCons (tVar 2) (tCons (tOwn (sp_law_copied K n) (tCons (tOp (rIxU K) (tVar 0) (tVar 2)) (tNil))) (tNil)))) [2])) (tNil)))) (tNext)) (tSeq (tIfS (tNot (tTru K (tCB (cIsi K) (tCons (tVar 0) (tCons (tTup (tCons (tC (.ty "list")) (tCons (tC (.ty "tuple")) (tNil)))) (tNil)))))) (tRet (tVar 0)) (tNext)) (tSeq (tAsg (tLc (iSeq K (tVar 0)) (gName 3) (tYes) (tOwn (sp_law_copied K n) (tCons (tVar 3) (tNil))) [3]) (gName 1)) (tRet (tIf (tTru K (tCB (cIsi K) (tCons (tVar 0) (tCons (tC (.ty "list")) (tNil))))) (tVar 1) (tCB (cTuple K) (tCons (tVar 1) (tNil)))))))
theorem pure_law_copied {K : PySem.W.Frag} (n : Nat) (vs : List V) (H : Hp) (Q : VK) (E : XK) (h : sp_law_copied K (n + 1) vs H Q E) : t_law_copied K n { nx := fun _ H' => Q .non H', rt := Q } (start n_law_copied vs) H := by
  obtain ⟨M, v, d, rfl, hM, hd, hr, q⟩ := h
  have flat : ∀ tn, tyN d = tn → kitB tn "dict" = some false → kitL tn ["list", "tuple"] = some false → t_law_copied K n { nx := fun _ H' => Q .non H', rt := Q } (start n_law_copied [v]) H := by
    intro tn e k1 k2
    unfold t_law_copied
    walk_at "go"
    refine isi_q (dq_hid hd) e k1 ?_
    walk_at "go"
    refine w_iteF rfl ?_
    walk_at "go"
    refine ⟨by show 2 ≤ sizeLine; decide, fun p hp => ?_⟩
    have s1 := same_new (o := .tup [.ty "list", .ty "tuple"]) hp
    walk_at "go"
    refine isi_qt ["list", "tuple"] (dq_same s1 (dq_hid hd)) e upd_same k2 ?_
    walk_at "go"
    refine w_iteT rfl ?_
    walk_at "go"
    exact q v _ s1 (dq_same (hid_same s1) hd)
  -- what a list's items, a tuple's items come to
  have items : ∀ (ds : List PyData) (xs : List V), rkAll ds + 1 ≤ n → xs.length ≤ 1000000 → DqAll K (hid M H) xs ds → ∀ (a : Addr) (J : It), v = .ref a → ∀ Hb, Same H Hb → (∃ Gw, Walk J xs.length Gw (YAt xs) ∧ ∀ H, Same Hb H → Gw H) →
      ∀ (R : Addr → Hp → Prop), (∀ D acc H1, H D = none → Same H H1 → InH (D :: M) H1 → H1 D = some (.lst acc) → acc.length ≤ xs.length → DqAll K (hid (D :: M) H1) acc ds → R D H1) →
      ∀ D, Hb D = none → ∃ W : Nat → Nat → Hp → Prop, (∃ m, W 0 m (upd Hb D (.lst []))) ∧ ∀ i m H, W i m H →
      (J.stop i H ∧ R D H) ∨ (J.go i H ∧ ∃ Nx : Hp → Prop, (∀ H', Nx H' → ∃ m', m' < m ∧ W (i + 1) m' H') ∧ ∀ x H', J.yld i H x H' → gName 3 x (wipe (start n_law_copied [v]) [3]) H' fun σ2 H2 => wipe σ2 [3] = wipe (start n_law_copied [v]) [3] ∧ tYes σ2 H2 fun b H3 =>
        if b = true then tOwn (sp_law_copied K n) (tCons (tVar 3) tNil) σ2 H3 fun y H4 => ∃ acc, H4 D = some (.lst acc) ∧ acc.length < sizeLine ∧ Nx (upd H4 D (.lst (acc ++ [y]))) else Nx H3) := by
    rintro ds xs hr hl ha a J rfl Hb s1 ⟨Gw, wk, hG⟩ R hR
    refine lc_pure wk M (fun i acc G => DqAll K G acc (ds.take i)) (hM.same s1) (fun _ _ => by simpa using DqAll.nil) (fun i acc G G' e h => dqa_same e h) hG (Nat.le_trans hl (by decide)) ?_ ?_
    · rintro D i acc x H1 H2 Nx hD hi f kn inn hd' hr' ⟨rfl, hx⟩ kY kN
      obtain ⟨di, hdi, hdx⟩ := ha.get hx
      walk_at "go"
      refine ⟨rfl, ?_⟩
      walk_at "go"
      refine w_iteT rfl ?_
      walk_at "go"
      have hr3 : rk di + 1 ≤ n := by
        have := rkAll_get hdi
        omega
      obtain ⟨m, rfl⟩ : ∃ m, n = m + 1 := ⟨n - 1, by omega⟩
      refine ⟨D :: M, x, di, rfl, inn, dq_same kn (dq_same (hid_same s1) hdx), by omega, fun v' H3 s3 hv => ?_⟩
      refine kY v' H3 s3 ?_
      have e : ds.take (i + 1) = ds.take i ++ [di] := by
        rw [List.take_add_one, hdi]
        rfl
      rw [e]
      exact (dqa_same (hid_same s3) hr').snoc hv
    · rintro D acc H1 hD f inn kn hd' hr' hla
      rw [ha.length, List.take_length] at hr'
      exact hR D acc H1 (same_free s1 hD) (fun b o e => f b o (s1 b o e)) inn hd' hla hr'
  cases hd with
  | non => exact flat "NoneType" rfl (by decide +kernel) (by decide +kernel)
  | bl b => exact flat "bool" rfl (by decide +kernel) (by decide +kernel)
  | int i => exact flat "int" rfl (by decide +kernel) (by decide +kernel)
  | str x => exact flat "str" rfl (by decide +kernel) (by decide +kernel)
  | @lst a xs ds hs hl ha =>
    have hd : Dq K (hid M H) (.ref a) (.list ds) := .lst hs hl ha
    unfold t_law_copied
    walk_at "go"
    refine isi_q (tn := "list") (b := false) (dq_hid hd) rfl (by decide +kernel) ?_
    walk_at "go"
    refine w_iteF rfl ?_
    walk_at "go"
    refine ⟨by show 2 ≤ sizeLine; decide, fun p hp => ?_⟩
    have s1 := same_new (o := .tup [.ty "list", .ty "tuple"]) hp
    walk_at "go"
    refine isi_qt ["list", "tuple"] (tn := "list") (b := true) (dq_same s1 (dq_hid hd)) rfl upd_same (by decide +kernel) ?_
    walk_at "go"
    refine w_iteF rfl ?_
    walk_at "go"
    refine w_iseqL ?_
    walk_at "go"
    have hs1 : SqL K (upd H p (.tup [.ty "list", .ty "tuple"])) a xs := sql_same s1 (sql_same hid_sub hs)
    refine e_ilist hs1 ?_
    refine items ds xs hr hl ha a _ rfl _ s1 ⟨_, walk_list (xs := xs), fun H e => sql_same e hs1⟩ _ ?_
    rintro D acc H1 hD f inn hd' hla hr'
    walk_at "go"
    refine isi_q (tn := "list") (b := true) (dq_same f (dq_hid hd)) rfl (by decide +kernel) ?_
    walk_at "go"
    refine w_iteT rfl ?_
    walk_at "go"
    refine q _ H1 f (.lst (sql_of ?_) (Nat.le_trans hla hl) (dqa_same hid_cons hr'))
    rw [hid_at (hM.ne hD)]
    exact hd'
  | @tup a xs ds hs hl ha =>
    have hd : Dq K (hid M H) (.ref a) (.tuple ds) := .tup hs hl ha
    unfold t_law_copied
    walk_at "go"
    refine isi_q (tn := "tuple") (b := false) (dq_hid hd) rfl (by decide +kernel) ?_
    walk_at "go"
    refine w_iteF rfl ?_
    walk_at "go"
    refine ⟨by show 2 ≤ sizeLine; decide, fun p hp => ?_⟩
    have s1 := same_new (o := .tup [.ty "list", .ty "tuple"]) hp
    walk_at "go"
    refine isi_qt ["list", "tuple"] (tn := "tuple") (b := true) (dq_same s1 (dq_hid hd)) rfl upd_same (by decide +kernel) ?_
    walk_at "go"
    refine w_iteF rfl ?_
    walk_at "go"
    refine w_iseqT ?_
    walk_at "go"
    have hs1 : SqT K (upd H p (.tup [.ty "list", .ty "tuple"])) a xs := sqt_same s1 (sqt_same hid_sub hs)
    refine e_itup hs1 ?_
    refine items ds xs hr hl ha a _ rfl _ s1 ⟨_, walk_tup (xs := xs), fun H e => sqt_same e hs1⟩ _ ?_
    rintro D acc H1 hD f inn hd' hla hr'
    walk_at "go"
    refine isi_q (tn := "tuple") (b := false) (dq_same f (dq_hid hd)) rfl (by decide +kernel) ?_
    walk_at "go"
    refine w_iteF rfl ?_
    walk_at "go"
    refine tuple_l (sql_of hd') fun p2 hp2 => ?_
    have s2 := same_new (o := .tup acc) hp2
    refine q _ _ (f.trans s2) (.tup (sqt_of ?_) (Nat.le_trans hla hl) (dqa_same (hid_same s2) (dqa_same hid_cons hr')))
    rw [hid_at (hM.ne (same_free f hp2)), upd_same]
  | @dct a kvs ds hs hl nd ha =>
    have hd : Dq K (hid M H) (.ref a) (.dict ds) := .dct hs hl nd ha
    unfold t_law_copied
    walk_at "go"
    refine isi_q (tn := "dict") (b := true) (dq_hid hd) rfl (by decide +kernel) ?_
    walk_at "go"
    refine w_iteT rfl ?_
    walk_at "go"
    obtain ⟨haM, hsH⟩ := hid_of hs
    refine ⟨a, .dK kvs, hsH, True.intro, fun od => ?_⟩
    have rf : RdS (hid M H) (hid M (upd H a (.frz od (.dK kvs)))) := by
      rw [hid_upd_eq haM]
      exact rds_frz hs
    have iMf : InH M (upd H a (.frz od (.dK kvs))) := hM.upd
    walk_at "go"
    refine ⟨a, od, rfl, .inl ⟨kvs, upd_same, ?_⟩⟩
    refine lc_pure walk_keys M (fun i acc G => ∃ (ps : List Addr) (ks : List (Key × V)), acc = ps.map V.ref ∧ Paired (fun p kv => SqT K G p [kV kv.1, kv.2]) ps ks ∧ ks.map (·.1) = (kvs.take i).map (·.1) ∧ DqKv K G ks (ds.take i) ∧ ps.length = i) iMf ?_ ?_ (fun H e => e _ _ upd_same) (Nat.le_trans hl (by decide)) ?_ ?_
    · exact fun G _ => ⟨[], [], rfl, .nil, by simp, by simpa using DqKv.nil, rfl⟩
    · rintro i acc G G' e ⟨ps, ks, e1, e2, e3, e4, e5⟩
      exact ⟨ps, ks, e1, Paired.mapP e2 fun p kv h => sqt_same e h, e3, dqk_same e e4, e5⟩
    · rintro D i acc x H1 H2 Nx hD hi f kn inn hd' ⟨ps, ks, rfl, e2, e3, e4, e5⟩ ⟨rfl, k, v, hkv, rfl⟩ kY kN
      obtain ⟨di, hdi, hdx, hnd⟩ := ha.get hkv
      walk_at "go"
      refine ⟨rfl, ?_⟩
      walk_at "go"
      refine w_iteT rfl ?_
      walk_at "go"
      refine ix_d (v := v) (.inl ⟨kvs, k, .inr ⟨od, f _ _ upd_same⟩, rfl, ?_⟩) ?_
      · exact (valV_get nd hkv).symm
      walk_at "go"
      have hr3 : rk di + 3 ≤ n := by
        have := rkKv_get hdi
        have h2 : rkKv ds + 3 ≤ n := hr
        omega
      obtain ⟨m, rfl⟩ : ∃ m, n = m + 1 := ⟨n - 1, by omega⟩
      refine ⟨D :: M, v, di, rfl, inn, dq_same kn (dq_rds rf hdx hnd), by omega, fun v' H3 s3 hv => ?_⟩
      walk_at "go"
      refine ⟨by show 2 ≤ sizeLine; decide, fun p hp => ?_⟩
      have s4 := same_new (o := .tup [kV k, v']) hp
      have s34 : Same (hid (D :: M) H2) (hid (D :: M) (upd H3 p (.tup [kV k, v']))) := fun b o e => hid_same s4 b o (hid_same s3 b o e)
      have eds : ds.take (i + 1) = ds.take i ++ [(kP k, di)] := by
        rw [List.take_add_one, hdi]
        rfl
      refine kY _ _ (fun b o e => s4 b o (s3 b o e)) ⟨ps ++ [p], ks ++ [(k, v')], by simp, ?_, ?_, ?_, by simp [e5]⟩
      · refine paired_snoc (Paired.mapP e2 fun p kv h => sqt_same s34 h) (sqt_of ?_)
        rw [hid_at ((inn.same s3).ne hp), upd_same]
      · rw [List.map_append, e3, List.take_add_one, hkv, List.map_append]
        rfl
      · rw [eds]
        exact (dqk_same s34 e4).snoc (dq_same (hid_same s4) hv) hnd
    · rintro D acc H1 hD f inn kn hd' ⟨ps, ks, rfl, e2, e3, e4, e5⟩ hla
      refine ⟨f _ _ upd_same, ?_⟩
      walk_at "go"
      have haf : H1 a = some (.frz od (.dK kvs)) := f _ _ upd_same
      have nDa : D ≠ a := fun z => by
        rw [← z, hd'] at haf
        cases haf
      rw [List.take_of_length_le (Nat.le_refl _)] at e3
      have hln : kvs.length = ds.length := by
        have : ∀ {kvs : List (Key × V)} {ds : List (PyData × PyData)}, DqKv K (hid M H) kvs ds → kvs.length = ds.length := by
          intro kvs ds h
          induction kvs generalizing ds with
          | nil => cases h; rfl
          | cons p r ih => cases h with | cons _ _ t => exact congrArg Nat.succ (ih t)
        exact this ha
      rw [hln, List.take_length] at e4
      have ru : RdS (hid (D :: M) H1) (hid (D :: M) (upd H1 a (.dK kvs))) := by
        have h1 : a ∉ D :: M := by
          simp only [List.mem_cons, not_or]
          exact ⟨Ne.symm nDa, haM⟩
        rw [hid_upd_eq h1]
        exact rds_unfrz (by rw [hid_at h1]; exact haf)
      have rk : RdS (hid (D :: M) (upd H1 a (.dK kvs))) (upd H1 a (.dK kvs)) := Same.rds hid_sub
      have sf : Same H (upd H1 a (.dK kvs)) := fun b o e => by
        by_cases q : b = a
        · rw [q] at e ⊢
          rw [upd_same, ← hsH, e]
        · rw [upd_ne q]
          exact f b o (by rw [upd_ne q]; exact e)
      have hDH : H D = none := by
        rw [upd_ne nDa] at hD
        exact hD
      refine .inl ⟨D, ps, ks, rfl, sql_of (by rw [upd_ne nDa]; exact hd'), Paired.mapP e2 fun p kv h => sqt_rds rk (sqt_rds ru h), fun p hp => ?_⟩
      have s6 := same_new (o := .dK (mergeK [] ks)) hp
      have ndk : (ks.map (·.1)).Nodup := by rw [e3]; exact nd
      have em : mergeK [] ks = ks := mergeK_nd (by simpa using ndk)
      have hk2 : DqKv K (hid M (upd (upd H1 a (.dK kvs)) p (.dK (mergeK [] ks)))) ks ds := by
        exact dqk_same (hid_same s6) (dqk_same hid_cons (dqk_rds ru e4))
      refine q _ _ (fun b o e => s6 b o (sf b o e)) (.dct (by rw [hid_at ((hM.same sf).ne hp), upd_same, em]) ?_ ndk hk2)
      have := congrArg List.length e3
      rw [List.length_map, List.length_map] at this
      rw [this]
      exact hl
end Pt
namespace Pt
theorem walk_zipT {K : PySem.W.Frag} {a b : Addr} {xs ys : List V} {n : Nat} (hn : n = min xs.length ys.length) : Walk (RZ.ItzT K a b) n (fun H => SqT K H a xs ∧ SqT K H b ys) (YPair (fun i => xs[i]?) (fun i => ys[i]?)) := by
  subst hn
  refine ⟨fun i _ hi q => ?_, fun _ q => ⟨xs, ys, q.1, q.2, by omega⟩, fun i H v H' _ q y => ?_⟩
  · have h1 : i < xs.length := by omega
    have h2 : i < ys.length := by omega
    exact ⟨xs, ys, xs[i], ys[i], q.1, q.2, by simp [h1], by simp [h2]⟩
  · obtain ⟨T, x, z, h1, h2, h3, h4, h5⟩ := y
    exact ⟨T, x, z, h1, h2, h3, h4 xs q.1, h5 ys q.2⟩
def sp_law_same (K : PySem.W.Frag) : Nat → Sp
  | 0 => fun _ _ _ _ => False
  | n + 1 => fun vs H Q _ => ∃ (u v : V) (d : PyData), vs = [u, v] ∧ Dq K H u d ∧ Dq K H v d ∧ rk d ≤ n ∧ ∀ H', Same H H' → Q (.bl true) H'
abbrev n_law_same : List Str := ["found", "due", "x", "y"]
def t_law_same (K : PySem.W.Frag) (n : Nat) : TS :=
  tSeq (tIfS (tTru K (tCB (cIsi K) (tCons (tVar 1) (tCons (tTup (tCons (tC (.ty "list")) (tCons (tC (.ty "tuple")) (tNil)))) (tNil))))) (tSeq (tIfS (tOr (tTest (tOp (rNeU K) (tCB (cIsi K) (tCons (tVar 0) (tCons (tC (.ty "list")) (tNil)))) (tCB (cIsi K) (tCons (tVar 1) (tCons (tC (.ty "list")) (tNil)))))) (tTest (tOp (rNeU K) (tCB (cIsi K) (tCons (tVar 0) (tCons (tC (.ty "tuple")) (tNil)))) (tCB (cIsi K) (tCons (tVar 1) (tCons (tC (.ty "tuple")) (tNil))))))) (tRet (tC (.bl false))) (tNext)) (tRet (tAndT K (tOp (rEqU K) (tCB (cLen K) (tCons (tVar 0) (tNil))) (tCB (cLen K) (tCons (tVar 1) (tNil)))) (tCB (rAll K) (tCons (tLc (RZ.iZipA K (tCons (tVar 0) (tCons (tVar 1) (tNil)))) (gTup K 2 (gCons (gName 2) (gCons (gName 3) (gNil)))) (tYes) (tOwn (sp_law_same K n) (tCons (tVar 2) (tCons (tVar 3) (tNil)))) [2, 3]) (tNil)))))) (tNext)) (tSeq (tIfS (tTru K (tCB (cIsi K) (tCons (tVar 1) (tCons (tC (.ty "dict")) (tNil))))) (tRet (tAndT K (tCB (cIsi K) (tCons (tVar 0) (tCons (tC (.ty "dict")) (tNil)))) (tOwn (sp_law_same K n) (tCons (LiI.tListItems (tVar 0)) (tCons (LiI.tListItems (tVar 1)) (tNil)))))) (tNext)) (tSeq (tIfS (tTru K (tCB (cIsi K) (tCons (tVar 1) (tCons (tC (.ty "int")) (tNil))))) (tRet (tAndT K (tCB (cIsi K) (tCons (tVar 0) (tCons (tC (.ty "int")) (tNil)))) (tAndT K (tOp (rEqU K) (tCB (cIsi K) (tCons (tVar 0) (tCons (tC (.ty "bool")) (tNil)))) (tCB (cIsi K) (tCons (tVar 1) (tCons (tC (.ty "bool")) (tNil))))) (tOp (rEqU K) (tVar 0) (tVar 1))))) (tNext)) (tSeq (tIfS (tTest (tOp rIsU (tVar 1) (tC .non))) (tRet (tOp rIsU (tVar 0) (tC .non))) (tNext)) (tSeq (tIfS (tTru K (tCB (cIsi K) (tCons (tVar 1) (tCons (tC (.ty "str")) (tNil))))) (tRet (tAndT K (tCB (cIsi K) (tCons (tVar 0) (tCons (tC (.ty "str")) (tNil)))) (tOp (rEqU K) (tVar 0) (tVar 1)))) (tNext)) (tRet (tAndT K (tNotT K (tCB (cIsi K) (tCons (tVar 0) (tCons (tTup (tCons (tC (.ty "int")) (tCons (tC (.ty "str")) (tCons (tC (.ty "list")) (tCons (tC (.ty "tuple")) (tCons (tC (.ty "dict")) (tNil))))))) (tNil))))) (tOp (rEqU K) (tVar 0) (tVar 1))))))))
theorem pure_law_same {K : PySem.W.Frag} (n : Nat) (vs : List V) (H : Hp) (Q : VK) (E : XK) (h : sp_law_same K (n + 1) vs H Q E) : t_law_same K n { nx := fun _ H' => Q .non H', rt := Q } (start n_law_same vs) H := by
  obtain ⟨u, v, d, rfl, hu, hv, hr, q⟩ := h
  -- the items of both
  have items : ∀ (ds : List PyData) (xs ys : List V), rkAll ds + 1 ≤ n → DqAll K H xs ds → DqAll K H ys ds → xs.length ≤ 1000000 → ∀ (J : It) (Hb : Hp), Same H Hb → (∃ Gw, Walk J xs.length Gw (YPair (fun i => xs[i]?) (fun i => ys[i]?)) ∧ ∀ H, Same Hb H → Gw H) →
      ∀ D, Hb D = none → ∃ W : Nat → Nat → Hp → Prop, (∃ m, W 0 m (upd Hb D (.lst []))) ∧ ∀ i m H, W i m H →
      (J.stop i H ∧ (fun D H => rAll K [.ref D] H Q) D H) ∨ (J.go i H ∧ ∃ Nx : Hp → Prop, (∀ H', Nx H' → ∃ m', m' < m ∧ W (i + 1) m' H') ∧ ∀ x H', J.yld i H x H' → gTup K 2 (gCons (gName 2) (gCons (gName 3) gNil)) x (wipe (start n_law_same [u, v]) [2, 3]) H' fun σ2 H2 => wipe σ2 [2, 3] = wipe (start n_law_same [u, v]) [2, 3] ∧ tYes σ2 H2 fun b H3 =>
        if b = true then tOwn (sp_law_same K n) (tCons (tVar 2) (tCons (tVar 3) tNil)) σ2 H3 fun y H4 => ∃ acc, H4 D = some (.lst acc) ∧ acc.length < sizeLine ∧ Nx (upd H4 D (.lst (acc ++ [y]))) else Nx H3) := by
    rintro ds xs ys hr hx hy hl J Hb s1 ⟨Gw, wk, hG⟩
    refine lc_im wk (fun _ => true) (fun _ => .bl true) (Nat.le_trans hl (by decide)) (fun _ H _ e => hG H e) ?_ ?_
    · rintro i x H1 H2 KY KN hi s2 ⟨T, a, b, rfl, hT, rfl, ea, eb⟩ kY kN
      obtain ⟨di, hdi, hda⟩ := hx.get ea
      obtain ⟨dj, hdj, hdb⟩ := hy.get eb
      rw [hdi] at hdj
      cases hdj
      refine w_gtup (sqt_of upd_same) rfl ?_
      walk_at "go"
      refine ⟨rfl, ?_⟩
      walk_at "go"
      refine w_iteT rfl ?_
      walk_at "go"
      have hr3 : rk di + 1 ≤ n := by
        have := rkAll_get hdi
        omega
      obtain ⟨m, rfl⟩ : ∃ m, n = m + 1 := ⟨n - 1, by omega⟩
      have s3 := same_new (o := .tup [a, b]) hT
      have s4 : Same H (upd H1 T (.tup [a, b])) := fun b o e => s3 b o (s2 b o (s1 b o e))
      exact ⟨a, b, di, rfl, dq_same s4 hda, dq_same s4 hdb, by omega, fun H3 s5 => kY rfl _ (fun b o e => s5 b o (s3 b o e))⟩
    · intro D H1 hD s2 h5
      refine ⟨D, (List.range xs.length).map fun _ => true, rfl, sql_of ?_, ?_⟩
      · rw [h5]
        unfold given
        rw [List.filter_eq_self.mpr (fun _ _ => rfl), List.map_map]
        rfl
      · rw [show ((List.range xs.length).map fun _ => true).all id = true by simp]
        exact q H1 fun b o e => s2 b o (s1 b o e)
  -- the first test: due is neither a list nor a tuple
  have lt : ∀ tn, tyN d = tn → kitL tn ["list", "tuple"] = some false → ∀ (R : TS), (∀ H1, Same H H1 → R { nx := fun _ H' => Q .non H', rt := Q } (start n_law_same [u, v]) H1) → ∀ t1 : TS,
      tSeq (tIfS (tTru K (tCB (cIsi K) (tCons (tVar 1) (tCons (tTup (tCons (tC (.ty "list")) (tCons (tC (.ty "tuple")) (tNil)))) (tNil))))) t1 tNext) R { nx := fun _ H' => Q .non H', rt := Q } (start n_law_same [u, v]) H := by
    intro tn e k1 R hR t1
    walk_at "go"
    refine ⟨by show 2 ≤ sizeLine; decide, fun p hp => ?_⟩
    have s1 := same_new (o := .tup [.ty "list", .ty "tuple"]) hp
    walk_at "go"
    refine isi_qt ["list", "tuple"] (dq_same s1 hv) e upd_same k1 ?_
    walk_at "go"
    refine w_iteF rfl ?_
    walk_at "go"
    exact hR _ s1
  cases hu with
  | non =>
    unfold t_law_same
    refine lt "NoneType" (by cases hv; rfl) (by decide +kernel) _ (fun H1 s1 => ?_) _
    cases hv
    walk_at "go"
    refine isi_q (tn := "NoneType") (b := false) .non rfl (by decide +kernel) ?_
    walk_at "go"
    refine w_iteF rfl ?_
    walk_at "go"
    refine isi_q (tn := "NoneType") (b := false) .non rfl (by decide +kernel) ?_
    walk_at "go"
    refine w_iteF rfl ?_
    walk_at "go"
    refine w_iteT rfl ?_
    walk_at "go"
    exact q _ s1
  | bl b =>
    unfold t_law_same
    refine lt "bool" (by cases hv; rfl) (by decide +kernel) _ (fun H1 s1 => ?_) _
    cases hv
    walk_at "go"
    refine isi_q (tn := "bool") (b := false) (.bl b) rfl (by decide +kernel) ?_
    walk_at "go"
    refine w_iteF rfl ?_
    walk_at "go"
    refine isi_q (tn := "bool") (b := true) (.bl b) rfl (by decide +kernel) ?_
    walk_at "go"
    refine w_iteT rfl ?_
    walk_at "go"
    refine isi_q (tn := "bool") (b := true) (.bl b) rfl (by decide +kernel) ?_
    walk_at "go"
    refine w_iteT rfl ?_
    walk_at "go"
    refine isi_q (tn := "bool") (b := true) (.bl b) rfl (by decide +kernel) ?_
    walk_at "go"
    refine isi_q (tn := "bool") (b := true) (.bl b) rfl (by decide +kernel) ?_
    walk_at "go"
    refine w_iteT rfl ?_
    walk_at "go"
    rw [decide_eq_true rfl]
    exact q _ s1
  | int i =>
    unfold t_law_same
    refine lt "int" (by cases hv; rfl) (by decide +kernel) _ (fun H1 s1 => ?_) _
    cases hv
    walk_at "go"
    refine isi_q (tn := "int") (b := false) (.int i) rfl (by decide +kernel) ?_
    walk_at "go"
    refine w_iteF rfl ?_
    walk_at "go"
    refine isi_q (tn := "int") (b := true) (.int i) rfl (by decide +kernel) ?_
    walk_at "go"
    refine w_iteT rfl ?_
    walk_at "go"
    refine isi_q (tn := "int") (b := true) (.int i) rfl (by decide +kernel) ?_
    walk_at "go"
    refine w_iteT rfl ?_
    walk_at "go"
    refine isi_q (tn := "int") (b := false) (.int i) rfl (by decide +kernel) ?_
    walk_at "go"
    refine isi_q (tn := "int") (b := false) (.int i) rfl (by decide +kernel) ?_
    walk_at "go"
    refine w_iteT rfl ?_
    walk_at "go"
    rw [decide_eq_true rfl]
    exact q _ s1
  | str x =>
    unfold t_law_same
    refine lt "str" (by cases hv; rfl) (by decide +kernel) _ (fun H1 s1 => ?_) _
    cases hv
    walk_at "go"
    refine isi_q (tn := "str") (b := false) (.str x) rfl (by decide +kernel) ?_
    walk_at "go"
    refine w_iteF rfl ?_
    walk_at "go"
    refine isi_q (tn := "str") (b := false) (.str x) rfl (by decide +kernel) ?_
    walk_at "go"
    refine w_iteF rfl ?_
    walk_at "go"
    refine w_iteF rfl ?_
    walk_at "go"
    refine isi_q (tn := "str") (b := true) (.str x) rfl (by decide +kernel) ?_
    walk_at "go"
    refine w_iteT rfl ?_
    walk_at "go"
    refine isi_q (tn := "str") (b := true) (.str x) rfl (by decide +kernel) ?_
    walk_at "go"
    refine w_iteT rfl ?_
    walk_at "go"
    rw [decide_eq_true rfl]
    exact q _ s1
  | @lst a xs ds hs hl ha =>
    obtain ⟨b, ys, rfl, hs2, hl2, hb⟩ : ∃ b ys, v = .ref b ∧ SqL K H b ys ∧ ys.length ≤ 1000000 ∧ DqAll K H ys ds := by
      cases hv with
      | lst s l h => exact ⟨_, _, rfl, s, l, h⟩
    have hu : Dq K H (.ref a) (.list ds) := .lst hs hl ha
    have hv : Dq K H (.ref b) (.list ds) := .lst hs2 hl2 hb
    have ell : xs.length = ys.length := ha.length.trans hb.length.symm
    unfold t_law_same
    walk_at "go"
    refine ⟨by show 2 ≤ sizeLine; decide, fun p hp => ?_⟩
    have s1 := same_new (o := .tup [.ty "list", .ty "tuple"]) hp
    walk_at "go"
    refine isi_qt ["list", "tuple"] (tn := "list") (b := true) (dq_same s1 hv) rfl upd_same (by decide +kernel) ?_
    walk_at "go"
    refine w_iteT rfl ?_
    walk_at "go"
    refine isi_q (tn := "list") (b := true) (dq_same s1 hu) rfl (by decide +kernel) ?_
    walk_at "go"
    refine isi_q (tn := "list") (b := true) (dq_same s1 hv) rfl (by decide +kernel) ?_
    walk_at "go"
    refine w_iteF rfl ?_
    walk_at "go"
    refine isi_q (tn := "list") (b := false) (dq_same s1 hu) rfl (by decide +kernel) ?_
    walk_at "go"
    refine isi_q (tn := "list") (b := false) (dq_same s1 hv) rfl (by decide +kernel) ?_
    walk_at "go"
    refine w_iteF rfl ?_
    walk_at "go"
    refine w_iteT (decide_eq_true (by rw [ell])) ?_
    walk_at "go"
    refine ⟨a, b, xs, ys, rfl, .inl ⟨sql_same s1 hs, sql_same s1 hs2, ?_⟩⟩
    exact items ds xs ys hr ha hb hl _ _ s1 ⟨_, walk_zip (by omega), fun H e => ⟨sql_same e (sql_same s1 hs), sql_same e (sql_same s1 hs2)⟩⟩
  | @tup a xs ds hs hl ha =>
    obtain ⟨b, ys, rfl, hs2, hl2, hb⟩ : ∃ b ys, v = .ref b ∧ SqT K H b ys ∧ ys.length ≤ 1000000 ∧ DqAll K H ys ds := by
      cases hv with
      | tup s l h => exact ⟨_, _, rfl, s, l, h⟩
    have hu : Dq K H (.ref a) (.tuple ds) := .tup hs hl ha
    have hv : Dq K H (.ref b) (.tuple ds) := .tup hs2 hl2 hb
    have ell : xs.length = ys.length := ha.length.trans hb.length.symm
    unfold t_law_same
    walk_at "go"
    refine ⟨by show 2 ≤ sizeLine; decide, fun p hp => ?_⟩
    have s1 := same_new (o := .tup [.ty "list", .ty "tuple"]) hp
    walk_at "go"
    refine isi_qt ["list", "tuple"] (tn := "tuple") (b := true) (dq_same s1 hv) rfl upd_same (by decide +kernel) ?_
    walk_at "go"
    refine w_iteT rfl ?_
    walk_at "go"
    refine isi_q (tn := "tuple") (b := false) (dq_same s1 hu) rfl (by decide +kernel) ?_
    walk_at "go"
    refine isi_q (tn := "tuple") (b := false) (dq_same s1 hv) rfl (by decide +kernel) ?_
    walk_at "go"
    refine w_iteF rfl ?_
    walk_at "go"
    refine isi_q (tn := "tuple") (b := true) (dq_same s1 hu) rfl (by decide +kernel) ?_
    walk_at "go"
    refine isi_q (tn := "tuple") (b := true) (dq_same s1 hv) rfl (by decide +kernel) ?_
    walk_at "go"
    refine w_iteF rfl ?_
    walk_at "go"
    refine w_iteT (decide_eq_true (by rw [ell])) ?_
    walk_at "go"
    refine ⟨a, b, xs, ys, rfl, .inr ⟨sqt_same s1 hs, sqt_same s1 hs2, ?_⟩⟩
    exact items ds xs ys hr ha hb hl _ _ s1 ⟨_, walk_zipT (by omega), fun H e => ⟨sqt_same e (sqt_same s1 hs), sqt_same e (sqt_same s1 hs2)⟩⟩
  | @dct a kvs ds hs hl nd ha =>
    obtain ⟨b, ks, rfl, hs2, hl2, nd2, hb⟩ : ∃ b ks, v = .ref b ∧ H b = some (.dK ks) ∧ ks.length ≤ 1000000 ∧ (ks.map (·.1)).Nodup ∧ DqKv K H ks ds := by
      cases hv with
      | dct s l n h => exact ⟨_, _, rfl, s, l, n, h⟩
    have hu : Dq K H (.ref a) (.dict ds) := .dct hs hl nd ha
    have hv : Dq K H (.ref b) (.dict ds) := .dct hs2 hl2 nd2 hb
    unfold t_law_same
    refine lt "dict" rfl (by decide +kernel) _ (fun H1 s1 => ?_) _
    walk_at "go"
    refine isi_q (tn := "dict") (b := true) (dq_same s1 hv) rfl (by decide +kernel) ?_
    walk_at "go"
    refine w_iteT rfl ?_
    walk_at "go"
    refine isi_q (tn := "dict") (b := true) (dq_same s1 hu) rfl (by decide +kernel) ?_
    walk_at "go"
    refine w_iteT rfl ?_
    walk_at "go"
    refine ⟨.ref a, rfl, a, kvs, rfl, s1 _ _ hs, fun H2 p ts s2 hp hts hpt h2 tup => ?_⟩
    walk_at "go"
    have s12 : Same H H2 := fun b o e => s2 b o (s1 b o e)
    refine ⟨.ref b, rfl, b, ks, rfl, s12 _ _ hs2, fun H3 p3 ts3 s3 hp3 hts3 hpt3 h3 tup3 => ?_⟩
    walk_at "go"
    have s13 : Same H H3 := fun b o e => s3 b o (s12 b o e)
    have pair : ∀ {ts : List Addr} {kvs : List (Key × V)} {ds : List (PyData × PyData)}, Paired (fun (t : Addr) (q : Key × V) => H3 t = some (.tup [kV q.1, q.2])) ts kvs → DqKv K H3 kvs ds → DqAll K H3 (ts.map V.ref) (ds.map fun q => .tuple [q.1, q.2]) := by
      intro ts kvs ds h
      induction h generalizing ds with
      | nil =>
        intro g
        cases g
        exact .nil
      | @cons t q ts kvs e r ih =>
        intro g
        cases g with
        | @cons k v _ d ds hd n g =>
          have hk : Dq K H3 (kV k) (kP k) := by
            cases k with
            | inl i => exact .int i
            | inr x => exact .str x
          exact .cons (.tup (sqt_of e) (by show 2 ≤ 1000000; decide) (.cons hk (.cons hd .nil))) (ih g)
    have rkp : ∀ ds : List (PyData × PyData), (∃ kvs, DqKv K H kvs ds) → rkAll (ds.map fun q => PyData.tuple [q.1, q.2]) ≤ rkKv ds + 1 := by
      intro ds
      induction ds with
      | nil => intro _; exact Nat.zero_le _
      | cons q r ih =>
        rintro ⟨kvs, g⟩
        cases g with
        | @cons k v kvs d _ hd n g =>
          have h2 := ih ⟨_, g⟩
          have h3 : rk (kP k) = 0 := by cases k <;> rfl
          show max (max (rk (kP k)) (max (rk d) 0) + 1) _ ≤ max (rk d) (rkKv r) + 1
          omega
    have e1 := pair (Paired.mapP tup fun t q h => s3 _ _ h) (dqk_same s13 ha)
    have e2 := pair tup3 (dqk_same s13 hb)
    have hr3 : rkKv ds + 3 ≤ n := hr
    have hr4 := rkp ds ⟨_, ha⟩
    obtain ⟨m, rfl⟩ : ∃ m, n = m + 1 := ⟨n - 1, by omega⟩
    have l1 : ts.length = kvs.length := Paired.length tup
    have l2 : ts3.length = ks.length := Paired.length tup3
    refine ⟨.ref p, .ref p3, .list (ds.map fun q => .tuple [q.1, q.2]), rfl, .lst (sql_of (s3 _ _ h2)) (by rw [List.length_map]; omega) e1, .lst (sql_of h3) (by rw [List.length_map]; omega) e2, ?_, fun H4 s4 => q _ fun b o e => s4 b o (s13 b o e)⟩
    show rkAll _ + 1 ≤ m
    omega
end Pt
namespace Pt
/-! ### texts out of signs, and what is no row of signs -/
def sgS (c : Nat) : Str := ⟨#[c]⟩
theorem join_sg (l : List Nat) : Txt.join "" (l.map sgS) = mkS l := by
  have e := join_nil_signs (mkS l)
  rw [show Txt.join _ _ = Str.join _ _ from PySem.StrLaws.glued_eq_join _ _, show ("" : Str) = ⟨#[]⟩ from rfl]
  rw [← e]
  have e2 : signs (mkS l) = l.map sgS := by
    show (cs (mkS l)).map _ = _
    rw [cs_mk]
    rfl
  rw [e2]
theorem join_q {K : PySem.W.Frag} {H : Hp} {Q : VK} {q : Addr} {l : List Nat} (h : H q = some (.lst (l.map sg))) (hl : l.length ≤ 1000000) (k : Q (.str (mkS l)) H) : mJoin K (.str "") [.ref q] H Q := by
  refine ⟨"", q, l.map sgS, rfl, rfl, .inl (sql_of ?_), ?_, ?_⟩
  · rw [h, List.map_map]
    rfl
  · have e : ((l.map sgS).map (·.length)).sum = l.length := by
      induction l with
      | nil => rfl
      | cons c r ih =>
        simp only [List.map_cons, List.sum_cons, List.length_cons] at ih ⊢
        have e1 : (sgS c).length = 1 := rfl
        clear h k hl
        have : ∀ r : List Nat, ((r.map sgS).map (·.length)).sum = r.length := by
          intro r
          induction r with
          | nil => rfl
          | cons c r ih => simp only [List.map_cons, List.sum_cons, List.length_cons, ih]; show 1 + r.length = _; omega
        rw [this, e1]
        omega
    rw [e, show ("" : Str).length = 0 from rfl]
    omega
  · rw [join_sg]
    exact k
def unV : V → Nat
  | .str z => z.cps.toList.headD 0
  | _ => 0
theorem unV_sg (c : Nat) : unV (sg c) = c := rfl
theorem unsg {l0 : List Nat} {ys : List V} (h : ys.Perm (l0.map sg)) : ∃ l : List Nat, l.Perm l0 ∧ ys = l.map sg := by
  refine ⟨ys.map unV, ?_, ?_⟩
  · have := h.map unV
    rw [List.map_map] at this
    have e : l0.map (unV ∘ sg) = l0 := by
      conv => rhs; rw [← List.map_id l0]
      exact List.map_congr_left fun c _ => unV_sg c
    rwa [e] at this
  · rw [List.map_map]
    conv => lhs; rw [← List.map_id ys]
    refine List.map_congr_left fun y hy => ?_
    obtain ⟨c, _, e⟩ := List.mem_map.mp (h.mem_iff.mp hy)
    show y = sg (unV y)
    rw [← e, unV_sg]
theorem cutV_take {xs : List V} {i : Nat} : cutV xs none (some (i : Int)) = xs.take i := by
  unfold cutV
  rw [HT.sIx_none, HT.sIx_nat, List.drop_zero, Nat.sub_zero, List.take_eq_take_iff]
  omega
theorem size_cs {z : Str} : z.cps.size = (cs z).length := by simp [cs]
theorem signs_of {l : List Nat} (h1 : 1 ≤ l.length) (h2 : l.length ≤ 6) (hs : ∀ c ∈ l, isSgn c = true) (hn : l.Nodup) : isSigns (mkS l) = true := by
  unfold isSigns
  rw [size_cs, show (mkS l).cps.toList = l from cs_mk l, cs_mk, decide_eq_true h1, decide_eq_true h2, decide_eq_true hn, List.all_eq_true.mpr hs]
  rfl
theorem signs_len {z : Str} (h : (cs z).length = 0 ∨ 6 < (cs z).length) : isSigns z = false := by
  unfold isSigns
  rw [size_cs]
  rcases h with h | h
  · rw [decide_eq_false (show ¬ 1 ≤ (cs z).length by omega)]
    rfl
  · rw [decide_eq_false (show ¬ (cs z).length ≤ 6 by omega), Bool.and_false]
    rfl
theorem signs_bad {z : Str} {c : Nat} (h : c ∈ cs z) (hb : isSgn c = false) : isSigns z = false := by
  unfold isSigns
  have e : (cs z).all isSgn = false := by
    rw [Bool.eq_false_iff]
    intro q
    rw [List.all_eq_true.mp q c h] at hb
    cases hb
  rw [show z.cps.toList.all isSgn = false from e, Bool.and_false]
  rfl
theorem signs_dup {z : Str} (h : ¬ (cs z).Nodup) : isSigns z = false := by
  unfold isSigns
  rw [show decide (z.cps.toList.Nodup) = false from decide_eq_false h, Bool.and_false]
/-! ### a thing that is no row of signs -/
structure Wrong (K : PySem.W.Frag) (H : Hp) (v : V) : Prop where
  ex : ∃ d, Dq K H v d ∧ rk d ≤ 4 ∧ ((∃ z : Str, v = .str z ∧ z.length ≤ sizeLine ∧ isSigns z = false) ∨ NoStr K H v)
theorem tyx_same {K : PySem.W.Frag} {H H' : Hp} {v : V} {d : PyData} (e : Same H H') (h : Dq K H v d) (n : kitB (tyN d) "str" = some false) : NoStr K H' v := ⟨_, dq_ty (dq_same e h), kit_ty n⟩
theorem Wrong.text {K : PySem.W.Frag} {H : Hp} {z : Str} (h : z.length ≤ sizeLine) (n : isSigns z = false) : Wrong K H (.str z) := ⟨.str z, .str z, Nat.zero_le _, .inl ⟨z, rfl, h, n⟩⟩
structure WrongO (K : PySem.W.Frag) (H : Hp) (v : V) : Prop where
  ex : ∃ d, Dq K H v d ∧ rk d ≤ 4 ∧ kitB (tyN d) "str" = some false
theorem WrongO.same {K : PySem.W.Frag} {H H' : Hp} {v : V} (e : Same H H') (h : WrongO K H v) : WrongO K H' v := let ⟨d, h, r⟩ := h.ex; ⟨d, dq_same e h, r⟩
theorem WrongO.wr {K : PySem.W.Frag} {H : Hp} {v : V} (h : WrongO K H v) : Wrong K H v := let ⟨d, h, r, n⟩ := h.ex; ⟨d, h, r, .inr ⟨_, dq_ty h, kit_ty n⟩⟩
theorem dqa_sg {K : PySem.W.Frag} {H : Hp} : ∀ l : List Nat, DqAll K H (l.map sg) (l.map fun c => PyData.str (sgS c))
  | [] => .nil
  | c :: r => .cons (.str _) (dqa_sg r)
theorem rk_sg : ∀ l : List Nat, rkAll (l.map fun c => PyData.str (sgS c)) = 0
  | [] => rfl
  | c :: r => by
    show max (rk (.str (sgS c))) (rkAll (r.map _)) = 0
    rw [rk_sg r]
    rfl
end Pt
namespace Pt.Re
open PySem PySem.Spec PyProof.Rows L2 Pt
section
variable {K : PySem.W.Frag} {H H' : Hp} {Q : VK} {v : V}
abbrev SqT (_ : PySem.W.Frag) (H : Hp) (a : Addr) (xs : List V) : Prop := H a = some (.tup xs)
theorem l2t {a : Addr} {xs : List V} (h : SqT K H a xs) : L2.SqT K H a xs := .inl (.inl h)
theorem sqt_of {a : Addr} {xs : List V} (h : H a = some (.tup xs)) : SqT K H a xs := h
theorem sqt_same {a : Addr} {xs : List V} (e : Same H H') (h : SqT K H a xs) : SqT K H' a xs := e _ _ h
theorem w_gtup {σ : L2.St} {gs : TGs} {R : L2.St → Hp → Prop} {n : Nat} {a : Addr} {xs : List V} (hs : SqT K H a xs) (hn : xs.length = n) (h : gs xs σ H R) : gTup K n gs (.ref a) σ H R := Pt.w_gtup (l2t hs) hn h
theorem e_tt {a : Addr} {xs : List V} {P : Bool → Prop} (hs : SqT K H a xs) (h : P (!xs.isEmpty)) : ∃ k, TruV K (.ref a) H k ∧ P k := Pt.e_tt (l2t hs) h
theorem ix_t {p : Addr} {xs : List V} {z : Int} (hs : SqT K H p xs) (ha : atI xs z = some v) (q : Q v H) : rIxU K (.ref p) (.int z) H Q := Pt.ix_t (l2t hs) ha q
theorem len_t {p : Addr} {xs : List V} (hs : SqT K H p xs) (q : Q (.int xs.length) H) : cLen K [.ref p] H Q := Pt.len_t (l2t hs) q
theorem l2o {p : Addr} {xs : List V} (hs : SqL K H p xs ∨ SqT K H p xs) : SqL K H p xs ∨ L2.SqT K H p xs := hs.imp id l2t
theorem list_s {p : Addr} {xs : List V} (hs : SqL K H p xs ∨ SqT K H p xs) (q : ∀ l, H l = none → Q (.ref l) (upd H l (.lst xs))) : cList K [.ref p] H Q := Pt.list_s (l2o hs) q
theorem tuple_t {p : Addr} {xs : List V} (hs : SqT K H p xs) (q : Q (.ref p) H) : cTuple K [.ref p] H Q := Pt.tuple_t (l2t hs) q
theorem e_itup {a : Addr} {xs : List V} {P : Addr → Prop} (hs : SqT K H a xs) (h : P a) : ∃ b, V.ref a = .ref b ∧ (∃ xs, L2.SqT K H b xs) ∧ P b := Pt.e_itup (l2t hs) h
def SqA (K : PySem.W.Frag) (H : Hp) (p : Addr) (xs : List V) : Prop := SqL K H p xs ∨ SqT K H p xs
theorem sqa_same {p : Addr} {xs : List V} (e : Same H H') (h : SqA K H p xs) : SqA K H' p xs := h.imp (sql_same e) (sqt_same e)
theorem len_a {p : Addr} {xs : List V} (hs : SqA K H p xs) (q : Q (.int xs.length) H) : cLen K [.ref p] H Q := hs.elim (fun h => len_l h q) (fun h => len_t h q)
theorem ix_a {p : Addr} {xs : List V} {z : Int} (hs : SqA K H p xs) (ha : atI xs z = some v) (q : Q v H) : rIxU K (.ref p) (.int z) H Q := hs.elim (fun h => ix_l h ha q) (fun h => ix_t h ha q)
end
end Pt.Re
namespace Pt.Re
/-! ### a core's instance, rows -/
structure CoreF (K : PySem.W.Frag) : Prop where
  c : ClsF K "Core"
  na : ∀ f, f ∈ (["alphabet", "width", "rows", "shortest"] : List Str) → NoAttr K (He.ga K "Core") f
theorem e_fld {K : PySem.W.Frag} {H : Hp} {P : V → Prop} {f : Str} {a C dx : Addr} {fs : List (Str × V)} {v : V} (e : H a = some (.ins C dx fs)) (cl : Cls K C) (na : NoAttr K C f) (lk : fs.lookup f = some v) (q : P v) :
    ∃ b C dx fs v, V.ref a = .ref b ∧ H b = some (.ins C dx fs) ∧ Cls K C ∧ NoAttr K C f ∧ fs.lookup f = some v ∧ P v := ⟨a, C, dx, fs, v, rfl, e, cl, na, lk, q⟩
/-- a field of the instance at a -/
def FldAt (K : PySem.W.Frag) (H : Hp) (a : Addr) (f : Str) (v : V) : Prop := CoreF K ∧ ∃ dx fs, H a = some (.ins (He.ga K "Core") dx fs) ∧ fs.lookup f = some v
theorem FldAt.same {K : PySem.W.Frag} {H H' : Hp} {a : Addr} {f : Str} {v : V} (h : FldAt K H a f v) (e : Same H H') : FldAt K H' a f v := let ⟨F, dx, fs, h1, h2⟩ := h; ⟨F, dx, fs, e _ _ h1, h2⟩
theorem FldAt.upd {K : PySem.W.Frag} {H : Hp} {a b : Addr} {f : Str} {v : V} {o : HO} (h : FldAt K H a f v) (ne : a ≠ b) : FldAt K (upd H b o) a f v := let ⟨F, dx, fs, h1, h2⟩ := h; ⟨F, dx, fs, by rw [upd_ne ne]; exact h1, h2⟩
theorem FldAt.read {K : PySem.W.Frag} {H : Hp} {P : V → Prop} {a : Addr} {f : Str} {v : V} (h : FldAt K H a f v) (hf : f ∈ (["alphabet", "width", "rows", "shortest"] : List Str)) (q : P v) :
    ∃ b C dx fs v, V.ref a = .ref b ∧ H b = some (.ins C dx fs) ∧ Cls K C ∧ NoAttr K C f ∧ fs.lookup f = some v ∧ P v := by
  obtain ⟨F, dx, fs, h1, h2⟩ := h
  exact e_fld h1 F.c.cls (F.na f hf) h2 q
def rI (r : List Nat) : List V := r.map fun k => V.int (k : Nat)
theorem rI_len (r : List Nat) : (rI r).length = r.length := by simp [rI]
theorem rI_get {r : List Nat} {i : Nat} {v : V} (h : (rI r)[i]? = some v) : ∃ k, r[i]? = some k ∧ v = .int (k : Nat) := by
  unfold rI at h
  rw [List.getElem?_map] at h
  obtain ⟨k, h1, h2⟩ := Option.map_eq_some_iff.mp h
  exact ⟨k, h1, h2.symm⟩
theorem dqa_int {K : PySem.W.Frag} {H : Hp} : ∀ r : List Nat, DqAll K H (rI r) (r.map fun k => PyData.int (k : Nat))
  | [] => .nil
  | k :: r => .cons (.int _) (dqa_int r)
def sp_is_integer (K : PySem.W.Frag) : Sp := fun vs H Q _ => ∃ i : Int, vs = [.int i] ∧ ∀ H', Same H H' → Q (.bl true) H'
def sp_is_row (K : PySem.W.Frag) : Sp := fun vs H Q _ => ∃ (c a : Addr) (m : Nat) (r : List Nat), vs = [.ref c, .ref a] ∧ FldAt K H c "width" (.int (m : Nat)) ∧ SqA K H a (rI r) ∧ r.length ≤ 60 ∧ (∀ k ∈ r, k < m) ∧ ∀ H', Same H H' → Q (.bl true) H'
abbrev n_is_integer : List Str := ["thing"]
def t_is_integer (K : PySem.W.Frag) : TS :=
  tRet (tAndT K (tCB (cIsi K) (tCons (tVar 0) (tCons (tC (.ty "int")) (tNil)))) (tNotT K (tCB (cIsi K) (tCons (tVar 0) (tCons (tC (.ty "bool")) (tNil))))))
abbrev n_is_row : List Str := ["core", "thing", "part"]
def t_is_row (K : PySem.W.Frag) : TS :=
  tSeq (tIfS (tOr (tNot (tTru K (tCB (cIsi K) (tCons (tVar 1) (tCons (tTup (tCons (tC (.ty "list")) (tCons (tC (.ty "tuple")) (tNil)))) (tNil)))))) (tTest (tOp rGtI (tCB (cLen K) (tCons (tVar 1) (tNil))) (tC (.int 60))))) (tRet (tC (.bl false))) (tNext)) (tRet (tCB (rAll K) (tCons (tLc (iSeq K (tVar 1)) (gName 2) (tYes) (tAndT K (tOwn (sp_is_integer K) (tCons (tVar 2) (tNil))) (tChain rLeI rLtI (tC (.int 0)) (tVar 2) (tFld K (tVar 0) "width"))) [2]) (tNil))))
theorem pure_is_integer {K : PySem.W.Frag} (vs : List V) (H : Hp) (Q : VK) (E : XK) (h : sp_is_integer K vs H Q E) : t_is_integer K { nx := fun _ H' => Q .non H', rt := Q } (start n_is_integer vs) H := by
  obtain ⟨i, rfl, q⟩ := h
  unfold t_is_integer
  walk_at "gw"
  refine isi_1 (.base (.int _)) (kit_ty (b := "int") (r := true) (by decide +kernel)) ?_
  walk_at "gw"
  refine w_iteT rfl ?_
  walk_at "gw"
  refine isi_1 (.base (.int _)) (kit_ty (b := "bool") (r := false) (by decide +kernel)) ?_
  walk_at "gw"
  exact q _ (Same.refl _)
theorem sqa_isi {K : PySem.W.Frag} {H H' : Hp} {Q : VK} {a p : Addr} {r : List Nat} (hs : SqA K H a (rI r)) (hl : r.length ≤ 1000000) (e : Same H H') (hp : H' p = some (.tup (["list", "tuple"].map V.ty))) (q : Q (.bl true) H') : cIsi K [.ref a, .ref p] H' Q := by
  rcases hs with hs | hs
  · exact isi_qt ["list", "tuple"] (tn := "list") (dq_same e (.lst hs (by rw [rI_len]; exact hl) (dqa_int r))) rfl hp (by decide +kernel) q
  · exact isi_qt ["list", "tuple"] (tn := "tuple") (dq_same e (.tup (l2t hs) (by rw [rI_len]; exact hl) (dqa_int r))) rfl hp (by decide +kernel) q
/-- a walk over a list or a tuple -/
theorem iseq_a {K : PySem.W.Frag} {σ : L2.St} {H : Hp} {i : Nat} {a : Addr} {xs : List V} {R : It → Hp → Prop} (hv : σ[i]? = some (some (.ref a))) (hs : SqA K H a xs) (q : ∀ (J : It) (Gw : Hp → Prop), Walk J xs.length Gw (YAt xs) → (∀ H', RdS H H' → Gw H') → R J H) : iSeq K (tVar i) σ H R := by
  rcases hs with hs | hs
  · exact w_iseqL (w_var hv (e_ilist hs (q _ _ walk_list fun H' e => sql_rds e hs)))
  · exact w_iseqT (w_var hv (e_itup hs (q _ _ walk_tup fun H' e => sqt_rds e (l2t hs))))
theorem all_true (n : Nat) : (List.replicate n true).all id = true := by induction n with
  | zero => rfl
  | succ n ih => simp [List.replicate_succ]
theorem given_bl (n : Nat) (f : Nat → Bool) : given n (fun _ => true) (fun i => V.bl (f i)) = ((List.range n).map f).map V.bl := by
  unfold given
  rw [List.filter_eq_self.mpr (fun _ _ => rfl), List.map_map]
  rfl
theorem pure_is_row {K : PySem.W.Frag} (vs : List V) (H : Hp) (Q : VK) (E : XK) (h : sp_is_row K vs H Q E) : t_is_row K { nx := fun _ H' => Q .non H', rt := Q } (start n_is_row vs) H := by
  obtain ⟨c, a, m, r, rfl, hf, hs, hl, hk, q⟩ := h
  unfold t_is_row
  walk_at "gw"
  refine ⟨by show 2 ≤ sizeLine; decide, fun p hp => ?_⟩
  have s1 := same_new (o := .tup [.ty "list", .ty "tuple"]) hp
  refine sqa_isi hs (by omega) s1 upd_same ?_
  walk_at "gw"
  refine w_iteF rfl ?_
  walk_at "gw"
  refine len_a (sqa_same s1 hs) ?_
  walk_at "gw"
  rw [rI_len]
  refine w_iteF (decide_eq_false (by omega)) ?_
  walk_at "gw"
  refine iseq_a rfl (sqa_same s1 hs) fun J Gw wk hG => ?_
  rw [rI_len] at wk
  refine lc_im wk (fun _ => true) (fun _ => .bl true) (Nat.le_trans hl (by decide)) (fun _ H' _ e => hG H' (Same.rds e)) ?_ ?_
  · rintro i x H1 H2 KY KN hi s2 ⟨rfl, hx⟩ kY kN
    obtain ⟨k, hk1, rfl⟩ := rI_get hx
    have hkm := hk k (List.mem_of_getElem? hk1)
    walk_at "gw"
    refine ⟨rfl, ?_⟩
    walk_at "gw"
    refine w_iteT rfl ?_
    walk_at "gw"
    refine ⟨_, rfl, fun H3 s3 => ?_⟩
    walk_at "gw"
    refine w_iteT rfl ?_
    walk_at "gw"
    refine w_iteT (decide_eq_true (by omega)) ?_
    walk_at "gw"
    refine FldAt.read (((hf.same s1).same s2).same s3) (by simp) ?_
    walk_at "gw"
    rw [decide_eq_true (show (k : Int) < (m : Nat) by omega)]
    exact kY rfl _ s3
  · intro D H1 hD s2 h5
    rw [given_bl] at h5
    walk_at "gw"
    refine ⟨D, _, rfl, sql_of h5, ?_⟩
    rw [show ((List.range r.length).map fun _ => true).all id = true by simp]
    exact q _ fun b o e => s2 b o (s1 b o e)
end Pt.Re
namespace Pt.Re
/-! ### ways on the heap -/
def kOf (q : Kd) : List L2.Key := [.inl (q.1 : Nat), .inr (sgS q.2)]
theorem kOf_inj {a b : Kd} (h : kOf a = kOf b) : a = b := by
  unfold kOf at h
  simp only [List.cons.injEq, Sum.inl.injEq, Sum.inr.injEq, and_true] at h
  obtain ⟨h1, h2⟩ := h
  have h3 : ([a.2] : List Nat) = [b.2] := congrArg (fun z : Str => z.cps.toList) h2
  obtain ⟨a1, a2⟩ := a
  obtain ⟨b1, b2⟩ := b
  simp at h1 h3
  have h4 : a1 = b1 := by omega
  rw [h4, h3]
def RowA (K : PySem.W.Frag) (H : Hp) (v : V) (r : List Nat) : Prop := ∃ a, v = .ref a ∧ SqA K H a (rI r)
def RowT (K : PySem.W.Frag) (H : Hp) (v : V) (r : List Nat) : Prop := ∃ a, v = .ref a ∧ SqT K H a (rI r)
theorem RowT.a {K : PySem.W.Frag} {H : Hp} {v : V} {r : List Nat} (h : RowT K H v r) : RowA K H v r := let ⟨a, e, h⟩ := h; ⟨a, e, .inr h⟩
theorem RowA.same {K : PySem.W.Frag} {H H' : Hp} {v : V} {r : List Nat} (e : Same H H') (h : RowA K H v r) : RowA K H' v r := let ⟨a, q, h⟩ := h; ⟨a, q, sqa_same e h⟩
theorem RowT.same {K : PySem.W.Frag} {H H' : Hp} {v : V} {r : List Nat} (e : Same H H') (h : RowT K H v r) : RowT K H' v r := let ⟨a, q, h⟩ := h; ⟨a, q, sqt_same e h⟩
def RdT (H H' : Hp) : Prop := RdS H H' ∧ ∀ a xs, H a = some (.tup xs) → H' a = some (.tup xs)
theorem RowA.rds {K : PySem.W.Frag} {H H' : Hp} {v : V} {r : List Nat} (e : RdT H H') (h : RowA K H v r) : RowA K H' v r := let ⟨a, q, h⟩ := h; ⟨a, q, h.imp (sql_rds e.1) (e.2 _ _)⟩
theorem RowT.rds {K : PySem.W.Frag} {H H' : Hp} {v : V} {r : List Nat} (e : RdT H H') (h : RowT K H v r) : RowT K H' v r := let ⟨a, q, h⟩ := h; ⟨a, q, e.2 _ _ h⟩
/-- the dict's entries are the ways -/
def WysR (R : V → List Nat → Prop) (kvs : List (List L2.Key × V)) (W : Wys) : Prop := Paired (fun kv w => kv.1 = kOf w.1 ∧ R kv.2 w.2) kvs W
theorem WysR.imp {R S : V → List Nat → Prop} {kvs : List (List L2.Key × V)} {W : Wys} (h : WysR R kvs W) (f : ∀ v r, R v r → S v r) : WysR S kvs W := Paired.mapP h fun _ _ q => ⟨q.1, f _ _ q.2⟩
theorem WysR.get {R : V → List Nat → Prop} : ∀ {kvs : List (List L2.Key × V)} {W : Wys} {i : Nat} {k : List L2.Key} {v : V}, WysR R kvs W → kvs[i]? = some (k, v) → ∃ w, W[i]? = some w ∧ k = kOf w.1 ∧ R v w.2
  | _, _, i, _, _, .nil, h => by cases h
  | _, _, 0, _, _, .cons h t, e => by
    cases e
    exact ⟨_, rfl, h⟩
  | _, _, i + 1, _, _, .cons h t, e => WysR.get (i := i) t e
theorem WysR.keys {R : V → List Nat → Prop} : ∀ {kvs : List (List L2.Key × V)} {W : Wys}, WysR R kvs W → kvs.map (·.1) = W.map fun w => kOf w.1
  | _, _, .nil => rfl
  | _, _, .cons h t => by rw [List.map_cons, List.map_cons, WysR.keys t, h.1]
theorem WysR.nd {R : V → List Nat → Prop} {kvs : List (List L2.Key × V)} {W : Wys} (h : WysR R kvs W) (nd : (W.map (·.1)).Nodup) : (kvs.map (·.1)).Nodup := by
  rw [h.keys, show (W.map fun w => kOf w.1) = (W.map (·.1)).map kOf by rw [List.map_map]; rfl]
  exact List.Pairwise.map kOf (fun a b (h : a ≠ b) e => h (kOf_inj e)) nd
theorem WysR.len {R : V → List Nat → Prop} {kvs : List (List L2.Key × V)} {W : Wys} (h : WysR R kvs W) : kvs.length = W.length := paired_len h
/-- a look into the dict -/
theorem WysR.val {R : V → List Nat → Prop} : ∀ {kvs : List (List L2.Key × V)} {W : Wys} (q : Kd), WysR R kvs W → (look W q = none ∧ valV kvs (kOf q) = none) ∨ ∃ r v, look W q = some r ∧ valV kvs (kOf q) = some v ∧ R v r
  | _, _, q, .nil => .inl ⟨rfl, rfl⟩
  | kv :: kvs, w :: W, q, .cons h t => by
    by_cases e : w.1 = q
    · refine .inr ⟨w.2, kv.2, ?_, valV_pos (by rw [h.1, e]), h.2⟩
      unfold look
      rw [List.find?_cons, decide_eq_true e]
      rfl
    · have e2 : ¬ kv.1 = kOf q := fun z => e (kOf_inj (h.1.symm.trans z))
      rw [valV_neg e2]
      have e3 : look (w :: W) q = look W q := by
        unfold look
        rw [List.find?_cons, decide_eq_false e]
      rw [e3]
      exact WysR.val q t
theorem rdsT_frz {H : Hp} {a : Addr} {o : Obj} {kvs : List (List L2.Key × V)} (h : H a = some (.dT kvs)) : RdT H (upd H a (.frz o (.dT kvs))) := ⟨fun b xs => by
  have ne : ∀ u, H b = some u → u ≠ .dT kvs → b ≠ a := fun u e n z => by
    rw [z, h] at e
    exact n (Option.some.inj e).symm
  constructor <;>
  · rintro (e | ⟨o', e⟩)
    · exact .inl (by rw [upd_ne (ne _ e (fun z => nomatch z))]; exact e)
    · exact .inr ⟨o', by rw [upd_ne (ne _ e (fun z => nomatch z))]; exact e⟩, fun b xs e => by
  rw [upd_ne (fun z => by rw [z, h] at e; cases e)]
  exact e⟩
/-- put down and taken up again, all else stays -/
theorem same_back {H H' : Hp} {a : Addr} {o : Obj} {u : HO} (h : H a = some u) (e : Same (upd H a (.frz o u)) H') : Same H (upd H' a u) := fun b x hb => by
  by_cases z : b = a
  · rw [z] at hb ⊢
    rw [upd_same, ← h, hb]
  · rw [upd_ne z]
    exact e b x (by rw [upd_ne z]; exact hb)
def sp_are_ways (K : PySem.W.Frag) : Sp := fun vs H Q _ => ∃ (c d : Addr) (m : Nat) (S : Str) (kvs : List (List L2.Key × V)) (W : Wys), vs = [.ref c, .ref d] ∧ FldAt K H c "width" (.int (m : Nat)) ∧ FldAt K H c "alphabet" (.str S) ∧ S.length ≤ 100 ∧ H d = some (.dT kvs) ∧ kvs.length ≤ 1000 ∧
  WysR (RowA K H) kvs W ∧ (W.map (·.1)).Nodup ∧ (∀ w ∈ W, w.1.1 < m ∧ w.1.2 ∈ cs S ∧ w.2.length ≤ 60 ∧ ∀ k ∈ w.2, k < m) ∧ ∀ H', Same H H' → Q (.bl true) H'
abbrev n_are_ways : List Str := ["core", "ways", "key"]
def t_are_ways_p1 (K : PySem.W.Frag) : TS :=
  tRet (tC (.bl true))
def t_are_ways (K : PySem.W.Frag) : TS :=
  tSeq (tIfS (tNot (tTru K (tCB (cIsi K) (tCons (tVar 1) (tCons (tC (.ty "dict")) (tNil)))))) (tRet (tC (.bl false))) (tNext)) (tSeq (tLock (tFor (iKeys (tVar 1)) (gName 2) (tSeq (tIfS (tOr (tNot (tTru K (tCB (cIsi K) (tCons (tVar 2) (tCons (tC (.ty "tuple")) (tNil)))))) (tOr (tTest (tOp (rNeU K) (tCB (cLen K) (tCons (tVar 2) (tNil))) (tC (.int 2)))) (tNot (tTru K (tOwn (sp_is_row K) (tCons (tVar 0) (tCons (tSl (rSlU K) (tVar 2) (tNoPart) (tPart (tC (.int 1)))) (tNil)))))))) (tRet (tC (.bl false))) (tNext)) (tSeq (tIfS (tOr (tNot (tTru K (tCB (cIsi K) (tCons (tOp (rIxU K) (tVar 2) (tC (.int 1))) (tCons (tC (.ty "str")) (tNil)))))) (tOr (tTest (tOp (rNeU K) (tCB (cLen K) (tCons (tOp (rIxU K) (tVar 2) (tC (.int 1))) (tNil))) (tC (.int 1)))) (tTest (tOp (rNotInU K) (tOp (rIxU K) (tVar 2) (tC (.int 1))) (tFld K (tVar 0) "alphabet"))))) (tRet (tC (.bl false))) (tNext)) (tIfS (tNot (tTru K (tOwn (sp_is_row K) (tCons (tVar 0) (tCons (tOp (rIxU K) (tVar 1) (tVar 2)) (tNil)))))) (tRet (tC (.bl false))) (tNext)))))) (t_are_ways_p1 K))
theorem pure_are_ways {K : PySem.W.Frag} (vs : List V) (H : Hp) (Q : VK) (E : XK) (h : sp_are_ways K vs H Q E) : t_are_ways K { nx := fun _ H' => Q .non H', rt := Q } (start n_are_ways vs) H := by
  obtain ⟨c, d, m, S, kvs, W, rfl, fw, fa, hS, hd, hl, wr, nd, ok, q⟩ := h
  unfold t_are_ways
  walk_at "gw"
  refine isi_1 (.base (.dT hd)) (kit_ty (b := "dict") (r := true) (by decide +kernel)) ?_
  walk_at "gw"
  refine w_iteF rfl ?_
  walk_at "gw"
  refine ⟨d, _, hd, True.intro, fun od => ?_⟩
  have ncd : c ≠ d := fun e => by
    obtain ⟨_, _, _, h1, _⟩ := fw
    rw [e, hd] at h1; cases h1
  walk_at "gw"
  have fz : upd H d (.frz od (.dT kvs)) d = some (.frz od (.dT kvs)) := upd_same
  have fw1 := fw.upd (o := .frz od (.dT kvs)) ncd
  have fa1 := fa.upd (o := .frz od (.dT kvs)) ncd
  have wr1 := wr.imp fun v r h => RowA.rds (rdsT_frz (o := od) hd) h
  have bk : ∀ H', Same (upd H d (.frz od (.dT kvs))) H' → Same H (upd H' d (.dT kvs)) := fun H' e => same_back hd e
  generalize upd H d (.frz od (.dT kvs)) = G at fz fw1 fa1 wr1 bk
  refine ⟨d, od, rfl, .inr ⟨kvs, fz, ?_⟩⟩
  refine for_it walk_keysT (fun _ σ H' => (∃ o2, σ = [some (.ref c), some (.ref d), o2]) ∧ Same G H') ⟨⟨_, rfl⟩, Same.refl _⟩ (fun _ _ _ _ e => e.2 _ _ fz) ?_ ?_
  · rintro i x σ H1 H2 hi ⟨⟨o2, rfl⟩, s1⟩ y
    obtain ⟨rfl, k, v, p, hkv, rfl, hp⟩ := y
    obtain ⟨⟨⟨kd, sg0⟩, r⟩, hw, rfl, hr⟩ := wr1.get hkv
    obtain ⟨o1, o2', o3, o4⟩ := ok _ (List.mem_of_getElem? hw)
    walk_at "gw"
    refine isi_1 (.base (.tup hp)) (kit_ty (b := "tuple") (r := true) (by decide +kernel)) ?_
    walk_at "gw"
    refine w_iteF rfl ?_
    walk_at "gw"
    refine w_iteF rfl ?_
    walk_at "gw"
    refine .inr (.inr ⟨p, _, rfl, l2t hp, fun z => absurd z.2 (show ¬ HT.sIx 2 2 (some 1) = 2 by decide), fun _ p2 hp2 => ?_⟩)
    have s2 := same_new (o := .tup [V.int (kd : Nat)]) hp2
    show tNil _ (upd H2 p2 (.tup [V.int (kd : Nat)])) _
    walk_at "gw"
    refine ⟨c, p2, m, [kd], rfl, (fw1.same s1).same s2, .inr (sqt_of upd_same), (show 1 ≤ 60 by decide), fun k hk => ?_, fun H3 s3 => ?_⟩
    · rw [List.mem_singleton.mp hk]; exact o1
    have hp3 : H3 p = some (.tup ((kOf (kd, sg0)).map kV)) := s3 _ _ (s2 _ _ hp)
    have s13 : Same G H3 := fun b o e => s3 b o (s2 b o (s1 b o e))
    walk_at "gw"
    refine w_iteF rfl ?_
    walk_at "gw"
    refine isi_1 (.base (.str _)) (kit_ty (b := "str") (r := true) (by decide +kernel)) ?_
    walk_at "gw"
    refine w_iteF rfl ?_
    walk_at "gw"
    refine len_s (by show 1 ≤ sizeLine; decide) ?_
    walk_at "gw"
    refine w_iteF rfl ?_
    walk_at "gw"
    refine FldAt.read (fa1.same s13) (by simp) ?_
    refine notin_sg ?_
    rw [decide_eq_true (show sg0 ∈ S.cps.toList from o2')]
    walk_at "gw"
    refine w_iteF rfl ?_
    walk_at "gw"
    have nk := wr1.nd nd
    refine ix_d (.inr ⟨kvs, kOf (kd, sg0), p, .inr ⟨od, s13 _ _ fz⟩, rfl, hp3, (valV_get nk hkv).symm⟩) ?_
    obtain ⟨a, rfl, ha⟩ := hr
    walk_at "gw"
    refine ⟨c, a, m, r, rfl, fw1.same s13, sqa_same s13 ha, o3, o4, fun H4 s4 => ?_⟩
    walk_at "gw"
    refine w_iteF rfl ?_
    walk_at "gw"
    exact ⟨⟨_, rfl⟩, fun b o e => s4 b o (s13 b o e)⟩
  · rintro σ H1 ⟨⟨o2, rfl⟩, s1⟩
    refine ⟨s1 _ _ fz, ?_⟩
    exact q _ (bk _ s1)
end Pt.Re
namespace Pt.Re
/-! ### shortest_of -/
def oV : Option Nat → V
  | none => .non
  | some n => .int (n : Nat)
def fl (m : Nat) (fd : Nat → Option Nat) : List V := (List.range m).map fun k => oV (fd k)
theorem fl_len {m : Nat} {fd : Nat → Option Nat} : (fl m fd).length = m := by simp [fl]
theorem fl_get {m k : Nat} {fd : Nat → Option Nat} (h : k < m) : (fl m fd)[k]? = some (oV (fd k)) := by
  unfold fl
  rw [List.getElem?_map, List.getElem?_range h]
  rfl
theorem fl_set {m k n : Nat} {fd : Nat → Option Nat} (h : k < m) : (fl m fd).set k (.int (n : Nat)) = fl m (setF fd k n) := by
  apply List.ext_getElem?
  intro j
  rw [List.getElem?_set, fl_len]
  by_cases hj : j < m
  · rw [fl_get hj]
    by_cases e : k = j
    · rw [if_pos e, if_pos (by omega)]
      subst e
      rw [fl_get hj]
      unfold setF
      rw [if_pos rfl]
      rfl
    · rw [if_neg e, fl_get hj]
      unfold setF
      rw [if_neg (fun z => e z.symm)]
  · by_cases e : k = j
    · omega
    · rw [if_neg e, List.getElem?_eq_none (by rw [fl_len]; omega), List.getElem?_eq_none (by rw [fl_len]; omega)]
theorem fl_none {m : Nat} : (List.replicate m [V.non]).flatten = fl m fun _ => none := by
  apply List.ext_getElem?
  intro j
  by_cases hj : j < m
  · rw [fl_get hj]
    simp [oV, hj]
  · rw [List.getElem?_eq_none (by simpa using hj), List.getElem?_eq_none (by rw [fl_len]; omega)]
theorem given_row {r : List Nat} (u : Nat → V) : given r.length (fun _ => true) (fun i => u (r.getD i 0)) = r.map u := given_all r u _ fun i x h => by
  show u (r.getD i 0) = u x
  rw [List.getD_eq_getElem?_getD, h]
  rfl
theorem sum_cast {f : Nat → Nat} (r : List Nat) : (r.map fun k => ((f k : Nat) : Int)).sum = ((r.map f).sum : Nat) := by
  induction r with
  | nil => rfl
  | cons k r ih => simp only [List.map_cons, List.sum_cons, ih]; omega
def sp_shortest_of (K : PySem.W.Frag) : Sp := fun vs H Q _ => ∃ (c d : Addr) (m : Nat) (kvs : List (List L2.Key × V)) (W : Wys) (F : Nat → List Nat), vs = [.ref c] ∧ FldAt K H c "width" (.int (m : Nat)) ∧ FldAt K H c "rows" (.ref d) ∧ H d = some (.dT kvs) ∧ kvs.length ≤ 1000 ∧ m ≤ 1000 ∧
  WysR (RowT K H) kvs W ∧ IsFst m W F ∧ (∀ w ∈ W, w.1.1 < m ∧ (∀ p ∈ w.2, p < m) ∧ w.2.length ≤ 60) ∧ ∀ l H', Same H H' → H l = none → H' l = some (.lst (fl m fun k => some (F k).length)) → Q (.ref l) H'
abbrev n_shortest_of : List Str := ["core", "found", "grown", "kind", "sign", "row", "length", "part"]
def t_shortest_of_p1 (K : PySem.W.Frag) : TS :=
  tRet (tVar 1)
def t_shortest_of (K : PySem.W.Frag) : TS :=
  tSeq (tAsg (tOp rTimes (tLst (tCons (tC .non) (tNil))) (tFld K (tVar 0) "width")) (gName 1)) (tSeq (tAsg (tC (.bl true)) (gName 2)) (tSeq (tWhile (tTru K (tVar 2)) (tSeq (tAsg (tC (.bl false)) (gName 2)) (tLock (tFor (iItemsU (tFld K (tVar 0) "rows")) (gTup K 2 (gCons (gTup K 2 (gCons (gName 3) (gCons (gName 4) (gNil)))) (gCons (gName 5) (gNil)))) (tSeq (tIfS (tTru K (tCB (rAny K) (tCons (tLc (iSeq K (tVar 5)) (gName 7) (tYes) (tOp rIsU (tOp (rIxU K) (tVar 1) (tVar 7)) (tC .non)) [7]) (tNil)))) (tCont) (tNext)) (tSeq (tAsg (tOp (rPlus K) (tC (.int 1)) (tCB (rSum K) (tCons (tLc (iSeq K (tVar 5)) (gName 7) (tYes) (tOp (rIxU K) (tVar 1) (tVar 7)) [7]) (tNil)))) (gName 6)) (tIfS (tOr (tTest (tOp rIsU (tOp (rIxU K) (tVar 1) (tVar 3)) (tC .non))) (tTest (tOp rLtI (tVar 6) (tOp (rIxU K) (tVar 1) (tVar 3))))) (tSeq (tAsg (tVar 6) (gSub (tVar 1) (tVar 3) rSetU)) (tAsg (tC (.bl true)) (gName 2))) (tNext)))))))) (t_shortest_of_p1 K)))
theorem sqt_frm {K : PySem.W.Frag} {R : List Addr} {G H : Hp} {a : Addr} {xs : List V} (f : Frm R G H) (hl : ∀ b ∈ R, ∃ ys, G b = some (.lst ys)) (h : SqT K G a xs) : SqT K H a xs := by
  exact f.at_ _ _ (fun z => by obtain ⟨ys, e⟩ := hl a z; have h2 : G a = some (.tup xs) := h; rw [h2] at e; cases e) h
/-- ahead of a look at grown -/
def ShW (H : Hp) (c p : Addr) (m : Nat) (W : Wys) (F : Nat → List Nat) (k : Nat) (σ : L2.St) (H' : Hp) : Prop :=
  ∃ (g : Bool) (o3 o4 o5 o6 o7 : Option V), σ = [some (.ref c), some (.ref p), some (.bl g), o3, o4, o5, o6, o7] ∧ Same H H' ∧ ∃ fd : Nat → Option Nat, H' p = some (.lst (fl m fd)) ∧
    ((g = true ∧ ∃ t, t ≤ m ∧ k = m + 1 - t ∧ Rnd ltN mkN (fun k => (F k).length) m (rnk m F) t [] fd) ∨ (g = false ∧ k = 0 ∧ ∀ k, k < m → fd k = some (F k).length))
/-- within a round -/
def ShI (G : Hp) (c p : Addr) (m : Nat) (W : Wys) (F : Nat → List Nat) (t : Nat) (f0 : Nat → Option Nat) (i : Nat) (σ : L2.St) (H' : Hp) : Prop :=
  ∃ (g : Bool) (o3 o4 o5 o6 o7 : Option V), σ = [some (.ref c), some (.ref p), some (.bl g), o3, o4, o5, o6, o7] ∧ Frm [p] G H' ∧ ∃ fd : Nat → Option Nat, H' p = some (.lst (fl m fd)) ∧ Rnd ltN mkN (fun k => (F k).length) m (rnk m F) t (W.take i) fd ∧
    (g = true → t < m) ∧ (g = false → fd = f0 ∧ ∀ k s row, ((k, s), row) ∈ W.take i → AllIn f0 row → ∃ u, f0 k = some u ∧ ltN (mkN s (row.map (gv f0))) u = false)
theorem pure_shortest_of {K : PySem.W.Frag} (vs : List V) (H : Hp) (Q : VK) (E : XK) (h : sp_shortest_of K vs H Q E) : t_shortest_of K { nx := fun _ H' => Q .non H', rt := Q } (start n_shortest_of vs) H := by
  obtain ⟨c, d, m, kvs, W, F, rfl, fw, fr, hd, hl, hm, wr, hF, ok, q⟩ := h
  have B : Best ltN mkN (fun k => (F k).length) m W (rnk m F) := bestN hF fun w hw => ⟨(ok w hw).1, (ok w hw).2.1⟩
  unfold t_shortest_of
  walk_at "gw"
  refine ⟨by show 1 ≤ sizeLine; decide, fun p0 hp0 => ?_⟩
  have s0 := same_new (o := .lst [V.non]) hp0
  walk_at "gw"
  refine FldAt.read (fw.same s0) (by simp) ?_
  refine .inr (.inr ⟨p0, _, _, rfl, rfl, upd_same, by omega, by omega, ?_, fun p hp => ?_⟩)
  · show 1 * (m : Int).toNat ≤ sizeLine
    have : 1000 ≤ sizeLine := by decide
    omega
  rw [show ((m : Nat) : Int).toNat = m by omega, fl_none]
  have s1 : Same H (upd (upd H p0 (.lst [V.non])) p (.lst (fl m fun _ => none))) := fun b o e => same_new hp b o (s0 b o e)
  have fp : upd (upd H p0 (.lst [V.non])) p (.lst (fl m fun _ => none)) p = some (.lst (fl m fun _ => none)) := upd_same
  have hp1 : H p = none := same_free s0 hp
  generalize upd (upd H p0 (.lst [V.non])) p (.lst (fl m fun _ => none)) = H1 at s1 fp
  walk_at "gw"
  refine ⟨ShW H c p m W F, ⟨m + 1, true, none, none, none, none, none, rfl, s1, _, fp, .inl ⟨rfl, 0, Nat.zero_le _, rfl, Rnd.start⟩⟩, ?_⟩
  clear s1 fp hp s0 hp0 H1
  rintro k σ H1 ⟨g, o3, o4, o5, o6, o7, rfl, s1, fd, fp, gg⟩
  walk_at "gw"
  refine w_ite (fun e => ?_) (fun e => ?_)
  · subst e
    obtain ⟨t, ht, rfl, R⟩ : ∃ t, t ≤ m ∧ k = m + 1 - t ∧ Rnd ltN mkN (fun k => (F k).length) m (rnk m F) t [] fd := by
      rcases gg with ⟨_, r⟩ | ⟨z, _⟩
      · exact r
      · cases z
    refine ⟨fun σ' H' => ∃ k', k' < m + 1 - t ∧ ShW H c p m W F k' σ' H', fun σ' H' hN => hN, ?_⟩
    walk_at "gw"
    have hd1 := s1 _ _ hd
    refine ⟨d, _, hd1, True.intro, fun od => ?_⟩
    have ncd : c ≠ d := fun e => by
      obtain ⟨_, _, _, h1, _⟩ := fw
      rw [e, hd] at h1; cases h1
    have npd : p ≠ d := fun e => by rw [e, hd] at hp1; cases hp1
    have npc : c ≠ p := fun e => by
      obtain ⟨_, _, _, h1, _⟩ := fw
      rw [e, hp1] at h1; cases h1
    have fz : upd H1 d (.frz od (.dT kvs)) d = some (.frz od (.dT kvs)) := upd_same
    have fr1 := (fr.same s1).upd (o := .frz od (.dT kvs)) ncd
    have wr1 := wr.imp fun v r h => RowT.rds (rdsT_frz (o := od) hd1) (h.same s1)
    have fp1 : upd H1 d (.frz od (.dT kvs)) p = some (.lst (fl m fd)) := by rw [upd_ne npd]; exact fp
    have bk : ∀ H', Frm [p] (upd H1 d (.frz od (.dT kvs))) H' → Same H (upd H' d (.dT kvs)) := fun H' f b x hb => by
      have nbp : b ≠ p := ne_of_none hb hp1
      by_cases z : b = d
      · rw [z] at hb ⊢
        rw [upd_same, ← hd, hb]
      · rw [upd_ne z]
        refine f.at_ b x (by simpa using nbp) ?_
        rw [upd_ne z]
        exact s1 b x hb
    generalize upd H1 d (.frz od (.dT kvs)) = G at fz fr1 wr1 fp1 bk
    clear gg
    refine .inl ?_
    show tFld K (tVar 0) "rows" _ _ _
    walk_at "gw"
    refine FldAt.read fr1 (by simp) ?_
    refine ⟨d, od, kvs, rfl, fz, ?_⟩
    refine for_it walk_itx (ShI G c p m W F t fd) ⟨false, _, _, _, _, _, rfl, Frm.refl _ _, fd, fp1, (by simpa using R), (fun z => nomatch z), fun _ => ⟨rfl, fun k s row hw => (by simp at hw)⟩⟩ (fun i σ' H' _ e => ?_) ?_ ?_
    · obtain ⟨_, _, _, _, _, _, _, f, _⟩ := e
      exact f.at_ _ _ (by simpa using npd.symm) fz
    · rintro i x σ' H2 H3 hi ⟨g, o3, o4, o5, o6, o7, rfl, f2, f', fp2, R2, gt, gf⟩ ⟨T, k, v, q', hkv, rfl, hT, rfl, hq'⟩
      obtain ⟨⟨⟨kd, s⟩, row⟩, hw, rfl, hr⟩ := wr1.get hkv
      obtain ⟨a, rfl, ha⟩ := hr
      obtain ⟨k1, k2, k3⟩ := ok _ (List.mem_of_getElem? hw)
      have hwm := List.mem_of_getElem? hw
      have tk : W.take (i + 1) = W.take i ++ [((kd, s), row)] := by rw [List.take_add_one, hw]; rfl
      have s3 := same_new (o := .tup [V.ref q', .ref a]) hT
      have ha2 : SqT K (upd H2 T (.tup [V.ref q', .ref a])) a (rI row) := sqt_same s3 (sqt_frm f2 (fun b hb => by rw [List.mem_singleton.mp hb]; exact ⟨_, fp1⟩) ha)
      have hq2 : upd H2 T (.tup [V.ref q', .ref a]) q' = some (.tup ((kOf (kd, s)).map kV)) := s3 _ _ hq'
      have hT2 : upd H2 T (.tup [V.ref q', .ref a]) T = some (.tup [V.ref q', .ref a]) := upd_same
      have fp3 := s3 _ _ fp2
      have f3 : Frm [p] G (upd H2 T (.tup [V.ref q', .ref a])) := f2.trans (Same.frm s3)
      generalize upd H2 T (.tup [V.ref q', .ref a]) = H3 at ha2 hq2 hT2 fp3 f3
      clear s3 hT hq' fp2 f2 hkv
      refine w_gtup (sqt_of hT2) rfl ?_
      walk_at "gw"
      refine w_gtup (sqt_of hq2) rfl ?_
      show gCons (gName 3) (gCons (gName 4) gNil) [V.int (kd : Nat), V.str (sgS s)] _ _ _
      walk_at "gw"
      have len60 : (rI row).length ≤ sizeLine := by
        rw [rI_len]
        exact Nat.le_trans k3 (by decide)
      have at_ : ∀ (j : Nat) x, (rI row)[j]? = some x → row.getD j 0 < m ∧ x = .int (row.getD j 0 : Nat) := fun j x hx => by
        obtain ⟨z, hz, rfl⟩ := rI_get hx
        have e : row.getD j 0 = z := by rw [List.getD_eq_getElem?_getD, hz]; rfl
        rw [e]
        exact ⟨k2 z (List.mem_of_getElem? hz), rfl⟩
      refine iseq_a rfl (.inr ha2) fun J Gw wk hG => ?_
      refine lc_im wk (fun _ => true) (fun j => .bl (f' (row.getD j 0)).isNone) len60 (fun _ H' _ e => hG H' (Same.rds e)) ?_ ?_
      · rintro j x H4 H5 KY KN hj s4 ⟨rfl, hx⟩ kY kN
        obtain ⟨hb, rfl⟩ := at_ j x hx
        walk_at "gw"
        refine ⟨rfl, ?_⟩
        walk_at "gw"
        refine w_iteT rfl ?_
        walk_at "gw"
        refine ix_l (sql_of (s4 _ _ fp3)) (atI_nat (fl_get hb)) ?_
        walk_at "gw"
        have e : decide (oV (f' (row.getD j 0)) = V.non) = (f' (row.getD j 0)).isNone := by cases f' (row.getD j 0) <;> rfl
        rw [e]
        exact kY rfl _ (Same.refl _)
      · intro D H4 hD s4 h5
        rw [rI_len, given_row (fun z => V.bl (f' z).isNone)] at h5
        walk_at "gw"
        refine ⟨D, row.map fun z => (f' z).isNone, rfl, sql_of (h5.trans (by rw [List.map_map]; rfl)), ?_⟩
        walk_at "gw"
        have f4 := f3.trans (Same.frm s4)
        have fp4 := s4 _ _ fp3
        refine w_ite (fun e => ?_) (fun e => ?_)
        · -- some part isn't known
          walk_at "gw"
          refine ⟨g, _, _, _, _, _, rfl, f4, f', fp4, ?_, gt, fun eg => ⟨(gf eg).1, fun k s' row' hw' al => ?_⟩⟩
          · rw [tk]
            refine R2.pass B hwm fun al => ?_
            obtain ⟨b, hb, hz⟩ := List.any_eq_true.mp e
            obtain ⟨z, hz1, rfl⟩ := List.mem_map.mp hb
            have := al z hz1
            cases q : f' z <;> simp [q] at this hz
          · rw [tk] at hw'
            rcases List.mem_append.mp hw' with z | z
            · exact (gf eg).2 k s' row' z al
            · have e2 : ((k, s'), row') = ((kd, s), row) := by simpa using z
              cases e2
              exfalso
              obtain ⟨b, hb, hz⟩ := List.any_eq_true.mp e
              obtain ⟨z, hz1, rfl⟩ := List.mem_map.mp hb
              have h6 := al z hz1
              rw [← (gf eg).1] at h6
              cases q : f' z <;> simp [q] at h6 hz
        · have al : AllIn f' row := fun z hz => by
            cases q : f' z with
            | some n => rfl
            | none =>
              have : (row.map fun z => (f' z).isNone).any id = true := List.any_eq_true.mpr ⟨true, List.mem_map.mpr ⟨z, hz, by rw [q]; rfl⟩, rfl⟩
              rw [e] at this
              cases this
          clear e h5
          walk_at "gw"
          refine iseq_a rfl (.inr (sqt_same s4 ha2)) fun J Gw wk hG => ?_
          refine lc_im wk (fun _ => true) (fun j => .int (gv f' (row.getD j 0) : Nat)) len60 (fun _ H' _ e => hG H' (Same.rds e)) ?_ ?_
          · rintro j x H6 H7 KY KN hj s5 ⟨rfl, hx⟩ kY kN
            obtain ⟨hb, rfl⟩ := at_ j x hx
            walk_at "gw"
            refine ⟨rfl, ?_⟩
            walk_at "gw"
            refine w_iteT rfl ?_
            walk_at "gw"
            refine ix_l (sql_of (s5 _ _ fp4)) (atI_nat (fl_get hb)) ?_
            have hin : row.getD j 0 ∈ row := by
              have : row[j]? = some (row.getD j 0) := by
                rw [rI_len] at hj
                rw [List.getD_eq_getElem?_getD, List.getElem?_eq_getElem hj]
                rfl
              exact List.mem_of_getElem? this
            rw [gv_some (al _ hin)]
            exact kY rfl _ (Same.refl _)
          · intro D2 H6 hD2 s5 h5
            rw [rI_len, given_row (fun z => V.int (gv f' z : Nat))] at h5
            walk_at "gw"
            refine ⟨D2, row.map fun z => ((gv f' z : Nat) : Int), rfl, sql_of (h5.trans (by rw [List.map_map]; rfl)), ?_⟩
            rw [sum_cast]
            walk_at "gw"
            have f6 := f4.trans (Same.frm s5)
            have fp6 := s5 _ _ fp4
            clear h5 fp4 f4 fp3 f3
            have ln : (1 : Int) + ((row.map (gv f')).sum : Nat) = ((mkN s (row.map (gv f')) : Nat) : Int) := by
              unfold mkN
              omega
            rw [ln]
            have km : kd < m := (ok _ hwm).1
            have cand := B.cand R2 hwm al
            have put : Better ltN f' kd (mkN s (row.map (gv f'))) → ∀ o7, ShI G c p m W F t fd (i + 1) [some (.ref c), some (.ref p), some (.bl true), some (.int (kd : Nat)), some (.str (sgS s)), some (.ref a), some (.int (mkN s (row.map (gv f')) : Nat)), o7] (upd H6 p (.lst (fl m (setF f' kd (mkN s (row.map (gv f'))))))) := by
              intro bt o7
              refine ⟨true, _, _, _, _, _, rfl, f6.trans (frm_upd (by simp)), _, upd_same, ?_, fun _ => ?_, fun z => (nomatch z)⟩
              · rw [tk]
                exact R2.put B hwm al bt
              · -- the last rounds better nothing
                by_cases z : t < m
                · exact z
                · exfalso
                  have ex := R2.old kd km (by have := rnk_ltm (F := F) km; omega)
                  rcases bt with bt | ⟨u, hu, hl⟩
                  · rw [ex] at bt; cases bt
                  · rw [ex] at hu
                    cases hu
                    rw [cand] at hl
                    cases hl
            have skip : (∃ u, f' kd = some u ∧ ltN (mkN s (row.map (gv f'))) u = false) → ∀ o7, ShI G c p m W F t fd (i + 1) [some (.ref c), some (.ref p), some (.bl g), some (.int (kd : Nat)), some (.str (sgS s)), some (.ref a), some (.int (mkN s (row.map (gv f')) : Nat)), o7] H6 := by
              intro no o7
              refine ⟨g, _, _, _, _, _, rfl, f6, f', fp6, ?_, gt, fun eg => ⟨(gf eg).1, fun k s' row' hw' al' => ?_⟩⟩
              · rw [tk]
                exact R2.pass B hwm fun _ => no
              · rw [tk] at hw'
                rcases List.mem_append.mp hw' with z | z
                · exact (gf eg).2 k s' row' z al'
                · have e2 : ((k, s'), row') = ((kd, s), row) := by simpa using z
                  cases e2
                  rw [← (gf eg).1]
                  exact no
            have ik : ixN (fl m f').length (kd : Nat) = some kd := by
              unfold ixN
              rw [fl_len, if_pos (by omega), if_pos (by omega)]
              congr 1
            generalize mkN s (row.map (gv f')) = n at put skip ln cand
            refine ix_l (sql_of fp6) (atI_nat (fl_get km)) ?_
            cases ef : f' kd with
            | none =>
              walk_at "gw"
              refine w_iteT rfl ?_
              refine w_iteT rfl ?_
              walk_at "gw"
              refine set_l fp6 ik ?_
              rw [fl_set km]
              walk_at "gw"
              exact put (.inl ef) _
            | some u =>
              walk_at "gw"
              refine w_iteF rfl ?_
              walk_at "gw"
              refine ix_l (sql_of fp6) (atI_nat (fl_get km)) ?_
              rw [ef, show oV (some u) = V.int (u : Nat) from rfl]
              walk_at "gw"
              refine w_ite (fun e => ?_) (fun e => ?_)
              · walk_at "gw"
                refine set_l fp6 ik ?_
                rw [fl_set km]
                walk_at "gw"
                refine put (.inr ⟨u, ef, ?_⟩) _
                have := of_decide_eq_true e
                exact decide_eq_true (by omega)
              · walk_at "gw"
                refine skip ⟨u, ef, ?_⟩ _
                have := of_decide_eq_false e
                exact decide_eq_false (by omega)
    · rintro σ' H2 ⟨g, o3, o4, o5, o6, o7, rfl, f2, f', fp2, R2, gt, gf⟩
      rw [wr1.len, List.take_length] at R2 gf
      have npd' := npd
      refine ⟨f2.at_ _ _ (by simpa using npd.symm) fz, ?_⟩
      have R3 := R2.round B fun w hw => hw
      cases g with
      | true =>
        have tm := gt rfl
        exact ⟨m + 1 - (t + 1), by omega, true, _, _, _, _, _, rfl, bk _ f2, f', by rw [upd_ne npd]; exact fp2, .inl ⟨rfl, t + 1, by omega, rfl, R3⟩⟩
      | false =>
        obtain ⟨rfl, fix⟩ := gf rfl
        exact ⟨0, by omega, false, _, _, _, _, _, rfl, bk _ f2, f', by rw [upd_ne npd]; exact fp2, .inr ⟨rfl, rfl, fun k hk => B.fix R2.lo fix _ k (Nat.lt_succ_self _) hk⟩⟩
  · subst e
    rcases gg with ⟨z, _⟩ | ⟨_, _, al⟩
    · cases z
    show t_shortest_of_p1 K _ _ _
    unfold t_shortest_of_p1
    walk_at "gw"
    refine q p H1 s1 hp1 (fp.trans (congrArg (fun z => some (HO.lst z)) ?_))
    unfold fl
    exact List.map_congr_left fun k hk => by rw [al k (List.mem_range.mp hk)]
end Pt.Re
namespace Pt.Re
/-! ### a core that stands -/
structure CorAt (K : PySem.W.Frag) (H : Hp) (x : Addr) (S : Str) (m : Nat) (W : Wys) (F : Nat → List Nat) : Prop where
  al : FldAt K H x "alphabet" (.str S)
  wd : FldAt K H x "width" (.int (m : Nat))
  ro : ∃ d kvs V', FldAt K H x "rows" (.ref d) ∧ H d = some (.dT kvs) ∧ kvs.length ≤ 1000 ∧ WysR (RowT K H) kvs V' ∧ (V'.map (·.1)).Nodup ∧ ∀ w, w ∈ V' ↔ w ∈ W
  sh : ∃ l, FldAt K H x "shortest" (.ref l) ∧ H l = some (.lst (fl m fun k => some (F k).length))
theorem CorAt.same {K : PySem.W.Frag} {H H' : Hp} {x : Addr} {S : Str} {m : Nat} {W : Wys} {F : Nat → List Nat} (h : CorAt K H x S m W F) (e : Same H H') : CorAt K H' x S m W F where
  al := h.al.same e
  wd := h.wd.same e
  ro := let ⟨d, kvs, V', h1, h2, h3, h4, h5⟩ := h.ro; ⟨d, kvs, V', h1.same e, e _ _ h2, h3, h4.imp fun _ _ q => q.same e, h5⟩
  sh := let ⟨l, h1, h2⟩ := h.sh; ⟨l, h1.same e, e _ _ h2⟩
/-- what a core's parts must be -/
structure WfC (S : Str) (m : Nat) (W : Wys) (F : Nat → List Nat) : Prop where
  sg : isSigns S = true
  len : S.cps.size ≤ 6
  so : (cs S).Pairwise (· ≤ ·)
  m12 : m ≤ 12
  w100 : W.length ≤ 100
  nd : (W.map (·.1)).Nodup
  ok : ∀ w ∈ W, w.1.1 < m ∧ w.1.2 ∈ cs S ∧ w.2.length ≤ 60 ∧ ∀ k ∈ w.2, k < m
  fst : IsFst m W F
  sz : ∀ k, k < m → (F k).length ≤ 200
def sp_Core_init__ (K : PySem.W.Frag) : Sp := fun vs H Q _ => ∃ (x dx d0 : Addr) (S0 S : Str) (m : Nat) (kvs : List (List L2.Key × V)) (W : Wys) (F : Nat → List Nat), vs = [.ref x, .str S0, .int (m : Nat), .ref d0] ∧ CoreF K ∧ H x = some (.ins (He.ga K "Core") dx []) ∧
  WfC S m W F ∧ (cs S0).Perm (cs S) ∧ H d0 = some (.dT kvs) ∧ WysR (RowA K H) kvs W ∧ ∀ H', Frm [x] H H' → CorAt K H' x S m W F → (∃ l, FldAt K H' x "shortest" (.ref l) ∧ H l = none) → Q .non H'
abbrev n_Core_init__ : List Str := ["self", "signs", "many", "ways", "kind", "norm", "key"]
def t_Core_init___p1 (K : PySem.W.Frag) : TS :=
  tIfS (tTest (tOp rGtI (tCB (cMax K) (tCons (tOp (rPlus K) (tFld K (tVar 0) "shortest") (tLst (tCons (tC (.int 0)) (tNil)))) (tNil))) (tC (.int 200)))) (tNever) (tNext)
def t_Core_init__ (K : PySem.W.Frag) : TS :=
  tSeq (tIfS (tNot (tTru K (tOwn (sp_is_signs K) (tCons (tVar 1) (tNil))))) (tNever) (tNext)) (tSeq (tIfS (tOr (tNot (tTru K (tOwn (sp_is_integer K) (tCons (tVar 2) (tNil))))) (tNot (tTest (tChain rLeI rLeI (tC (.int 0)) (tVar 2) (tC (.int 12)))))) (tNever) (tNext)) (tSeq (sFld K (tVar 0) (tM1 (mJoin K) (tC (.str "")) (tCB (cSorted K) (tCons (tVar 1) (tNil)))) "alphabet") (tSeq (sFld K (tVar 0) (tVar 2) "width") (tSeq (tIfS (tNot (tTru K (tOwn (sp_are_ways K) (tCons (tVar 0) (tCons (tVar 3) (tNil)))))) (tNever) (tNext)) (tSeq (sFld K (tVar 0) (tDcT (iSeq K (tCB (cSorted K) (tCons (tVar 3) (tNil)))) (gName 6) tYes (tVar 6) (tCB (cTuple K) (tCons (tOp (rIxU K) (tVar 3) (tVar 6)) (tNil))) [6]) "rows") (tSeq (sFld K (tVar 0) (tOwn (sp_shortest_of K) (tCons (tVar 0) (tNil))) "shortest") (tSeq (tFor (iEnum K (tCons (tFld K (tVar 0) "shortest") (tNil))) (gTup K 2 (gCons (gName 4) (gCons (gName 5) (gNil)))) (tIfS (tTest (tOp rIsU (tVar 5) (tC .non))) (tNever) (tNext))) (t_Core_init___p1 K))))))))
theorem isSigns_perm {a b : Str} (p : (cs a).Perm (cs b)) : isSigns a = isSigns b := by
  have hl := p.length_eq
  unfold isSigns
  rw [size_cs, size_cs, hl, show a.cps.toList.all isSgn = b.cps.toList.all isSgn from ?_, show decide a.cps.toList.Nodup = decide b.cps.toList.Nodup from ?_]
  · rw [decide_eq_decide]
    exact p.nodup_iff
  · rw [Bool.eq_iff_iff, List.all_eq_true, List.all_eq_true]
    exact ⟨fun h c hc => h c (p.mem_iff.mpr hc), fun h c hc => h c (p.mem_iff.mp hc)⟩
theorem FldAt.put {K : PySem.W.Frag} {H : Hp} {x dx : Addr} {fs : List (Str × V)} {f : Str} {v : V} (F : CoreF K) : FldAt K (L2.upd H x (.ins (He.ga K "Core") dx (putF f v fs))) x f v := ⟨F, dx, _, upd_same, by rw [lookup_putF, if_pos rfl]⟩
theorem FldAt.stay {K : PySem.W.Frag} {H : Hp} {x dx : Addr} {fs : List (Str × V)} {f g : Str} {v u : V} (F : CoreF K) (h : fs.lookup g = some u) (ne : g ≠ f) : FldAt K (L2.upd H x (.ins (He.ga K "Core") dx (putF f v fs))) x g u := ⟨F, dx, _, upd_same, by rw [lookup_putF, if_neg ne]; exact h⟩
theorem rds_frm {R : List Addr} {H H' : Hp} (f : Frm R H H') (hn : ∀ b ∈ R, ∃ C dx fs, H b = some (.ins C dx fs)) : RdT H H' := ⟨fun a xs => by
  have ne : ∀ u, H a = some u → (∀ C dx fs, u ≠ .ins C dx fs) → H' a = some u := fun u e n => f.at_ a u (fun z => by
    obtain ⟨C, dx, fs, e2⟩ := hn a z
    rw [e] at e2
    exact n C dx fs (Option.some.inj e2)) e
  constructor <;>
  · rintro (e | ⟨o', e⟩)
    · exact .inl (ne _ e fun _ _ _ z => nomatch z)
    · exact .inr ⟨o', ne _ e fun _ _ _ z => nomatch z⟩, fun a xs e => f.at_ a _ (fun z => by
    obtain ⟨C, dx, fs, e2⟩ := hn a z
    rw [e] at e2
    cases e2) e⟩
theorem rdsT_upd {H : Hp} {a : Addr} {kvs kvs' : List (List L2.Key × V)} (h : H a = some (.dT kvs)) : RdT H (upd H a (.dT kvs')) := ⟨fun b xs => by
  have ne : ∀ u, H b = some u → u ≠ .dT kvs → b ≠ a := fun u e n z => by
    rw [z, h] at e
    exact n (Option.some.inj e).symm
  constructor <;>
  · rintro (e | ⟨o', e⟩)
    · exact .inl (by rw [upd_ne (ne _ e (fun z => nomatch z))]; exact e)
    · exact .inr ⟨o', by rw [upd_ne (ne _ e (fun z => nomatch z))]; exact e⟩, fun b xs e => by
  rw [upd_ne (fun z => by rw [z, h] at e; cases e)]
  exact e⟩
theorem WysR.snoc {R : V → List Nat → Prop} : ∀ {kvs : List (List L2.Key × V)} {W : Wys} {k : List L2.Key} {v : V} {w : Kd × List Nat}, WysR R kvs W → k = kOf w.1 → R v w.2 → WysR R (kvs ++ [(k, v)]) (W ++ [w])
  | _, _, _, _, _, .nil, e, r => .cons ⟨e, r⟩ .nil
  | _, _, _, _, _, .cons h t, e, r => .cons h (WysR.snoc t e r)
theorem paired_at {α β : Type} {F : α → β → Prop} : ∀ {xs : List α} {ys : List β} {i : Nat} {y : β}, Paired F xs ys → ys[i]? = some y → ∃ x, xs[i]? = some x ∧ F x y
  | _, _, i, _, .nil, h => by cases h
  | _, _, 0, _, .cons h t, e => by cases e; exact ⟨_, rfl, h⟩
  | _, _, i + 1, _, .cons h t, e => paired_at (i := i) t e
theorem pure_Core_init__ {K : PySem.W.Frag} (vs : List V) (H : Hp) (Q : VK) (E : XK) (h : sp_Core_init__ K vs H Q E) : t_Core_init__ K { nx := fun _ H' => Q .non H', rt := Q } (start n_Core_init__ vs) H := by
  obtain ⟨x, dx, d0, S0, S, m, kvs, W, F, rfl, CF, hx, wf, pm, hd, wr, q⟩ := h
  have sl : 100 ≤ sizeLine := by decide
  have l0 : (cs S0).length ≤ 6 := by
    have := wf.len
    rw [size_cs, ← pm.length_eq] at this
    exact this
  unfold t_Core_init__
  walk_at "gw"
  refine .inl ⟨S0, rfl, by rw [len_cs]; omega, fun H1 s1 => ?_⟩
  rw [isSigns_perm pm, wf.sg]
  walk_at "gw"
  refine w_iteF rfl ?_
  walk_at "gw"
  refine ⟨_, rfl, fun H2 s2 => ?_⟩
  walk_at "gw"
  refine w_iteF rfl ?_
  walk_at "gw"
  refine w_iteT (decide_eq_true (by omega)) ?_
  walk_at "gw"
  rw [decide_eq_true (show ((m : Nat) : Int) ≤ 12 by have := wf.m12; omega)]
  refine w_iteF rfl ?_
  walk_at "gw"
  refine .inl ⟨_, cs S0, rfl, .inl ⟨S0, rfl, rfl⟩, by omega, fun l' p pm' pw hp => ?_⟩
  have e : l' = cs S := List.Perm.eq_of_pairwise (le := (· ≤ ·)) (fun a b _ _ h1 h2 => Nat.le_antisymm h1 h2) pw wf.so (pm'.trans pm)
  subst e
  refine join_q upd_same (by rw [← pm.length_eq]; omega) ?_
  rw [mk_cs]
  have s3 : Same H (upd H2 p (.lst ((cs S).map sg))) := fun b o e => same_new hp b o (s2 b o (s1 b o e))
  generalize upd H2 p (.lst ((cs S).map sg)) = H3 at s3
  clear s1 s2 hp pm' pw
  walk_at "gw"
  refine ⟨x, _, dx, [], rfl, s3 _ _ hx, CF.c.cls, CF.na _ (by simp), by show 0 < 1000; decide, ?_⟩
  -- the alphabet, the width
  obtain ⟨fs1, ef1⟩ : ∃ z, z = putF "alphabet" (.str S) [] := ⟨_, rfl⟩
  have la1 : fs1.lookup (Str.ofString "alphabet") = some (.str S) := by rw [ef1, lookup_putF, if_pos rfl]
  have ln1 : fs1.length ≤ 1 := by rw [ef1]; exact length_putF _ _ _
  rw [← ef1]
  clear ef1
  have f4 : Frm [x] H (upd H3 x (.ins (He.ga K "Core") dx fs1)) := (Same.frm s3).trans (frm_upd (by simp))
  have h4 : upd H3 x (.ins (He.ga K "Core") dx fs1) x = some (.ins (He.ga K "Core") dx fs1) := upd_same
  generalize upd H3 x (.ins (He.ga K "Core") dx fs1) = H4 at f4 h4
  walk_at "gw"
  refine ⟨x, _, dx, fs1, rfl, h4, CF.c.cls, CF.na _ (by simp), by omega, ?_⟩
  have fal := FldAt.stay (H := H4) (dx := dx) (f := "width") (v := .int (m : Nat)) (x := x) CF la1 (by decide)
  have fwd := FldAt.put (H := H4) (dx := dx) (f := "width") (v := .int (m : Nat)) (x := x) (fs := fs1) CF
  have f5 : Frm [x] H (upd H4 x (.ins (He.ga K "Core") dx (putF "width" (.int (m : Nat)) fs1))) := f4.trans (frm_upd (by simp))
  have ln2 : (putF "width" (.int (m : Nat)) fs1).length ≤ 2 := by have := length_putF "width" (.int (m : Nat)) fs1; omega
  have la2 : (putF "width" (.int (m : Nat)) fs1).lookup (Str.ofString "alphabet") = some (.str S) := by rw [lookup_putF, if_neg (by decide)]; exact la1
  have lw2 : (putF "width" (.int (m : Nat)) fs1).lookup (Str.ofString "width") = some (.int (m : Nat)) := by rw [lookup_putF, if_pos rfl]
  have h5 : upd H4 x (.ins (He.ga K "Core") dx (putF "width" (.int (m : Nat)) fs1)) x = some (.ins (He.ga K "Core") dx (putF "width" (.int (m : Nat)) fs1)) := upd_same
  generalize upd H4 x (.ins (He.ga K "Core") dx (putF "width" (.int (m : Nat)) fs1)) = H5 at fal fwd f5 h5
  generalize putF "width" (.int (m : Nat)) fs1 = fs2 at ln2 la2 lw2 h5
  clear f4 h4 H4 s3 H3 la1 ln1
  walk_at "gw"
  have hxi : ∀ b ∈ [x], ∃ C dx fs, H b = some (.ins C dx fs) := fun b hb => by rw [List.mem_singleton.mp hb]; exact ⟨_, _, _, hx⟩
  have ndx : d0 ≠ x := fun e => by rw [e, hx] at hd; cases hd
  have hd5 := f5.at_ _ _ (by simpa using ndx) hd
  have wr5 := wr.imp fun v r h => RowA.rds (rds_frm f5 hxi) h
  have lkv : kvs.length ≤ 1000 := by have := wr.len; have := wf.w100; omega
  refine ⟨x, d0, m, S, kvs, W, rfl, fwd, fal, by rw [len_cs, ← size_cs]; have := wf.len; omega, hd5, lkv, wr5, wf.nd, wf.ok, fun H6 s6 => ?_⟩
  have f6 := f5.trans (Same.frm s6)
  have h6 := s6 _ _ h5
  have hd6 := s6 _ _ hd5
  have wr6 := wr5.imp fun v r h => RowA.same s6 h
  clear f5 h5 hd5 wr5 fal fwd s6 H5
  walk_at "gw"
  refine w_iteF rfl ?_
  walk_at "gw"
  refine w_iseqL ?_
  walk_at "gw"
  have shape : ∀ kv ∈ kvs, ∃ (i : Int) (z : Str), kv.1 = [.inl i, .inr z] := fun kv hkv => by
    obtain ⟨i, hi⟩ := List.mem_iff_getElem?.mp hkv
    obtain ⟨w, _, e, _⟩ := wr6.get (k := kv.1) (v := kv.2) hi
    exact ⟨_, _, e⟩
  refine .inr ⟨d0, kvs, rfl, .inl hd6, shape, fun ks bs p pk pr hp => ?_⟩
  rw [wr6.keys] at pk
  obtain ⟨Wp, pW, rfl⟩ := perm_unmap pk W rfl
  have s7 := same_new (o := .lst (bs.map V.ref)) hp
  refine e_ilist (sql_of upd_same) fun D hD => ?_
  have pr7 : Paired (fun (w : Kd × List Nat) b => upd H6 p (.lst (bs.map V.ref)) b = some (.tup ((kOf w.1).map kV))) Wp bs := by
    have : ∀ {l : Wys} {bs : List Addr}, Paired (fun k b => H6 b = some (.tup (k.map kV))) (l.map fun w => kOf w.1) bs → Paired (fun (w : Kd × List Nat) b => H6 b = some (.tup ((kOf w.1).map kV))) l bs := by
      intro l
      induction l with
      | nil => intro bs h; cases h; exact .nil
      | cons w l ih => intro bs h; cases h with
        | cons h t => exact .cons h (ih t)
    exact Paired.mapP (this pr) fun _ _ h => s7 _ _ h
  have f7 := f6.trans (Same.frm s7)
  have h7 := s7 _ _ h6
  have hd7 := s7 _ _ hd6
  have wr7 := wr6.imp fun v r h => RowA.same s7 h
  have hp7 : upd H6 p (.lst (bs.map V.ref)) p = some (.lst (bs.map V.ref)) := upd_same
  generalize upd H6 p (.lst (bs.map V.ref)) = H7 at pr7 f7 h7 hd7 wr7 hp7 hD
  clear f6 h6 hd6 wr6 s7 hp pr pk H6
  have ndp : (Wp.map (·.1)).Nodup := (pW.map _).nodup_iff.mpr wf.nd
  have lb : (bs.map V.ref).length = Wp.length := by rw [List.length_map]; exact (paired_len pr7).symm
  refine dct_it walk_list (fun i H' => ∃ kv', H' D = some (.dT kv') ∧ Same H7 H' ∧ WysR (RowT K H') kv' (Wp.take i)) ⟨[], upd_same, same_new hD, .nil⟩ (fun i H' _ e => sql_of (e.choose_spec.2.1 _ _ hp7)) ?_ ?_
  · rintro i y H0 H8 hi ⟨kv', hD8, s8, wr'⟩ ⟨rfl, hy⟩
    rw [lb] at hi
    obtain ⟨b, hb, rfl⟩ : ∃ b, bs[i]? = some b ∧ y = .ref b := by
      rw [List.getElem?_map] at hy
      obtain ⟨b, h1, h2⟩ := Option.map_eq_some_iff.mp hy
      exact ⟨b, h1, h2.symm⟩
    obtain ⟨w, hw, eb⟩ := paired_at pr7 hb
    have hwW : w ∈ W := pW.mem_iff.mp (List.mem_of_getElem? hw)
    obtain ⟨r, v, lk, vl, ra⟩ : ∃ r v, look W w.1 = some r ∧ valV kvs (kOf w.1) = some v ∧ RowA K H7 v r := by
      rcases wr7.val w.1 with ⟨h1, _⟩ | h
      · rw [look_of wf.nd (r := w.2) hwW] at h1; cases h1
      · exact h
    rw [look_of wf.nd (r := w.2) hwW] at lk
    cases lk
    have tk : Wp.take (i + 1) = Wp.take i ++ [w] := by rw [List.take_add_one, hw]; rfl
    have fresh : kOf w.1 ∉ kv'.map (·.1) := fun z => by
      rw [wr'.keys] at z
      obtain ⟨w2, h1, h2⟩ := List.mem_map.mp z
      obtain ⟨j, hj, e⟩ := List.mem_iff_getElem.mp h1
      rw [List.length_take] at hj
      rw [List.getElem_take] at e
      have n2 := List.pairwise_iff_getElem.mp ndp j i (by rw [List.length_map]; omega) (by rw [List.length_map]; omega) (by omega)
      simp only [List.getElem_map] at n2
      refine n2 ?_
      rw [e, kOf_inj h2]
      have e3 : Wp[i] = w := by
        rw [List.getElem?_eq_getElem hi] at hw
        exact Option.some.inj hw
      rw [e3]
    have fin : ∀ (z : Addr) (H9 : Hp), Same H8 H9 → SqT K H9 z (rI w.2) → ∃ kvs k b', V.ref b = .ref b' ∧ H9 D = some (.dT kvs) ∧ H9 b' = some (.tup (k.map kV)) ∧ kvs.length < sizeLine ∧
        ∃ kv', upd H9 D (.dT (putK kvs k (.ref z))) D = some (.dT kv') ∧ Same H7 (upd H9 D (.dT (putK kvs k (.ref z)))) ∧ WysR (RowT K (upd H9 D (.dT (putK kvs k (.ref z))))) kv' (Wp.take (i + 1)) := fun z H9 s9 hz => by
      have hD9 := s9 _ _ hD8
      refine ⟨kv', kOf w.1, b, rfl, hD9, s9 _ _ (s8 _ _ eb), ?_, _, upd_same, fun a o e => ?_, ?_⟩
      · have h1 := wr'.len
        rw [List.length_take] at h1
        have h2 := pW.length_eq
        have := wf.w100
        omega
      · rw [upd_ne (ne_of_none e hD)]
        exact s9 _ _ (s8 _ _ e)
      · rw [putK_new fresh, tk]
        have rd := rdsT_upd (kvs' := kv' ++ [(kOf w.1, V.ref z)]) hD9
        exact (wr'.imp fun v r h => RowT.rds rd (h.same s9)).snoc rfl ⟨z, rfl, rd.2 _ _ hz⟩
    walk_at "gw"
    refine ⟨rfl, ?_⟩
    walk_at "gw"
    refine w_iteT rfl ?_
    walk_at "gw"
    refine ix_d (.inr ⟨kvs, kOf w.1, b, .inl (s8 _ _ hd7), rfl, s8 _ _ eb, vl.symm⟩) ?_
    obtain ⟨a, rfl, ha⟩ := ra
    walk_at "gw"
    rcases ha with ha | ha
    · refine tuple_l (sql_same s8 ha) fun z hz => ?_
      exact fin z _ (same_new hz) (sqt_of upd_same)
    · exact tuple_t (sqt_same s8 ha) (fin a _ (Same.refl _) (sqt_same s8 ha))
  · rintro H8 ⟨kv', hD8, s8, wr'⟩
    rw [lb, List.take_length] at wr'
    have f8 := f7.trans (Same.frm s8)
    have h8 := s8 _ _ h7
    have hDx : D ≠ x := fun e => by rw [e, h7] at hD; cases hD
    have lkv' : kv'.length ≤ 1000 := by
      have h1 := wr'.len
      have h2 := pW.length_eq
      have := wf.w100
      omega
    clear f7 h7 hd7 wr7 hp7 hD pr7 s8 shape hd wr lb H7
    walk_at "gw"
    -- the rows
    refine ⟨x, _, dx, fs2, rfl, h8, CF.c.cls, CF.na _ (by simp), by omega, ?_⟩
    have fal := FldAt.stay (H := H8) (dx := dx) (f := "rows") (v := .ref D) (x := x) CF la2 (by decide)
    have fwd := FldAt.stay (H := H8) (dx := dx) (f := "rows") (v := .ref D) (x := x) CF lw2 (by decide)
    have fro := FldAt.put (H := H8) (dx := dx) (f := "rows") (v := .ref D) (x := x) (fs := fs2) CF
    have la3 : (putF "rows" (.ref D) fs2).lookup (Str.ofString "alphabet") = some (.str S) := by rw [lookup_putF, if_neg (by decide)]; exact la2
    have lw3 : (putF "rows" (.ref D) fs2).lookup (Str.ofString "width") = some (.int (m : Nat)) := by rw [lookup_putF, if_neg (by decide)]; exact lw2
    have lr3 : (putF "rows" (.ref D) fs2).lookup (Str.ofString "rows") = some (.ref D) := by rw [lookup_putF, if_pos rfl]
    have ln3 : (putF "rows" (.ref D) fs2).length ≤ 3 := by have := length_putF "rows" (.ref D) fs2; omega
    have f9 : Frm [x] H (upd H8 x (.ins (He.ga K "Core") dx (putF "rows" (.ref D) fs2))) := f8.trans (frm_upd (by simp))
    have h9 : upd H8 x (.ins (He.ga K "Core") dx (putF "rows" (.ref D) fs2)) x = some (.ins (He.ga K "Core") dx (putF "rows" (.ref D) fs2)) := upd_same
    have hD9 : upd H8 x (.ins (He.ga K "Core") dx (putF "rows" (.ref D) fs2)) D = some (.dT kv') := by rw [upd_ne hDx]; exact hD8
    have wr9 : WysR (RowT K (upd H8 x (.ins (He.ga K "Core") dx (putF "rows" (.ref D) fs2)))) kv' Wp := wr'.imp fun v r h => h.rds (rds_frm (frm_upd (R := [x]) (by simp)) fun b hb => by rw [List.mem_singleton.mp hb]; exact ⟨_, _, _, h8⟩)
    generalize upd H8 x (.ins (He.ga K "Core") dx (putF "rows" (.ref D) fs2)) = H9 at fal fwd fro f9 h9 hD9 wr9
    generalize putF "rows" (.ref D) fs2 = fs3 at la3 lw3 lr3 ln3 h9
    clear f8 h8 hD8 wr' la2 lw2 ln2 H8 fs2
    walk_at "gw"
    have mem : ∀ w, w ∈ Wp ↔ w ∈ W := fun w => pW.mem_iff
    refine ⟨x, D, m, kv', Wp, F, rfl, fwd, fro, hD9, lkv', by have := wf.m12; omega, wr9, wf.fst.congr fun w => (mem w).symm, fun w hw => ?_, fun l H10 s10 hl hl10 => ?_⟩
    · have h := wf.ok w ((mem w).mp hw)
      exact ⟨h.1, h.2.2.2, h.2.2.1⟩
    have f10 := f9.trans (Same.frm s10)
    have h10 := s10 _ _ h9
    have hD10 := s10 _ _ hD9
    have wr10 := wr9.imp fun v r h => h.same s10
    have hlx : l ≠ x := fun e => by rw [e, h9] at hl; cases hl
    have hlH : H l = none := f9.free hl
    have hDl : D ≠ l := fun e => by rw [← e, hD9] at hl; cases hl
    clear fal fwd fro f9 h9 hD9 wr9 s10 hl H9
    walk_at "gw"
    refine ⟨x, _, dx, fs3, rfl, h10, CF.c.cls, CF.na _ (by simp), by omega, ?_⟩
    have fal := FldAt.stay (H := H10) (dx := dx) (f := "shortest") (v := .ref l) (x := x) CF la3 (by decide)
    have fwd := FldAt.stay (H := H10) (dx := dx) (f := "shortest") (v := .ref l) (x := x) CF lw3 (by decide)
    have fro := FldAt.stay (H := H10) (dx := dx) (f := "shortest") (v := .ref l) (x := x) CF lr3 (by decide)
    have fsh := FldAt.put (H := H10) (dx := dx) (f := "shortest") (v := .ref l) (x := x) (fs := fs3) CF
    have f11 : Frm [x] H (upd H10 x (.ins (He.ga K "Core") dx (putF "shortest" (.ref l) fs3))) := f10.trans (frm_upd (by simp))
    have hl11 : upd H10 x (.ins (He.ga K "Core") dx (putF "shortest" (.ref l) fs3)) l = some (.lst (fl m fun k => some (F k).length)) := by rw [upd_ne hlx]; exact hl10
    have cor : CorAt K (upd H10 x (.ins (He.ga K "Core") dx (putF "shortest" (.ref l) fs3))) x S m W F := by
      refine ⟨fal, fwd, ⟨D, kv', Wp, fro, by rw [upd_ne hDx]; exact hD10, lkv', wr10.imp fun v r h => h.rds (rds_frm (frm_upd (R := [x]) (by simp)) fun b hb => by rw [List.mem_singleton.mp hb]; exact ⟨_, _, _, h10⟩), ndp, mem⟩, l, fsh, hl11⟩
    generalize upd H10 x (.ins (He.ga K "Core") dx (putF "shortest" (.ref l) fs3)) = H11 at fsh f11 hl11 cor
    clear fal fwd fro f10 h10 hD10 wr10 hl10 la3 lw3 lr3 ln3 H10 fs3
    walk_at "gw"
    refine FldAt.read fsh (by simp) ?_
    walk_at "gw"
    refine e_ienum (sql_of hl11) ?_
    refine for_it walk_enum (fun _ σ H' => (∃ o4 o5 o6, σ = [some (.ref x), some (.str S0), some (.int (m : Nat)), some (.ref d0), o4, o5, o6]) ∧ Same H11 H') ⟨⟨_, _, _, rfl⟩, Same.refl _⟩ (fun _ _ _ _ e => sql_of (e.2 _ _ hl11)) ?_ ?_
    · rintro i y σ Ha Hb hi ⟨⟨o4, o5, o6, rfl⟩, s⟩ ⟨T, a1, b1, rfl, hT, rfl, ea, eb⟩
      rw [fl_len] at hi
      have eb2 : some (oV (some (F i).length)) = some b1 := (fl_get (fd := fun k => some (F k).length) hi).symm.trans eb
      have ea2 : some (V.int (i : Nat)) = some a1 := ea
      cases ea2
      cases eb2
      refine w_gtup (sqt_of upd_same) rfl ?_
      walk_at "gw"
      refine w_iteF rfl ?_
      walk_at "gw"
      exact ⟨⟨_, _, _, rfl⟩, fun b o e => same_new hT b o (s b o e)⟩
    · rintro σ Ha ⟨⟨o4, o5, o6, rfl⟩, s⟩
      unfold t_Core_init___p1
      walk_at "gw"
      refine FldAt.read (fsh.same s) (by simp) ?_
      walk_at "gw"
      refine ⟨by show 1 ≤ sizeLine; decide, fun p1 hp1 => ?_⟩
      have s1 := same_new (o := .lst [V.int 0]) hp1
      refine plus_l (s1 _ _ (s _ _ hl11)) upd_same (by rw [fl_len]; have := wf.m12; show m + 1 ≤ _; omega) fun p2 hp2 => ?_
      have s2 := same_new (o := .lst ((fl m fun k => some (F k).length) ++ [V.int 0])) hp2
      walk_at "gw"
      refine .inr ⟨p2, (List.range m).map (fun k => (((F k).length : Nat) : Int)) ++ [0], rfl, sql_of (upd_same.trans ?_), by simp, fun mx hm _ => ?_⟩
      · rw [List.map_append, List.map_map]
        rfl
      walk_at "gw"
      have small : ¬ (200 : Int) < mx := by
        rcases List.mem_append.mp hm with z | z
        · obtain ⟨k, hk, rfl⟩ := List.mem_map.mp z
          have := wf.sz k (List.mem_range.mp hk)
          omega
        · have : mx = 0 := by simpa using z
          omega
      rw [decide_eq_false small]
      refine w_iteF rfl ?_
      walk_at "gw"
      have sa : Same H11 (upd (upd Ha p1 (.lst [V.int 0])) p2 (.lst ((fl m fun k => some (F k).length) ++ [V.int 0]))) := fun b o e => s2 b o (s1 b o (s b o e))
      exact q _ (f11.trans (Same.frm sa)) (cor.same sa) ⟨l, fsh.same sa, hlH⟩
end Pt.Re
namespace Pt.Re
/-! ### reading -/
structure CW (K : PySem.W.Frag) (H : Hp) (x : Addr) (S : Str) (m : Nat) (W : Wys) (F : Nat → List Nat) : Prop where
  c : CorAt K H x S m W F
  w : WfC S m W F
theorem CW.same {K : PySem.W.Frag} {H H' : Hp} {x : Addr} {S : Str} {m : Nat} {W : Wys} {F : Nat → List Nat} (h : CW K H x S m W F) (e : Same H H') : CW K H' x S m W F := ⟨h.c.same e, h.w⟩
def RowO (K : PySem.W.Frag) (H : Hp) (v : V) : Option (List Nat) → Prop
  | none => v = .non
  | some r => RowT K H v r
theorem RowO.same {K : PySem.W.Frag} {H H' : Hp} {v : V} {o : Option (List Nat)} (h : RowO K H v o) (e : Same H H') : RowO K H' v o := by
  cases o with
  | none => exact h
  | some r => exact RowT.same e h
def InC (m : Nat) (r : List Nat) : Prop := ∀ k ∈ r, k < m
def sp_is_over (K : PySem.W.Frag) : Sp := fun vs H Q _ => ∃ (A t : Str) (mo : Nat), vs = [.str A, .str t, .int (mo : Nat)] ∧ t.length ≤ mo ∧ t.length ≤ 100000 ∧ (∀ c ∈ cs t, c ∈ cs A) ∧ ∀ H', Same H H' → Q (.bl true) H'
def sp_need_core (K : PySem.W.Frag) : Sp := fun vs H Q _ => ∃ x S m W F, vs = [.ref x] ∧ CW K H x S m W F ∧ ∀ H', Same H H' → Q (.ref x) H'
def sp_need_row (K : PySem.W.Frag) : Sp := fun vs H Q _ => ∃ x S m W F a r, vs = [.ref x, .ref a] ∧ CW K H x S m W F ∧ SqA K H a (rI r) ∧ r.length ≤ 60 ∧ InC m r ∧ ∀ p H', Same H H' → SqT K H' p (rI r) → Q (.ref p) H'
def sp_need_input (K : PySem.W.Frag) : Sp := fun vs H Q _ => ∃ x S m W F, ∃ (t : Str) (mo : Nat), vs = [.ref x, .str t, .int (mo : Nat)] ∧ CW K H x S m W F ∧ t.length ≤ mo ∧ t.length ≤ 100000 ∧ (∀ c ∈ cs t, c ∈ cs S) ∧ ∀ H', Same H H' → Q (.str t) H'
def sp_norm_by (K : PySem.W.Frag) : Sp := fun vs H Q _ => ∃ x S m W F a r, vs = [.ref x, .ref a] ∧ CW K H x S m W F ∧ SqT K H a (rI r) ∧ r.length ≤ 100000 ∧ InC m r ∧ ∀ H', Same H H' → Q (.int (sumN (fun k => (F k).length) r : Nat)) H'
def sp_behind (K : PySem.W.Frag) : Sp := fun vs H Q _ => ∃ x S m W F a r, ∃ (s : Nat), vs = [.ref x, .ref a, .str (sgS s)] ∧ CW K H x S m W F ∧ SqT K H a (rI r) ∧ r.length ≤ 100000 ∧ InC m r ∧ ∀ v H', Same H H' → RowO K H' v (bhd W r s) → Q v H'
def sp_walked (K : PySem.W.Frag) : Sp := fun vs H Q _ => ∃ x S m W F a r, ∃ (t : Str), vs = [.ref x, .ref a, .str t] ∧ CW K H x S m W F ∧ SqT K H a (rI r) ∧ r.length + 60 * t.length ≤ 100000 ∧ InC m r ∧
  ∀ p v H', Same H H' → H' p = some (.tup [v, .int ((wk W r (cs t)).2 : Nat)]) → RowT K H' v (wk W r (cs t)).1 → Q (.ref p) H'
def sp_left_by (K : PySem.W.Frag) : Sp := fun vs H Q _ => ∃ x S m W F a r, ∃ (t : Str), vs = [.ref x, .ref a, .str t] ∧ CW K H x S m W F ∧ SqT K H a (rI r) ∧ r.length + 60 * t.length ≤ 100000 ∧ InC m r ∧
  ∀ v H', Same H H' → RowO K H' v (rdt W r (cs t)) → Q v H'
def sp_both (K : PySem.W.Frag) : Sp := fun vs H Q _ => ∃ x S m W F a r, ∃ (t : Str), vs = [.ref x, .ref a, .str t] ∧ CW K H x S m W F ∧ SqA K H a (rI r) ∧ r.length ≤ 60 ∧ InC m r ∧ t.length ≤ 200 ∧ (∀ c ∈ cs t, c ∈ cs S) ∧
  ∀ p a' H', Same H H' → H' p = some (.tup [.ref a', .str t]) → SqT K H' a' (rI r) → Q (.ref p) H'
abbrev n_is_over : List Str := ["alphabet", "thing", "most", "sign"]
def t_is_over (K : PySem.W.Frag) : TS :=
  tRet (tAndT K (tCB (cIsi K) (tCons (tVar 1) (tCons (tC (.ty "str")) (tNil)))) (tAndT K (tOp rLeI (tCB (cLen K) (tCons (tVar 1) (tNil))) (tVar 2)) (tOp (rEqU K) (tLc (iStr (tVar 1)) (gName 3) (tTest (tOp (rNotInU K) (tVar 3) (tVar 0))) (tC (.int 1)) [3]) (tLst (tNil)))))
abbrev n_need_core : List Str := ["core"]
def t_need_core (K : PySem.W.Frag) : TS :=
  tSeq (tIfS (tNot (tTru K (tCB (cIsi K) (tCons (tVar 0) (tCons (tC (.ref (He.ga K "Core"))) (tNil)))))) (tNever) (tNext)) (tRet (tVar 0))
abbrev n_need_row : List Str := ["core", "row"]
def t_need_row (K : PySem.W.Frag) : TS :=
  tSeq (tIfS (tNot (tTru K (tOwn (sp_is_row K) (tCons (tOwn (sp_need_core K) (tCons (tVar 0) (tNil))) (tCons (tVar 1) (tNil)))))) (tNever) (tNext)) (tRet (tCB (cTuple K) (tCons (tVar 1) (tNil))))
abbrev n_need_input : List Str := ["core", "text", "most"]
def t_need_input (K : PySem.W.Frag) : TS :=
  tSeq (tIfS (tNot (tTru K (tOwn (sp_is_over K) (tCons (tFld K (tVar 0) "alphabet") (tCons (tVar 1) (tCons (tVar 2) (tNil))))))) (tNever) (tNext)) (tRet (tVar 1))
abbrev n_norm_by : List Str := ["core", "row", "kind"]
def t_norm_by (K : PySem.W.Frag) : TS :=
  tRet (tCB (rSum K) (tCons (tLc (iSeq K (tVar 1)) (gName 2) (tYes) (tOp (rIxU K) (tFld K (tVar 0) "shortest") (tVar 2)) [2]) (tNil)))
abbrev n_behind : List Str := ["core", "row", "sign", "way"]
def t_behind (K : PySem.W.Frag) : TS :=
  tSeq (tAsg (tIf (tTru K (tVar 1)) (tDGet2 (tFld K (tVar 0) "rows") (tTup (tCons (tOp (rIxU K) (tVar 1) (tC (.int 0))) (tCons (tVar 2) (tNil)))) (tC .non)) (tC .non)) (gName 3)) (tRet (tIf (tTest (tOp rIsU (tVar 3) (tC .non))) (tC .non) (tOp (rPlus K) (tVar 3) (tSl (rSlU K) (tVar 1) (tPart (tC (.int 1))) (tNoPart)))))
abbrev n_walked : List Str := ["core", "row", "text", "index", "sign", "after_sign"]
def t_walked_p1 (K : PySem.W.Frag) : TS :=
  tRet (tTup (tCons (tVar 1) (tCons (tCB (cLen K) (tCons (tVar 2) (tNil))) (tNil))))
def t_walked (K : PySem.W.Frag) : TS :=
  tSeq (tFor (iEnumS (tCons (tVar 2) (tNil))) (gTup K 2 (gCons (gName 3) (gCons (gName 4) (gNil)))) (tSeq (tAsg (tOwn (sp_behind K) (tCons (tVar 0) (tCons (tVar 1) (tCons (tVar 4) (tNil))))) (gName 5)) (tSeq (tIfS (tTest (tOp rIsU (tVar 5) (tC .non))) (tRet (tTup (tCons (tVar 1) (tCons (tVar 3) (tNil))))) (tNext)) (tAsg (tVar 5) (gName 1))))) (t_walked_p1 K)
abbrev n_left_by : List Str := ["core", "row", "text", "found", "many"]
def t_left_by (K : PySem.W.Frag) : TS :=
  tSeq (tAsg (tOwn (sp_walked K) (tCons (tVar 0) (tCons (tVar 1) (tCons (tVar 2) (tNil))))) (gTup K 2 (gCons (gName 3) (gCons (gName 4) (gNil))))) (tRet (tIf (tTest (tOp (rEqU K) (tVar 4) (tCB (cLen K) (tCons (tVar 2) (tNil))))) (tVar 3) (tC .non)))
abbrev n_both : List Str := ["core", "row", "text", "plain"]
def t_both (K : PySem.W.Frag) : TS :=
  tSeq (tAsg (tOwn (sp_need_row K) (tCons (tVar 0) (tCons (tVar 1) (tNil)))) (gName 3)) (tRet (tTup (tCons (tVar 3) (tCons (tOwn (sp_need_input K) (tCons (tVar 0) (tCons (tVar 2) (tCons (tC (.int 200)) (tNil))))) (tNil)))))
theorem given_off (n : Nat) (v : Nat → V) : given n (fun _ => false) v = [] := List.isEmpty_iff.mp ((given_empty (n := n) (f := fun _ => false) (v := v)).mpr fun _ _ => rfl)
theorem pure_is_over {K : PySem.W.Frag} (vs : List V) (H : Hp) (Q : VK) (E : XK) (h : sp_is_over K vs H Q E) : t_is_over K { nx := fun _ H' => Q .non H', rt := Q } (start n_is_over vs) H := by
  obtain ⟨A, t, mo, rfl, h1, h2, h3, q⟩ := h
  have sl : 100000 ≤ sizeLine := by decide
  unfold t_is_over
  walk_at "gw"
  refine isi_1 (.base (.str _)) (kit_ty (b := "str") (r := true) (by decide +kernel)) ?_
  walk_at "gw"
  refine w_iteT rfl ?_
  walk_at "gw"
  refine len_s (by omega) ?_
  walk_at "gw"
  refine w_iteT (decide_eq_true (by omega)) ?_
  walk_at "gw"
  refine lc_im walk_str (fun _ => false) (fun _ => .non) (by rw [size_cs, ← len_cs]; omega) (fun _ _ _ _ => True.intro) ?_ ?_
  · rintro i y H1 H2 KY KN hi s1 ⟨rfl, c, hc, rfl⟩ kY kN
    walk_at "gw"
    refine ⟨rfl, ?_⟩
    walk_at "gw"
    have hm : c ∈ A.cps.toList := h3 c (List.mem_of_getElem? (get_cps hc))
    rw [decide_eq_true hm]
    exact w_iteF rfl (kN rfl _ (Same.refl _))
  · intro D H1 hD s1 h5
    rw [given_off] at h5
    walk_at "gw"
    refine ⟨Nat.zero_le _, fun l hl => ?_⟩
    have s2 := same_new (o := .lst []) hl
    refine eq_D (.lst (sql_of (s2 _ _ h5)) .nil) (.lst (sql_of upd_same) .nil) ((sh_list (n := 0) fun d hd => by cases hd).ok (by decide)) ((sh_list (n := 0) fun d hd => by cases hd).ok (by decide)) ?_
    exact q _ fun b o e => s2 b o (s1 b o e)
theorem pure_need_core {K : PySem.W.Frag} (vs : List V) (H : Hp) (Q : VK) (E : XK) (h : sp_need_core K vs H Q E) : t_need_core K { nx := fun _ H' => Q .non H', rt := Q } (start n_need_core vs) H := by
  obtain ⟨x, S, m, W, F, rfl, c, q⟩ := h
  obtain ⟨CF, dx, fs, hx, _⟩ := c.c.al
  unfold t_need_core
  walk_at "gw"
  refine isi_own CF.c hx ?_
  walk_at "gw"
  refine w_iteF rfl ?_
  walk_at "gw"
  exact q _ (Same.refl _)
theorem pure_need_row {K : PySem.W.Frag} (vs : List V) (H : Hp) (Q : VK) (E : XK) (h : sp_need_row K vs H Q E) : t_need_row K { nx := fun _ H' => Q .non H', rt := Q } (start n_need_row vs) H := by
  obtain ⟨x, S, m, W, F, a, r, rfl, c, hs, hl, hk, q⟩ := h
  unfold t_need_row
  walk_at "gw"
  refine ⟨x, S, m, W, F, rfl, c, fun H1 s1 => ?_⟩
  walk_at "gw"
  refine ⟨x, a, m, r, rfl, (c.same s1).c.wd, sqa_same s1 hs, hl, hk, fun H2 s2 => ?_⟩
  walk_at "gw"
  refine w_iteF rfl ?_
  walk_at "gw"
  have s3 : Same H H2 := fun b o e => s2 b o (s1 b o e)
  rcases sqa_same s3 hs with hs | hs
  · exact tuple_l hs fun p hp => q p _ (fun b o e => same_new hp b o (s3 b o e)) (sqt_of upd_same)
  · exact tuple_t hs (q a _ s3 hs)
theorem pure_need_input {K : PySem.W.Frag} (vs : List V) (H : Hp) (Q : VK) (E : XK) (h : sp_need_input K vs H Q E) : t_need_input K { nx := fun _ H' => Q .non H', rt := Q } (start n_need_input vs) H := by
  obtain ⟨x, S, m, W, F, t, mo, rfl, c, h1, h2, h3, q⟩ := h
  unfold t_need_input
  walk_at "gw"
  refine FldAt.read c.c.al (by simp) ?_
  walk_at "gw"
  refine ⟨S, t, mo, rfl, h1, h2, h3, fun H1 s1 => ?_⟩
  walk_at "gw"
  refine w_iteF rfl ?_
  walk_at "gw"
  exact q _ s1
theorem pure_norm_by {K : PySem.W.Frag} (vs : List V) (H : Hp) (Q : VK) (E : XK) (h : sp_norm_by K vs H Q E) : t_norm_by K { nx := fun _ H' => Q .non H', rt := Q } (start n_norm_by vs) H := by
  obtain ⟨x, S, m, W, F, a, r, rfl, c, hs, hl, hk, q⟩ := h
  obtain ⟨l, fsh, hl1⟩ := c.c.sh
  unfold t_norm_by
  walk_at "gw"
  refine iseq_a rfl (.inr hs) fun J Gw wk hG => ?_
  rw [rI_len] at wk
  refine lc_im wk (fun _ => true) (fun j => .int ((F (r.getD j 0)).length : Nat)) (Nat.le_trans hl (by decide)) (fun _ H' _ e => hG H' (Same.rds e)) ?_ ?_
  · rintro j y H4 H5 KY KN hj s4 ⟨rfl, hx⟩ kY kN
    obtain ⟨z, hz, rfl⟩ := rI_get hx
    have e : r.getD j 0 = z := by rw [List.getD_eq_getElem?_getD, hz]; rfl
    have hm := hk z (List.mem_of_getElem? hz)
    walk_at "gw"
    refine ⟨rfl, ?_⟩
    walk_at "gw"
    refine w_iteT rfl ?_
    walk_at "gw"
    refine FldAt.read (fsh.same s4) (by simp) ?_
    walk_at "gw"
    refine ix_l (sql_of (s4 _ _ hl1)) (atI_nat (fl_get hm)) ?_
    have k2 := kY rfl _ (Same.refl _)
    rw [e] at k2
    exact k2
  · intro D H4 hD s4 h5
    rw [given_row (fun z => V.int ((F z).length : Nat))] at h5
    walk_at "gw"
    refine ⟨D, r.map fun z => (((F z).length : Nat) : Int), rfl, sql_of (h5.trans (by rw [List.map_map]; rfl)), ?_⟩
    rw [sum_cast]
    exact q _ s4
theorem sl_from1 {K : PySem.W.Frag} {H : Hp} {Q : VK} {a : Addr} {xs : List V} (hs : SqT K H a xs) (q : ∀ p H', Same H H' → SqT K H' p (xs.drop 1) → Q (.ref p) H') : rSlU K (.ref a) (some 1) none H Q := by
  refine .inr (.inr ⟨a, xs, rfl, l2t hs, fun z => ?_, fun _ p hp => ?_⟩)
  · cases xs with
    | nil => exact q a H (Same.refl _) hs
    | cons y r =>
      have h1 : HT.sIx (y :: r).length 0 (some ((1 : Nat) : Int)) = 0 := z.1
      rw [HT.sIx_nat] at h1
      simp at h1
  · refine q p _ (same_new hp) (sqt_of (upd_same.trans ?_))
    have e : cutV xs (some 1) none = xs.drop 1 := by
      show cutV xs (some ((1 : Nat) : Int)) none = _
      unfold cutV
      rw [HT.sIx_nat, HT.sIx_none]
      by_cases h : 1 ≤ xs.length
      · rw [Nat.min_eq_left h]
        exact List.take_of_length_le (by simp)
      · have : xs.length = 0 := by omega
        rw [List.length_eq_zero_iff.mp this]
        rfl
    rw [e]
theorem plus_t {K : PySem.W.Frag} {H : Hp} {Q : VK} {a b : Addr} {xs ys : List V} (ha : SqT K H a xs) (hb : SqT K H b ys) (hl : xs.length + ys.length ≤ sizeLine) (q : ∀ p H', Same H H' → SqT K H' p (xs ++ ys) → Q (.ref p) H') : rPlus K (.ref a) (.ref b) H Q := by
  refine .inr (.inr (.inr ⟨a, b, xs, ys, rfl, rfl, l2t ha, l2t hb, hl, fun e => ?_, fun _ e => ?_, fun _ _ p hp => q p _ (same_new hp) (sqt_of upd_same)⟩))
  · subst e
    exact q b H (Same.refl _) hb
  · subst e
    exact q a H (Same.refl _) (by rw [List.append_nil]; exact ha)
theorem rI_app {a b : List Nat} : rI (a ++ b) = rI a ++ rI b := by simp [rI]
theorem pure_behind {K : PySem.W.Frag} (vs : List V) (H : Hp) (Q : VK) (E : XK) (h : sp_behind K vs H Q E) : t_behind K { nx := fun _ H' => Q .non H', rt := Q } (start n_behind vs) H := by
  obtain ⟨x, S, m, W, F, a, r, s, rfl, c, hs, hl, hk, q⟩ := h
  have sl : 200000 ≤ sizeLine := by decide
  obtain ⟨d, kvs, V', fro, hd, lkv, wr, nv, mem⟩ := c.c.ro
  unfold t_behind
  walk_at "gw"
  cases r with
  | nil =>
    refine w_iteF rfl ?_
    walk_at "gw"
    refine w_iteT rfl ?_
    walk_at "gw"
    exact q _ _ (Same.refl _) rfl
  | cons k r =>
    refine w_iteT rfl ?_
    walk_at "gw"
    refine FldAt.read fro (by simp) ?_
    refine ⟨d, rfl, .inr ⟨kvs, .inl hd⟩, ?_⟩
    walk_at "gw"
    refine ix_t (v := .int (k : Nat)) hs (show atI (rI (k :: r)) ((0 : Nat) : Int) = some (.int (k : Nat)) from atI_nat rfl) ?_
    walk_at "gw"
    refine ⟨by show 2 ≤ sizeLine; omega, fun p hp => ?_⟩
    have s1 := same_new (o := .tup [V.int (k : Nat), .str (sgS s)]) hp
    walk_at "gw"
    have hp1 : upd H p (.tup [V.int (k : Nat), .str (sgS s)]) p = some (.tup ((kOf (k, s)).map kV)) := upd_same
    generalize upd H p (.tup [V.int (k : Nat), .str (sgS s)]) = H1 at s1 hp1
    refine ⟨_, .inr ⟨kvs, kOf (k, s), p, .inl (s1 _ _ hd), rfl, hp1, rfl⟩, ?_⟩
    have lk := look_congr nv c.w.nd mem (k, s)
    rcases wr.val (k, s) with ⟨h1, h2⟩ | ⟨r1, v, h1, h2, a1, rfl, ha1⟩
    · rw [h2]
      rw [lk] at h1
      walk_at "gw"
      refine w_iteT rfl ?_
      walk_at "gw"
      refine q _ _ s1 ?_
      show RowO K _ .non ((look W (k, s)).map (· ++ r))
      rw [h1]
      rfl
    · rw [h2]
      rw [lk] at h1
      have lr1 : r1.length ≤ 60 := (c.w.ok _ (look_mem h1)).2.2.1
      walk_at "gw"
      refine w_iteF rfl ?_
      walk_at "gw"
      refine sl_from1 (sqt_same s1 hs) fun p2 H2 s2 h3 => ?_
      have e1 : (rI (k :: r)).drop 1 = rI r := rfl
      rw [e1] at h3
      simp only [List.length_cons] at hl
      refine plus_t (sqt_same s2 (sqt_same s1 ha1)) h3 (by rw [rI_len, rI_len]; omega) fun p3 H3 s3 h4 => ?_
      refine q _ _ (fun b o e => s3 b o (s2 b o (s1 b o e))) ?_
      show RowO K _ _ ((look W (k, s)).map (· ++ r))
      rw [h1]
      exact ⟨p3, rfl, by rw [← rI_app] at h4; exact h4⟩
theorem pure_walked {K : PySem.W.Frag} (vs : List V) (H : Hp) (Q : VK) (E : XK) (h : sp_walked K vs H Q E) : t_walked K { nx := fun _ H' => Q .non H', rt := Q } (start n_walked vs) H := by
  obtain ⟨x, S, m, W, F, a, r, t, rfl, c, hs, hl, hk, q⟩ := h
  have sl : 200000 ≤ sizeLine := by decide
  have okW : ∀ w ∈ W, w.2.length ≤ 60 ∧ ∀ k ∈ w.2, k < m := fun w hw => (c.w.ok w hw).2.2
  unfold t_walked
  walk_at "gw"
  refine for_it walk_enumS (fun i σ H' => ∃ a' o3 o4 o5 r', σ = [some (.ref x), some (.ref a'), some (.str t), o3, o4, o5] ∧ Same H H' ∧ SqT K H' a' (rI r') ∧ rdt W r ((cs t).take i) = some r' ∧ InC m r' ∧ r'.length ≤ r.length + 60 * i) ⟨a, none, none, none, r, rfl, Same.refl _, hs, rfl, hk, by omega⟩ (fun _ _ _ _ _ => True.intro) ?_ ?_
  · rintro i y σ H1 H2 hi ⟨a', o3, o4, o5, r', rfl, s1, ha, hr, hk', hl'⟩ ⟨T, ch, rfl, hT, rfl, hch⟩
    have hi2 : i < t.length := by rw [len_cs, ← size_cs]; exact hi
    have hch2 : (cs t)[i]? = some ch := get_cps hch
    have s2 := same_new (o := .tup [V.int (i : Nat), .str ⟨#[ch]⟩]) hT
    refine w_gtup (sqt_of upd_same) rfl ?_
    walk_at "gw"
    refine ⟨x, S, m, W, F, a', r', ch, rfl, (c.same s1).same s2, sqt_same s2 ha, by omega, hk', fun v H3 s3 hv => ?_⟩
    have s13 : Same H H3 := fun b o e => s3 b o (s2 b o (s1 b o e))
    cases eb : bhd W r' ch with
    | none =>
      rw [eb] at hv
      cases (show v = .non from hv)
      walk_at "gw"
      refine w_iteT rfl ?_
      walk_at "gw"
      refine ⟨by show 2 ≤ sizeLine; omega, fun p hp => ?_⟩
      have ew := wk_stop hch2 hr eb
      have s4 := same_new (o := .tup [V.ref a', .int (i : Nat)]) hp
      refine q p (.ref a') _ (fun b o e => s4 b o (s13 b o e)) ?_ ?_
      · rw [ew]; exact upd_same
      · rw [ew]; exact ⟨a', rfl, sqt_same s4 (sqt_same s3 (sqt_same s2 ha))⟩
    | some r1 =>
      rw [eb] at hv
      obtain ⟨a1, rfl, h1⟩ := hv
      obtain ⟨b1, b2⟩ := bhd_ok okW eb hk'
      walk_at "gw"
      refine w_iteF rfl ?_
      walk_at "gw"
      refine ⟨a1, _, _, _, r1, rfl, s13, h1, ?_, b1, by omega⟩
      rw [List.take_add_one, hch2]
      show rdt W r ((cs t).take i ++ [ch]) = _
      rw [rdt_snoc hr, eb]
  · rintro σ H1 ⟨a', o3, o4, o5, r', rfl, s1, ha, hr, hk', hl'⟩
    rw [size_cs, List.take_length] at hr
    unfold t_walked_p1
    walk_at "gw"
    refine len_s (by omega) ?_
    walk_at "gw"
    refine ⟨by show 2 ≤ sizeLine; omega, fun p hp => ?_⟩
    have ew := wk_all hr
    have s4 := same_new (o := .tup [V.ref a', .int (t.length : Nat)]) hp
    refine q p (.ref a') _ (fun b o e => s4 b o (s1 b o e)) ?_ ?_
    · rw [ew, ← len_cs]; exact upd_same
    · rw [ew]; exact ⟨a', rfl, sqt_same s4 ha⟩
theorem pure_left_by {K : PySem.W.Frag} (vs : List V) (H : Hp) (Q : VK) (E : XK) (h : sp_left_by K vs H Q E) : t_left_by K { nx := fun _ H' => Q .non H', rt := Q } (start n_left_by vs) H := by
  obtain ⟨x, S, m, W, F, a, r, t, rfl, c, hs, hl, hk, q⟩ := h
  have sl : 200000 ≤ sizeLine := by decide
  unfold t_left_by
  walk_at "gw"
  refine ⟨x, S, m, W, F, a, r, t, rfl, c, hs, hl, hk, fun p v H1 s1 h1 h2 => ?_⟩
  refine w_gtup (sqt_of h1) rfl ?_
  walk_at "gw"
  refine len_s (by omega) ?_
  walk_at "gw"
  rw [len_cs]
  refine w_ite (fun e => ?_) (fun e => ?_)
  · have e1 := of_decide_eq_true e
    walk_at "gw"
    refine q _ _ s1 ?_
    rw [wk_full (W := W) (t := cs t) (r := r) (by omega)]
    exact h2
  · have e1 := of_decide_eq_false e
    walk_at "gw"
    refine q _ _ s1 ?_
    rw [rdt_wk, if_neg (by omega)]
    rfl
theorem pure_both {K : PySem.W.Frag} (vs : List V) (H : Hp) (Q : VK) (E : XK) (h : sp_both K vs H Q E) : t_both K { nx := fun _ H' => Q .non H', rt := Q } (start n_both vs) H := by
  obtain ⟨x, S, m, W, F, a, r, t, rfl, c, hs, hl, hk, h1, h2, q⟩ := h
  unfold t_both
  walk_at "gw"
  refine ⟨x, S, m, W, F, a, r, rfl, c, hs, hl, hk, fun p H1 s1 hp => ?_⟩
  walk_at "gw"
  refine ⟨x, S, m, W, F, t, 200, rfl, c.same s1, h1, by omega, h2, fun H2 s2 => ?_⟩
  walk_at "gw"
  refine ⟨by show 2 ≤ sizeLine; decide, fun p2 hp2 => ?_⟩
  have s3 := same_new (o := .tup [V.ref p, .str t]) hp2
  exact q p2 p _ (fun b o e => s3 b o (s2 b o (s1 b o e))) upd_same (sqt_same s3 (sqt_same s2 hp))
end Pt.Re
namespace Pt.Re
/-! ### what is told of a row behind a text -/
structure Arg (K : PySem.W.Frag) (H : Hp) (x : Addr) (S : Str) (m : Nat) (W : Wys) (F : Nat → List Nat) (a : Addr) (r : List Nat) (t : Str) : Prop where
  c : CW K H x S m W F
  a : SqA K H a (rI r)
  l : r.length ≤ 60
  k : InC m r
  s : ∀ c ∈ cs t, c ∈ cs S
  t200 : t.length ≤ 200
def oD : Option (List Nat) → PyData
  | none => .none
  | some r => .tuple (r.map fun k => .int (k : Nat))
theorem dp_rI {K : PySem.W.Frag} {H : Hp} : ∀ r : List Nat, DpAll K H (rI r) (r.map fun k => PyData.int (k : Nat))
  | [] => .nil
  | k :: r => .cons (.int _) (dp_rI r)
theorem dp_rowO {K : PySem.W.Frag} {H : Hp} {v : V} : ∀ {o : Option (List Nat)}, RowO K H v o → Dp K H v (oD o)
  | none, h => by cases (show v = .non from h); exact .non
  | some r, ⟨a, e, h⟩ => by subst e; exact .tup (l2t h) (dp_rI r)
theorem oD_sh (o : Option (List Nat)) : SeqAt.shaped (oD o) = true := by
  cases o with
  | none => exact sh_none.ok (Nat.zero_le _)
  | some r => exact (sh_tup (n := 0) fun d hd => by obtain ⟨k, _, rfl⟩ := List.mem_map.mp hd; exact sh_int).ok (by decide)
theorem oD_nil (o : Option (List Nat)) : PyData.eqv (oD o) (.tuple []) = decide (o = some []) := by
  cases o with
  | none => rfl
  | some r => cases r with
    | nil => rfl
    | cons k r => rfl
theorem eq_nilT {K : PySem.W.Frag} {H : Hp} {Q : VK} {v : V} {o : Option (List Nat)} {p : Addr} (h : RowO K H v o) (hp : H p = some (.tup [])) (q : Q (.bl (decide (o = some []))) H) : rEqU K v (.ref p) H Q := by
  refine eq_D (dp_rowO h) (.tup (l2t hp) .nil) (oD_sh o) ((sh_tup (n := 0) fun d hd => by cases hd).ok (by decide)) ?_
  rw [oD_nil]
  exact q
def sp_after (K : PySem.W.Frag) : Sp := fun vs H Q _ => ∃ x S m W F a r t, vs = [.ref x, .ref a, .str t] ∧ Arg K H x S m W F a r t ∧
  (rdt W r (cs t) = none → ∀ H', Same H H' → Q .non H') ∧ ∀ r', rdt W r (cs t) = some r' → ∀ l H', Same H H' → H l = none → H' l = some (.lst (rI r')) → Q (.ref l) H'
def sp_is_whole (K : PySem.W.Frag) : Sp := fun vs H Q _ => ∃ x S m W F a r, ∃ (t : Str), vs = [.ref x, .ref a, .str t] ∧ CW K H x S m W F ∧ SqT K H a (rI r) ∧ r.length + 60 * t.length ≤ 100000 ∧ InC m r ∧ ∀ H', Same H H' → Q (.bl (decide (rdt W r (cs t) = some []))) H'
def sp_is_text (K : PySem.W.Frag) : Sp := fun vs H Q _ => ∃ x S m W F a r t, vs = [.ref x, .ref a, .str t] ∧ Arg K H x S m W F a r t ∧ ∀ H', Same H H' → Q (.bl (decide (rdt W r (cs t) = some []))) H'
def sp_first_wrong (K : PySem.W.Frag) : Sp := fun vs H Q _ => ∃ x S m W F a r t, vs = [.ref x, .ref a, .str t] ∧ Arg K H x S m W F a r t ∧ ∀ H', Same H H' → Q (if rdt W r (cs t) = some [] then .non else .int ((wk W r (cs t)).2 : Nat)) H'
def sp_may_come (K : PySem.W.Frag) : Sp := fun vs H Q _ => ∃ x S m W F a r t, vs = [.ref x, .ref a, .str t] ∧ Arg K H x S m W F a r t ∧
  ∀ H', Same H H' → Q (match rdt W r (cs t) with | none => .non | some r' => .str (mkS ((cs S).filter fun s => (bhd W r' s).isSome))) H'
abbrev n_after : List Str := ["core", "row", "text", "plain", "signs", "found"]
def t_after (K : PySem.W.Frag) : TS :=
  tSeq (tAsg (tOwn (sp_both K) (tCons (tVar 0) (tCons (tVar 1) (tCons (tVar 2) (tNil))))) (gTup K 2 (gCons (gName 3) (gCons (gName 4) (gNil))))) (tSeq (tAsg (tOwn (sp_left_by K) (tCons (tVar 0) (tCons (tVar 3) (tCons (tVar 4) (tNil))))) (gName 5)) (tRet (tIf (tTest (tOp rIsU (tVar 5) (tC .non))) (tC .non) (tCB (cList K) (tCons (tVar 5) (tNil))))))
abbrev n_is_whole : List Str := ["core", "row", "text"]
def t_is_whole (K : PySem.W.Frag) : TS :=
  tRet (tOp (rEqU K) (tOwn (sp_left_by K) (tCons (tVar 0) (tCons (tVar 1) (tCons (tVar 2) (tNil))))) (tTup (tNil)))
abbrev n_is_text : List Str := ["core", "row", "text", "plain", "signs"]
def t_is_text (K : PySem.W.Frag) : TS :=
  tSeq (tAsg (tOwn (sp_both K) (tCons (tVar 0) (tCons (tVar 1) (tCons (tVar 2) (tNil))))) (gTup K 2 (gCons (gName 3) (gCons (gName 4) (gNil))))) (tRet (tOwn (sp_is_whole K) (tCons (tVar 0) (tCons (tVar 3) (tCons (tVar 4) (tNil))))))
abbrev n_first_wrong : List Str := ["core", "row", "text", "plain", "signs", "found", "many"]
def t_first_wrong (K : PySem.W.Frag) : TS :=
  tSeq (tAsg (tOwn (sp_both K) (tCons (tVar 0) (tCons (tVar 1) (tCons (tVar 2) (tNil))))) (gTup K 2 (gCons (gName 3) (gCons (gName 4) (gNil))))) (tSeq (tAsg (tOwn (sp_walked K) (tCons (tVar 0) (tCons (tVar 3) (tCons (tVar 4) (tNil))))) (gTup K 2 (gCons (gName 5) (gCons (gName 6) (gNil))))) (tRet (tIf (tAnd (tTest (tOp (rEqU K) (tVar 6) (tCB (cLen K) (tCons (tVar 4) (tNil))))) (tTest (tOp (rEqU K) (tVar 5) (tTup (tNil))))) (tC .non) (tVar 6))))
abbrev n_may_come : List Str := ["core", "row", "text", "plain", "signs", "found", "sign"]
def t_may_come (K : PySem.W.Frag) : TS :=
  tSeq (tAsg (tOwn (sp_both K) (tCons (tVar 0) (tCons (tVar 1) (tCons (tVar 2) (tNil))))) (gTup K 2 (gCons (gName 3) (gCons (gName 4) (gNil))))) (tSeq (tAsg (tOwn (sp_left_by K) (tCons (tVar 0) (tCons (tVar 3) (tCons (tVar 4) (tNil))))) (gName 5)) (tSeq (tIfS (tTest (tOp rIsU (tVar 5) (tC .non))) (tRet (tC .non)) (tNext)) (tRet (tM1 (mJoin K) (tC (.str "")) (tLc (iStr (tFld K (tVar 0) "alphabet")) (gName 6) (tTest (tOp rIsNotU (tOwn (sp_behind K) (tCons (tVar 0) (tCons (tVar 5) (tCons (tVar 6) (tNil))))) (tC .non))) (tVar 6) [6])))))
theorem rdt_ok {m : Nat} {W : Wys} (ok : ∀ w ∈ W, w.2.length ≤ 60 ∧ ∀ k ∈ w.2, k < m) : ∀ {t r r' : List Nat}, rdt W r t = some r' → InC m r → InC m r' ∧ r'.length ≤ r.length + 60 * t.length
  | [], r, r', h, hr => by cases h; exact ⟨hr, by omega⟩
  | s :: t, r, r', h, hr => by
    have h2 : (bhd W r s).bind (fun r => rdt W r t) = some r' := h
    cases e : bhd W r s with
    | none => rw [e] at h2; cases h2
    | some r1 =>
      rw [e] at h2
      obtain ⟨b1, b2⟩ := bhd_ok ok e hr
      obtain ⟨c1, c2⟩ := rdt_ok ok (t := t) h2 b1
      exact ⟨c1, by rw [List.length_cons]; omega⟩
theorem pure_after {K : PySem.W.Frag} (vs : List V) (H : Hp) (Q : VK) (E : XK) (h : sp_after K vs H Q E) : t_after K { nx := fun _ H' => Q .non H', rt := Q } (start n_after vs) H := by
  obtain ⟨x, S, m, W, F, a, r, t, rfl, g, q1, q2⟩ := h
  unfold t_after
  walk_at "gw"
  refine ⟨x, S, m, W, F, a, r, t, rfl, g.c, g.a, g.l, g.k, g.t200, g.s, fun p a' H1 s1 hp ha => ?_⟩
  refine w_gtup (sqt_of hp) rfl ?_
  walk_at "gw"
  have g1 := g.l
  have g2 := g.t200
  refine ⟨x, S, m, W, F, a', r, t, rfl, g.c.same s1, ha, by omega, g.k, fun v H2 s2 hv => ?_⟩
  have s12 : Same H H2 := fun b o e => s2 b o (s1 b o e)
  cases e : rdt W r (cs t) with
  | none =>
    rw [e] at hv
    cases (show v = .non from hv)
    walk_at "gw"
    refine w_iteT rfl ?_
    walk_at "gw"
    exact q1 e _ s12
  | some r' =>
    rw [e] at hv
    obtain ⟨a2, rfl, h2⟩ := hv
    walk_at "gw"
    refine w_iteF rfl ?_
    walk_at "gw"
    refine list_s (.inr h2) fun l hl => ?_
    exact q2 r' e l _ (fun b o e => same_new hl b o (s12 b o e)) (same_free s12 hl) upd_same
theorem pure_is_whole {K : PySem.W.Frag} (vs : List V) (H : Hp) (Q : VK) (E : XK) (h : sp_is_whole K vs H Q E) : t_is_whole K { nx := fun _ H' => Q .non H', rt := Q } (start n_is_whole vs) H := by
  obtain ⟨x, S, m, W, F, a, r, t, rfl, c, hs, hl, hk, q⟩ := h
  unfold t_is_whole
  walk_at "gw"
  refine ⟨x, S, m, W, F, a, r, t, rfl, c, hs, hl, hk, fun v H1 s1 hv => ?_⟩
  walk_at "gw"
  refine ⟨Nat.zero_le _, fun p hp => ?_⟩
  have s2 := same_new (o := .tup []) hp
  exact eq_nilT (hv.same s2) upd_same (q _ fun b o e => s2 b o (s1 b o e))
theorem pure_is_text {K : PySem.W.Frag} (vs : List V) (H : Hp) (Q : VK) (E : XK) (h : sp_is_text K vs H Q E) : t_is_text K { nx := fun _ H' => Q .non H', rt := Q } (start n_is_text vs) H := by
  obtain ⟨x, S, m, W, F, a, r, t, rfl, g, q⟩ := h
  unfold t_is_text
  walk_at "gw"
  refine ⟨x, S, m, W, F, a, r, t, rfl, g.c, g.a, g.l, g.k, g.t200, g.s, fun p a' H1 s1 hp ha => ?_⟩
  refine w_gtup (sqt_of hp) rfl ?_
  walk_at "gw"
  have g1 := g.l
  have g2 := g.t200
  exact ⟨x, S, m, W, F, a', r, t, rfl, g.c.same s1, ha, by omega, g.k, fun H2 s2 => q _ fun b o e => s2 b o (s1 b o e)⟩
theorem pure_first_wrong {K : PySem.W.Frag} (vs : List V) (H : Hp) (Q : VK) (E : XK) (h : sp_first_wrong K vs H Q E) : t_first_wrong K { nx := fun _ H' => Q .non H', rt := Q } (start n_first_wrong vs) H := by
  obtain ⟨x, S, m, W, F, a, r, t, rfl, g, q⟩ := h
  have sl : 100000 ≤ sizeLine := by decide
  unfold t_first_wrong
  walk_at "gw"
  refine ⟨x, S, m, W, F, a, r, t, rfl, g.c, g.a, g.l, g.k, g.t200, g.s, fun p a' H1 s1 hp ha => ?_⟩
  refine w_gtup (sqt_of hp) rfl ?_
  walk_at "gw"
  have g1 := g.l
  have g2 := g.t200
  refine ⟨x, S, m, W, F, a', r, t, rfl, g.c.same s1, ha, by omega, g.k, fun p2 v H2 s2 h1 h2 => ?_⟩
  refine w_gtup (sqt_of h1) rfl ?_
  walk_at "gw"
  refine len_s (by omega) ?_
  walk_at "gw"
  have s12 : Same H H2 := fun b o e => s2 b o (s1 b o e)
  have fin := q H2 s12
  rw [rdt_wk] at q
  rw [len_cs]
  refine w_ite (fun e => ?_) (fun e => ?_)
  · have e1 : (wk W r (cs t)).2 = (cs t).length := by have := of_decide_eq_true e; omega
    rw [if_pos e1] at q
    walk_at "gw"
    refine ⟨Nat.zero_le _, fun p3 hp3 => ?_⟩
    have s3 := same_new (o := .tup []) hp3
    refine eq_nilT (o := some (wk W r (cs t)).1) (RowT.same s3 h2) upd_same ?_
    have q3 := q _ (fun b o e => s3 b o (s12 b o e))
    walk_at "gw"
    refine w_ite (fun e => ?_) (fun e => ?_)
    · rw [if_pos (of_decide_eq_true e)] at q3
      walk_at "gw"
      exact q3
    · rw [if_neg (of_decide_eq_false e)] at q3
      walk_at "gw"
      exact q3
  · have e1 : ¬ (wk W r (cs t)).2 = (cs t).length := by have := of_decide_eq_false e; omega
    rw [if_neg e1] at q
    have q3 := q _ s12
    rw [if_neg (by simp)] at q3
    refine w_iteF rfl ?_
    walk_at "gw"
    exact q3
theorem given_fil {l : List Nat} (p : Nat → Bool) (u : Nat → V) : given l.length (fun i => p (l.getD i 0)) (fun i => u (l.getD i 0)) = (l.filter p).map u := by
  unfold given
  have e : (List.range l.length).map (fun i => l.getD i 0) = l := by
    apply List.ext_getElem?
    intro i
    rw [List.getElem?_map]
    by_cases h : i < l.length
    · rw [List.getElem?_range h, List.getElem?_eq_getElem h]
      simp [h]
    · rw [List.getElem?_eq_none (by simpa using h), List.getElem?_eq_none (by omega)]
      rfl
  conv => rhs; rw [← e]
  rw [List.filter_map, List.map_map]
  rfl
theorem pure_may_come {K : PySem.W.Frag} (vs : List V) (H : Hp) (Q : VK) (E : XK) (h : sp_may_come K vs H Q E) : t_may_come K { nx := fun _ H' => Q .non H', rt := Q } (start n_may_come vs) H := by
  obtain ⟨x, S, m, W, F, a, r, t, rfl, g, q⟩ := h
  unfold t_may_come
  walk_at "gw"
  refine ⟨x, S, m, W, F, a, r, t, rfl, g.c, g.a, g.l, g.k, g.t200, g.s, fun p a' H1 s1 hp ha => ?_⟩
  refine w_gtup (sqt_of hp) rfl ?_
  walk_at "gw"
  have g1 := g.l
  have g2 := g.t200
  have okW : ∀ w ∈ W, w.2.length ≤ 60 ∧ ∀ k ∈ w.2, k < m := fun w hw => (g.c.w.ok w hw).2.2
  refine ⟨x, S, m, W, F, a', r, t, rfl, g.c.same s1, ha, by omega, g.k, fun v H2 s2 hv => ?_⟩
  have s12 : Same H H2 := fun b o e => s2 b o (s1 b o e)
  cases e : rdt W r (cs t) with
  | none =>
    rw [e] at hv q
    cases (show v = .non from hv)
    walk_at "gw"
    refine w_iteT rfl ?_
    walk_at "gw"
    exact q _ s12
  | some r' =>
    rw [e] at hv q
    obtain ⟨a2, rfl, h2⟩ := hv
    obtain ⟨c1, c2⟩ := rdt_ok okW e g.k
    rw [← len_cs] at c2
    walk_at "gw"
    refine w_iteF rfl ?_
    walk_at "gw"
    refine FldAt.read (g.c.same s12).c.al (by simp) ?_
    walk_at "gw"
    have ls : (cs S).length ≤ 6 := by have := g.c.w.len; rw [size_cs] at this; exact this
    refine lc_im walk_str (fun i => (bhd W r' ((cs S).getD i 0)).isSome) (fun i => sg ((cs S).getD i 0)) (by rw [size_cs]; exact Nat.le_trans ls (by decide)) (fun _ _ _ _ => True.intro) ?_ ?_
    · rintro i y H3 H4 KY KN hi s3 ⟨rfl, ch, hc, rfl⟩ kY kN
      have hch := get_cps hc
      have ec : (cs S).getD i 0 = ch := by rw [List.getD_eq_getElem?_getD, hch]; rfl
      rw [ec] at kY kN
      walk_at "gw"
      refine ⟨rfl, ?_⟩
      walk_at "gw"
      refine ⟨x, S, m, W, F, a2, r', ch, rfl, (g.c.same s12).same s3, sqt_same s3 h2, by omega, c1, fun v H5 s5 hv => ?_⟩
      cases eb : bhd W r' ch with
      | none =>
        rw [eb] at hv kN
        cases (show v = .non from hv)
        walk_at "gw"
        refine w_iteF rfl ?_
        exact kN rfl _ s5
      | some r1 =>
        rw [eb] at hv kY
        obtain ⟨a3, rfl, h3⟩ := hv
        walk_at "gw"
        refine w_iteT rfl ?_
        walk_at "gw"
        exact kY rfl _ s5
    · intro D H3 hD s3 h5
      rw [size_cs, given_fil (fun s => (bhd W r' s).isSome) sg] at h5
      refine join_q h5 (by have := List.length_filter_le (fun s => (bhd W r' s).isSome) (cs S); omega) ?_
      exact q _ fun b o e => s3 b o (s12 b o e)
end Pt.Re
namespace Pt.Re
/-! ### first_by -/
def sp_first_by (K : PySem.W.Frag) : Sp := fun vs H Q _ => ∃ x S m W F a r, vs = [.ref x, .ref a] ∧ CW K H x S m W F ∧ SqT K H a (rI r) ∧ r.length ≤ 20000 ∧ InC m r ∧ ∀ H', Same H H' → Q (.str (mkS (cat F r))) H'
def sp_least_end (K : PySem.W.Frag) : Sp := fun vs H Q _ => ∃ x S m W F a r t, vs = [.ref x, .ref a, .str t] ∧ Arg K H x S m W F a r t ∧
  ∀ H', Same H H' → Q (match rdt W r (cs t) with | none => .non | some r' => .str (mkS (cat F r'))) H'
abbrev n_first_by : List Str := ["core", "row", "text", "left", "kind", "sign", "way"]
def t_first_by_p1 (K : PySem.W.Frag) : TS :=
  tRet (tVar 2)
def t_first_by (K : PySem.W.Frag) : TS :=
  tSeq (tPar 2 3 (tCons (tC (.str "")) (tCons (tRev K (tCB (cList K) (tCons (tVar 1) (tNil)))) (tNil)))) (tSeq (tWhile (tTru K (tVar 3)) (tSeq (tAsg (tBM0 K "list" rPop (tVar 3)) (gName 4)) (tFor (iStr (tFld K (tVar 0) "alphabet")) (gName 5) (tSeq (tAsg (tDGet2 (tFld K (tVar 0) "rows") (tTup (tCons (tVar 4) (tCons (tVar 5) (tNil)))) (tC .non)) (gName 6)) (tIfS (tAnd (tTest (tOp rIsNotU (tVar 6) (tC .non))) (tTest (tOp (rEqU K) (tOp (rPlus K) (tC (.int 1)) (tOwn (sp_norm_by K) (tCons (tVar 0) (tCons (tVar 6) (tNil))))) (tOp (rIxU K) (tFld K (tVar 0) "shortest") (tVar 4))))) (tSeq (tAsg (tOp (rPlus K) (tVar 2) (tVar 5)) (gName 2)) (tSeq (tDrop (tBM K "list" (rExtU K) (tVar 3) (tCons (tRev K (tVar 6)) (tNil)))) (tBreak))) (tNext)))))) (t_first_by_p1 K))
abbrev n_least_end : List Str := ["core", "row", "text", "plain", "signs", "found"]
def t_least_end (K : PySem.W.Frag) : TS :=
  tSeq (tAsg (tOwn (sp_both K) (tCons (tVar 0) (tCons (tVar 1) (tCons (tVar 2) (tNil))))) (gTup K 2 (gCons (gName 3) (gCons (gName 4) (gNil))))) (tSeq (tAsg (tOwn (sp_left_by K) (tCons (tVar 0) (tCons (tVar 3) (tCons (tVar 4) (tNil))))) (gName 5)) (tRet (tIf (tTest (tOp rIsU (tVar 5) (tC .non))) (tC .non) (tOwn (sp_first_by K) (tCons (tVar 0) (tCons (tVar 5) (tNil)))))))
theorem pure_least_end {K : PySem.W.Frag} (vs : List V) (H : Hp) (Q : VK) (E : XK) (h : sp_least_end K vs H Q E) : t_least_end K { nx := fun _ H' => Q .non H', rt := Q } (start n_least_end vs) H := by
  obtain ⟨x, S, m, W, F, a, r, t, rfl, g, q⟩ := h
  unfold t_least_end
  walk_at "gw"
  refine ⟨x, S, m, W, F, a, r, t, rfl, g.c, g.a, g.l, g.k, g.t200, g.s, fun p a' H1 s1 hp ha => ?_⟩
  refine w_gtup (sqt_of hp) rfl ?_
  walk_at "gw"
  have g1 := g.l
  have g2 := g.t200
  have okW : ∀ w ∈ W, w.2.length ≤ 60 ∧ ∀ k ∈ w.2, k < m := fun w hw => (g.c.w.ok w hw).2.2
  refine ⟨x, S, m, W, F, a', r, t, rfl, g.c.same s1, ha, by omega, g.k, fun v H2 s2 hv => ?_⟩
  have s12 : Same H H2 := fun b o e => s2 b o (s1 b o e)
  cases e : rdt W r (cs t) with
  | none =>
    rw [e] at hv q
    cases (show v = .non from hv)
    walk_at "gw"
    refine w_iteT rfl ?_
    walk_at "gw"
    exact q _ s12
  | some r' =>
    rw [e] at hv q
    obtain ⟨a2, rfl, h2⟩ := hv
    obtain ⟨c1, c2⟩ := rdt_ok okW e g.k
    rw [← len_cs] at c2
    walk_at "gw"
    refine w_iteF rfl ?_
    walk_at "gw"
    exact ⟨x, S, m, W, F, a2, r', rfl, g.c.same s12, h2, by omega, c1, fun H3 s3 => q _ fun b o e => s3 b o (s12 b o e)⟩
theorem rI_rev (r : List Nat) : (rI r).reverse = rI r.reverse := by simp [rI]
theorem sumN_bd {N : Nat → Nat} {B : Nat} : ∀ {r : List Nat}, (∀ k ∈ r, N k ≤ B) → sumN N r ≤ B * r.length
  | [], _ => by simp [sumN]
  | k :: r, h => by
    have h1 := sumN_bd (r := r) fun j hj => h j (by simp [hj])
    have h2 := h k (by simp)
    simp only [sumN, List.map_cons, List.sum_cons, List.length_cons] at h1 ⊢
    rw [Nat.mul_succ]
    omega
theorem w_revL {K : PySem.W.Frag} {te : TE} {σ : L2.St} {H : Hp} {Q : VK} (h : te σ H fun x H1 => ∃ a xs, x = .ref a ∧ SqL K H1 a xs ∧ ∀ p, H1 p = none → Q (.ref p) (upd H1 p (.lst xs.reverse))) : tRev K te σ H Q := .inl h
theorem w_revT {K : PySem.W.Frag} {te : TE} {σ : L2.St} {H : Hp} {Q : VK} (h : te σ H fun x H1 => ∃ a xs, x = .ref a ∧ L2.SqT K H1 a xs ∧ ∀ p, H1 p = none → Q (.ref p) (upd H1 p (.tup xs.reverse))) : tRev K te σ H Q := .inr h
theorem same_updN {H H' : Hp} {l : Addr} {o : HO} (hl : H l = none) (e : Same H H') : Same H (upd H' l o) := fun b u h => by
  rw [upd_ne (ne_of_none h hl)]
  exact e b u h
theorem len_cat {F : Nat → List Nat} : ∀ {r : List Nat}, (∀ k ∈ r, 0 < (F k).length) → r.length ≤ (cat F r).length
  | [], _ => Nat.le_refl _
  | k :: r, h => by
    have h1 := len_cat (r := r) fun j hj => h j (by simp [hj])
    have h2 := h k (by simp)
    rw [cat_cons, List.length_append, List.length_cons]
    omega
/-- ahead of a look at left -/
def FbW (H : Hp) (x a l : Addr) (m : Nat) (F : Nat → List Nat) (r : List Nat) (k : Nat) (σ : L2.St) (H' : Hp) : Prop :=
  ∃ (o4 o5 o6 : Option V) (done rest : List Nat), σ = [some (.ref x), some (.ref a), some (.str (mkS done)), some (.ref l), o4, o5, o6] ∧ Same H H' ∧ H' l = some (.lst (rI rest.reverse)) ∧ InC m rest ∧ done ++ cat F rest = cat F r ∧ k = (cat F rest).length
theorem pure_first_by {K : PySem.W.Frag} (vs : List V) (H : Hp) (Q : VK) (E : XK) (h : sp_first_by K vs H Q E) : t_first_by K { nx := fun _ H' => Q .non H', rt := Q } (start n_first_by vs) H := by
  obtain ⟨x, S, m, W, F, a, r, rfl, c, hs, hl, hk, q⟩ := h
  have sl : 6000000 ≤ sizeLine := by decide
  have bd : (cat F r).length ≤ 4000000 := by
    rw [cat_len]
    have := sumN_bd (N := fun k => (F k).length) (B := 200) (r := r) fun k hk' => c.w.sz k (hk k hk')
    omega
  obtain ⟨d, kvs, V', fro, hd, lkv, wr, nv, mem⟩ := c.c.ro
  obtain ⟨lsh, fsh, hsh⟩ := c.c.sh
  unfold t_first_by
  walk_at "gw"
  refine w_revL ?_
  walk_at "gw"
  refine list_s (.inr hs) fun l0 hl0 => ?_
  refine ⟨l0, _, rfl, sql_of upd_same, fun l hl1 => ?_⟩
  have s0 := same_new (o := .lst (rI r)) hl0
  have hl : H l = none := same_free s0 hl1
  rw [rI_rev]
  have s1 : Same H (upd (upd H l0 (.lst (rI r))) l (.lst (rI r.reverse))) := fun b o e => same_new hl1 b o (s0 b o e)
  have e1 : upd (upd H l0 (.lst (rI r))) l (.lst (rI r.reverse)) l = some (.lst (rI r.reverse)) := upd_same
  generalize upd (upd H l0 (.lst (rI r))) l (.lst (rI r.reverse)) = H1 at s1 e1
  clear s0 hl0 hl1
  walk_at "gw"
  refine ⟨FbW H x a l m F r, ⟨(cat F r).length, none, none, none, [], r, rfl, s1, e1, hk, rfl, rfl⟩, ?_⟩
  clear s1 e1 H1
  rintro k σ H1 ⟨o4, o5, o6, done, rest, rfl, s1, e1, ck, ce, rfl⟩
  walk_at "gw"
  have ldone : done.length + (cat F rest).length ≤ 4000000 := by rw [← List.length_append, ce]; exact bd
  cases rest with
  | nil =>
    refine w_iteF rfl ?_
    show t_first_by_p1 K _ _ _
    unfold t_first_by_p1
    walk_at "gw"
    have ce2 : done = cat F r := by rw [← ce]; exact (List.append_nil done).symm
    rw [ce2]
    exact q _ s1
  | cons k0 rest =>
    have er : rI (k0 :: rest).reverse = rI rest.reverse ++ [.int (k0 : Nat)] := by simp [rI]
    rw [er] at e1 ⊢
    refine w_iteT (by simp) ?_
    refine ⟨fun σ' H' => ∃ k', k' < (cat F (k0 :: rest)).length ∧ FbW H x a l m F r k' σ' H', fun σ' H' hN => hN, ?_⟩
    have k0m := ck k0 (by simp)
    have ckr : InC m rest := fun j hj => ck j (by simp [hj])
    have lr : rest.length ≤ (cat F rest).length := len_cat (fun j hj => c.w.fst.nrm.pos (ckr j hj))
    rw [cat_cons] at ce ldone
    rw [List.length_append] at ldone
    walk_at "gw"
    refine ⟨l, _, _, rfl, rfl, e1, (show _ = some (V.int (k0 : Nat)) by simp), ?_⟩
    rw [show (rI rest.reverse ++ [V.int (k0 : Nat)]).dropLast = rI rest.reverse by simp]
    have s2 : Same H (upd H1 l (.lst (rI rest.reverse))) := same_updN hl s1
    have e2 : upd H1 l (.lst (rI rest.reverse)) l = some (.lst (rI rest.reverse)) := upd_same
    generalize upd H1 l (.lst (rI rest.reverse)) = H2 at s2 e2
    clear s1 e1 H1
    walk_at "gw"
    refine FldAt.read (c.same s2).c.al (by simp) ?_
    walk_at "gw"
    refine for_it walk_str (fun i σ H' => ∃ o5 o6, σ = [some (.ref x), some (.ref a), some (.str (mkS done)), some (.ref l), some (.int (k0 : Nat)), o5, o6] ∧ Same H H' ∧ H' l = some (.lst (rI rest.reverse)) ∧
      ∀ j, j < i → ∀ s r', (cs S)[j]? = some s → ((k0, s), r') ∈ W → (F k0).length ≠ 1 + sumN (fun k => (F k).length) r') ⟨_, _, rfl, s2, e2, fun j hj => by omega⟩ (fun _ _ _ _ _ => True.intro) ?_ ?_
    · rintro i y σ H3 H4 hi ⟨o5, o6, rfl, s3, e3, no⟩ ⟨rfl, ch, hc, rfl⟩
      have hch := get_cps hc
      have nx1 : ((∀ r', ((k0, ch), r') ∈ W → (F k0).length ≠ 1 + sumN (fun k => (F k).length) r')) → ∀ j, j < i + 1 → ∀ s r', (cs S)[j]? = some s → ((k0, s), r') ∈ W → (F k0).length ≠ 1 + sumN (fun k => (F k).length) r' := fun hno j hj s r' h1 h2 => by
        by_cases z : j = i
        · rw [z, hch] at h1
          cases h1
          exact hno r' h2
        · exact no j (by omega) s r' h1 h2
      walk_at "gw"
      refine FldAt.read (fro.same s3) (by simp) ?_
      refine ⟨d, rfl, .inr ⟨kvs, .inl (s3 _ _ hd)⟩, ?_⟩
      walk_at "gw"
      refine ⟨by show 2 ≤ sizeLine; omega, fun p hp => ?_⟩
      have s4 := same_new (o := .tup [V.int (k0 : Nat), .str ⟨#[ch]⟩]) hp
      have hp1 : upd H4 p (.tup [V.int (k0 : Nat), .str ⟨#[ch]⟩]) p = some (.tup ((kOf (k0, ch)).map kV)) := upd_same
      have e4 := s4 _ _ e3
      have s5 : Same H (upd H4 p (.tup [V.int (k0 : Nat), .str ⟨#[ch]⟩])) := fun b o e => s4 b o (s3 b o e)
      generalize upd H4 p (.tup [V.int (k0 : Nat), .str ⟨#[ch]⟩]) = H5 at hp1 e4 s5
      clear s4 hp e3 s3 H4
      walk_at "gw"
      refine ⟨_, .inr ⟨kvs, kOf (k0, ch), p, .inl (s5 _ _ hd), rfl, hp1, rfl⟩, ?_⟩
      have lk := look_congr nv c.w.nd mem (k0, ch)
      rcases wr.val (k0, ch) with ⟨h1, h2⟩ | ⟨r1, v, h1, h2, a1, rfl, ha1⟩
      · rw [h2]
        rw [lk] at h1
        walk_at "gw"
        refine w_iteF rfl ?_
        refine w_iteF rfl ?_
        walk_at "gw"
        refine ⟨_, _, rfl, s5, e4, nx1 fun r' hr' => ?_⟩
        rw [look_of c.w.nd hr'] at h1
        cases h1
      · rw [h2]
        rw [lk] at h1
        have hw := look_mem h1
        have w1 := (c.w.ok _ hw).2.2
        have ha5 := sqt_same s5 ha1
        walk_at "gw"
        refine w_iteT rfl ?_
        walk_at "gw"
        refine ⟨x, S, m, W, F, a1, r1, rfl, c.same s5, ha5, by have := w1.1; simp only at this; omega, w1.2, fun H6 s6 => ?_⟩
        have s7 : Same H H6 := fun b o e => s6 b o (s5 b o e)
        have e6 := s6 _ _ e4
        walk_at "gw"
        refine FldAt.read (fsh.same s7) (by simp) ?_
        walk_at "gw"
        refine ix_l (sql_of (s7 _ _ hsh)) (atI_nat (fl_get k0m)) ?_
        rw [show oV (some (F k0).length) = V.int ((F k0).length : Nat) from rfl]
        walk_at "gw"
        refine w_ite (fun e => ?_) (fun e => ?_)
        · have el : (F k0).length = 1 + sumN (fun k => (F k).length) r1 := by have := of_decide_eq_true e; omega
          have ef : F k0 = ch :: cat F r1 := by
            refine c.w.fst.first (N := F) (uniq_of c.w.nd) k0m hw el fun s' r' hs' hw' => ?_
            have hin : s' ∈ cs S := (c.w.ok _ hw').2.1
            obtain ⟨j, hj⟩ := List.mem_iff_getElem?.mp hin
            have ji : j < i := by
              obtain ⟨j1, j2⟩ := List.getElem?_eq_some_iff.mp hj
              obtain ⟨i1, i2⟩ := List.getElem?_eq_some_iff.mp hch
              by_cases z : j < i
              · exact z
              · exfalso
                by_cases z2 : i = j
                · subst z2
                  omega
                · have := List.pairwise_iff_getElem.mp c.w.so i j i1 j1 (by omega)
                  omega
            exact no j ji s' r' hj hw'
          rw [ef] at ce ldone
          simp only [List.length_cons] at ldone
          walk_at "gw"
          refine plus_s (by rw [len_mk]; show done.length + 1 ≤ _; omega) ?_
          walk_at "gw"
          refine w_revT ?_
          walk_at "gw"
          refine ⟨a1, _, rfl, l2t (sqt_same s6 ha5), fun p3 hp3 => ?_⟩
          have s8 := same_new (o := .tup (rI r1).reverse) hp3
          have l1 := w1.1
          simp only at l1
          walk_at "gw"
          refine .inr ⟨l, p3, _, _, rfl, rfl, s8 _ _ e6, l2t upd_same, by rw [List.length_reverse, rI_len, rI_len, List.length_reverse]; omega, ?_⟩
          walk_at "gw"
          have ecat : (cat F (r1 ++ rest)).length < (cat F (k0 :: rest)).length := by
            rw [cat_cons, cat_app, ef, List.length_append, List.length_append, List.length_cons]
            omega
          refine ⟨(cat F (r1 ++ rest)).length, ecat, some (.int (k0 : Nat)), some (.str ⟨#[ch]⟩), some (.ref a1), done ++ [ch], r1 ++ rest, ?_, same_updN hl (fun b o e => s8 b o (s7 b o e)), ?_, ?_, ?_, rfl⟩
          · have et : mkS done ++ (⟨#[ch]⟩ : Str) = mkS (done ++ [ch]) := str_ext (by rw [cs_app, cs_mk, cs_mk])
            rw [← et]
            rfl
          · rw [upd_same]
            congr 2
            rw [rI_rev, ← rI_app, List.reverse_append]
          · intro j hj
            rcases List.mem_append.mp hj with z | z
            · exact w1.2 j z
            · exact ckr j z
          · rw [cat_app, ← ce]
            simp
        · have el : (F k0).length ≠ 1 + sumN (fun k => (F k).length) r1 := by have := of_decide_eq_false e; omega
          refine ⟨_, _, rfl, s7, e6, nx1 fun r' hr' => ?_⟩
          rw [uniq_of c.w.nd _ _ _ hr' hw]
          exact el
    · rintro σ H3 ⟨o5, o6, rfl, s3, e3, no⟩
      exfalso
      obtain ⟨s, row, hw, e⟩ := c.w.fst.nrm.at_ k0 k0m
      obtain ⟨j, hj⟩ := List.mem_iff_getElem?.mp (c.w.ok _ hw).2.1
      have hj2 : j < (cs S).length := (List.getElem?_eq_some_iff.mp hj).1
      exact no j (by rw [size_cs]; exact hj2) s row hj hw e
end Pt.Re
namespace Pt.Re
/-! ### the law's own cores -/
structure LC (K : PySem.W.Frag) (H : Hp) (a : Addr) (S : Str) (m : Nat) (W : Wys) (F : Nat → List Nat) : Prop where
  ex : ∃ d kvs, H a = some (.lst [.str S, .int (m : Nat), .ref d]) ∧ H d = some (.dT kvs) ∧ WysR (RowT K H) kvs W
  w : WfC S m W F
theorem LC.same {K : PySem.W.Frag} {H H' : Hp} {a : Addr} {S : Str} {m : Nat} {W : Wys} {F : Nat → List Nat} (h : LC K H a S m W F) (e : Same H H') : LC K H' a S m W F :=
  ⟨let ⟨d, kvs, h1, h2, h3⟩ := h.ex; ⟨d, kvs, e _ _ h1, e _ _ h2, h3.imp fun _ _ q => q.same e⟩, h.w⟩
def sp_law_bbehind (K : PySem.W.Frag) : Sp := fun vs H Q _ => ∃ a S m W F p r, ∃ (s : Nat), vs = [.ref a, .ref p, .str (sgS s)] ∧ LC K H a S m W F ∧ SqT K H p (rI r) ∧ r.length ≤ 100000 ∧ ∀ v H', Same H H' → RowO K H' v (bhd W r s) → Q v H'
/-- the rows on the way -/
def tr (W : Wys) : List Nat → List Nat → List (List Nat)
  | r, [] => [r]
  | r, s :: t => r :: match bhd W r s with
    | none => []
    | some r' => tr W r' t
def sp_law_bwalked (K : PySem.W.Frag) : Sp := fun vs H Q _ => ∃ a S m W F p r, ∃ (t : Str), vs = [.ref a, .ref p, .str t] ∧ LC K H a S m W F ∧ SqT K H p (rI r) ∧ r.length + 60 * t.length ≤ 100000 ∧ InC m r ∧
  ∀ l ps H', Same H H' → H l = none → H' l = some (.lst (ps.map V.ref)) → Paired (fun q r' => SqT K H' q (rI r')) ps (tr W r (cs t)) → Q (.ref l) H'
abbrev n_law_bbehind : List Str := ["core", "row", "sign"]
def t_law_bbehind (K : PySem.W.Frag) : TS :=
  tSeq (tIfS (tOr (tTest (tOp (rEqU K) (tVar 1) (tTup (tNil)))) (tTest (tOp (rNotInU K) (tTup (tCons (tOp (rIxU K) (tVar 1) (tC (.int 0))) (tCons (tVar 2) (tNil)))) (tOp (rIxU K) (tVar 0) (tC (.int 2)))))) (tRet (tC .non)) (tNext)) (tRet (tOp (rPlus K) (tCB (cTuple K) (tCons (tOp (rIxU K) (tOp (rIxU K) (tVar 0) (tC (.int 2))) (tTup (tCons (tOp (rIxU K) (tVar 1) (tC (.int 0))) (tCons (tVar 2) (tNil))))) (tNil))) (tSl (rSlU K) (tVar 1) (tPart (tC (.int 1))) (tNoPart))))
abbrev n_law_bwalked : List Str := ["core", "row", "text", "found", "sign", "left"]
def t_law_bwalked_p1 (K : PySem.W.Frag) : TS :=
  tRet (tVar 3)
def t_law_bwalked (K : PySem.W.Frag) : TS :=
  tSeq (tAsg (tLst (tCons (tCB (cTuple K) (tCons (tVar 1) (tNil))) (tNil))) (gName 3)) (tSeq (tFor (iStr (tVar 2)) (gName 4) (tSeq (tAsg (tOwn (sp_law_bbehind K) (tCons (tVar 0) (tCons (tOp (rIxU K) (tVar 3) (tUn (rU fun i => .int (-i)) (tC (.int 1)))) (tCons (tVar 4) (tNil))))) (gName 5)) (tSeq (tIfS (tTest (tOp rIsU (tVar 5) (tC .non))) (tRet (tVar 3)) (tNext)) (tDrop (tBM K "list" rAppend (tVar 3) (tCons (tVar 5) (tNil))))))) (t_law_bwalked_p1 K))
theorem pure_law_bbehind {K : PySem.W.Frag} (vs : List V) (H : Hp) (Q : VK) (E : XK) (h : sp_law_bbehind K vs H Q E) : t_law_bbehind K { nx := fun _ H' => Q .non H', rt := Q } (start n_law_bbehind vs) H := by
  obtain ⟨a, S, m, W, F, p, r, s, rfl, c, hs, hl, q⟩ := h
  have sl : 200000 ≤ sizeLine := by decide
  obtain ⟨d, kvs, ha, hd, wr⟩ := c.ex
  unfold t_law_bbehind
  walk_at "gw"
  refine ⟨Nat.zero_le _, fun p0 hp0 => ?_⟩
  have s0 := same_new (o := .tup []) hp0
  refine eq_nilT (o := some r) (show RowO K _ _ (some r) from ⟨p, rfl, sqt_same s0 hs⟩) upd_same ?_
  generalize upd H p0 (.tup []) = H0 at s0
  walk_at "gw"
  cases r with
  | nil =>
    refine w_iteT rfl ?_
    walk_at "gw"
    refine w_iteT rfl ?_
    walk_at "gw"
    exact q _ _ s0 rfl
  | cons k r =>
    refine w_iteF (decide_eq_false (by simp)) ?_
    walk_at "gw"
    refine ix_t (v := .int (k : Nat)) (sqt_same s0 hs) (show atI (rI (k :: r)) ((0 : Nat) : Int) = some (.int (k : Nat)) from atI_nat rfl) ?_
    walk_at "gw"
    refine ⟨by show 2 ≤ sizeLine; omega, fun p1 hp1 => ?_⟩
    have s1 := same_new (o := .tup [V.int (k : Nat), .str (sgS s)]) hp1
    have e1 : upd H0 p1 (.tup [V.int (k : Nat), .str (sgS s)]) p1 = some (.tup ((kOf (k, s)).map kV)) := upd_same
    have s01 : Same H (upd H0 p1 (.tup [V.int (k : Nat), .str (sgS s)])) := fun b o e => s1 b o (s0 b o e)
    generalize upd H0 p1 (.tup [V.int (k : Nat), .str (sgS s)]) = H1 at e1 s01
    clear s1 hp1 s0 hp0 H0
    walk_at "gw"
    refine notin_d (.inr ⟨kvs, kOf (k, s), p1, .inl (s01 _ _ hd), rfl, e1, rfl⟩) ?_
    rcases wr.val (k, s) with ⟨h1, h2⟩ | ⟨r1, v, h1, h2, a1, rfl, ha1⟩
    · rw [h2]
      walk_at "gw"
      refine w_iteT rfl ?_
      walk_at "gw"
      refine q _ _ s01 ?_
      show RowO K _ .non ((look W (k, s)).map (· ++ r))
      rw [h1]
      rfl
    · rw [h2]
      have lr1 : r1.length ≤ 60 := (c.w.ok _ (look_mem h1)).2.2.1
      walk_at "gw"
      refine w_iteF rfl ?_
      walk_at "gw"
      walk_at "gw"
      refine ix_t (v := .int (k : Nat)) (sqt_same s01 hs) (show atI (rI (k :: r)) ((0 : Nat) : Int) = some (.int (k : Nat)) from atI_nat rfl) ?_
      walk_at "gw"
      refine ⟨by show 2 ≤ sizeLine; omega, fun p2 hp2 => ?_⟩
      have s2 := same_new (o := .tup [V.int (k : Nat), .str (sgS s)]) hp2
      have e2 : upd H1 p2 (.tup [V.int (k : Nat), .str (sgS s)]) p2 = some (.tup ((kOf (k, s)).map kV)) := upd_same
      have s02 : Same H (upd H1 p2 (.tup [V.int (k : Nat), .str (sgS s)])) := fun b o e => s2 b o (s01 b o e)
      refine ix_d (.inr ⟨kvs, kOf (k, s), p2, .inl (s02 _ _ hd), rfl, e2, h2.symm⟩) ?_
      walk_at "gw"
      refine tuple_t (sqt_same s02 ha1) ?_
      walk_at "gw"
      refine sl_from1 (sqt_same s02 hs) fun p3 H3 s3 h3 => ?_
      have ed : (rI (k :: r)).drop 1 = rI r := rfl
      rw [ed] at h3
      simp only [List.length_cons] at hl
      refine plus_t (sqt_same s3 (sqt_same s02 ha1)) h3 (by rw [rI_len, rI_len]; omega) fun p4 H4 s4 h4 => ?_
      refine q _ _ (fun b o e => s4 b o (s3 b o (s02 b o e))) ?_
      show RowO K _ _ ((look W (k, s)).map (· ++ r))
      rw [h1]
      exact ⟨p4, rfl, by rw [← rI_app] at h4; exact h4⟩
/-- what is on the way as far as it is read -/
theorem tr_stop {W : Wys} : ∀ {t r ri : List Nat} {i s : Nat}, t[i]? = some s → rdt W r (t.take i) = some ri → bhd W ri s = none → tr W r t = tr W r (t.take i)
  | [], _, _, i, _, h, _, _ => by simp at h
  | c :: t, r, ri, 0, s, h, h1, h2 => by
    cases h
    have e : r = ri := Option.some.inj h1
    subst e
    unfold tr
    rw [h2]
    rfl
  | c :: t, r, ri, i + 1, s, h, h1, h2 => by
    have h3 : (bhd W r c).bind (fun r => rdt W r (t.take i)) = some ri := h1
    cases e : bhd W r c with
    | none => rw [e] at h3; cases h3
    | some r1 =>
      rw [e] at h3
      have ih := tr_stop (t := t) (by simpa using h) h3 h2
      show r :: _ = r :: _
      rw [e]
      simp only [ih]
theorem tr_snoc {W : Wys} : ∀ {t r r1 r2 : List Nat} {s : Nat}, rdt W r t = some r1 → bhd W r1 s = some r2 → tr W r (t ++ [s]) = tr W r t ++ [r2]
  | [], r, r1, r2, s, h, h2 => by
    have e : r = r1 := Option.some.inj h
    subst e
    show r :: _ = _
    rw [h2]
    rfl
  | c :: t, r, r1, r2, s, h, h2 => by
    have h3 : (bhd W r c).bind (fun r => rdt W r t) = some r1 := h
    cases e : bhd W r c with
    | none => rw [e] at h3; cases h3
    | some r' =>
      rw [e] at h3
      have ih := tr_snoc (t := t) h3 h2
      show r :: _ = (r :: _) ++ _
      rw [e]
      exact congrArg (r :: ·) ih
theorem tr_last {W : Wys} : ∀ {t r r1 : List Nat}, rdt W r t = some r1 → (tr W r t).getLast? = some r1
  | [], r, r1, h => by cases h; rfl
  | c :: t, r, r1, h => by
    have h3 : (bhd W r c).bind (fun r => rdt W r t) = some r1 := h
    cases e : bhd W r c with
    | none => rw [e] at h3; cases h3
    | some r' =>
      rw [e] at h3
      have ih := tr_last (t := t) h3
      show (r :: _).getLast? = _
      rw [e]
      simp only
      rw [List.getLast?_cons, ih]
      rfl
theorem tr_len {W : Wys} : ∀ {t r r1 : List Nat}, rdt W r t = some r1 → (tr W r t).length = t.length + 1
  | [], r, r1, h => rfl
  | c :: t, r, r1, h => by
    have h3 : (bhd W r c).bind (fun r => rdt W r t) = some r1 := h
    cases e : bhd W r c with
    | none => rw [e] at h3; cases h3
    | some r' =>
      rw [e] at h3
      have ih := tr_len (t := t) h3
      show (r :: _).length = _
      rw [e]
      simp only [List.length_cons, ih]
theorem atI_last {xs : List V} {v : V} (h : xs.getLast? = some v) (hl : xs.length < 2 ^ 40) : atI xs (-1) = some v := by
  unfold atI ixN
  have h1 : 0 < xs.length := by
    cases xs with
    | nil => cases h
    | cons x r => simp
  rw [if_neg (by omega), if_pos (by omega)]
  show xs[((-1 : Int) + (xs.length : Int)).toNat]? = some v
  rw [show ((-1 : Int) + (xs.length : Int)).toNat = xs.length - 1 by omega]
  rw [List.getLast?_eq_getElem?] at h
  exact h
theorem paired_snoc2 {α β : Type} {F : α → β → Prop} {xs : List α} {ys : List β} {x : α} {y : β} (h : Paired F xs ys) (q : F x y) : Paired F (xs ++ [x]) (ys ++ [y]) := paired_snoc h q
theorem paired_last {α β : Type} {F : α → β → Prop} : ∀ {xs : List α} {ys : List β} {y : β}, Paired F xs ys → ys.getLast? = some y → ∃ x, xs.getLast? = some x ∧ F x y
  | _, _, _, .nil, h => by cases h
  | x :: xs, b :: ys, y, .cons h t, e => by
    cases ys with
    | nil =>
      cases t
      have e2 : b = y := by simpa using e
      exact ⟨x, rfl, by rw [← e2]; exact h⟩
    | cons c ys =>
      rw [List.getLast?_cons_cons] at e
      obtain ⟨x', e1, e2⟩ := paired_last t e
      refine ⟨x', ?_, e2⟩
      rw [List.getLast?_cons, e1]
      rfl
theorem pure_law_bwalked {K : PySem.W.Frag} (vs : List V) (H : Hp) (Q : VK) (E : XK) (h : sp_law_bwalked K vs H Q E) : t_law_bwalked K { nx := fun _ H' => Q .non H', rt := Q } (start n_law_bwalked vs) H := by
  obtain ⟨a, S, m, W, F, p, r, t, rfl, c, hs, hl, hk, q⟩ := h
  have sl : 200000 ≤ sizeLine := by decide
  have okW : ∀ w ∈ W, w.2.length ≤ 60 ∧ ∀ k ∈ w.2, k < m := fun w hw => (c.w.ok w hw).2.2
  unfold t_law_bwalked
  walk_at "gw"
  refine tuple_t hs ?_
  walk_at "gw"
  refine ⟨by show 1 ≤ sizeLine; omega, fun l hl0 => ?_⟩
  have s0 := same_new (o := .lst [V.ref p]) hl0
  have e0 : upd H l (.lst [V.ref p]) l = some (.lst ([p].map V.ref)) := upd_same
  generalize upd H l (.lst [V.ref p]) = H0 at s0 e0
  walk_at "gw"
  refine for_it walk_str (fun i σ H' => ∃ o4 o5 ps r', σ = [some (.ref a), some (.ref p), some (.str t), some (.ref l), o4, o5] ∧ Same H H' ∧ H' l = some (.lst (ps.map V.ref)) ∧ Paired (fun q r' => SqT K H' q (rI r')) ps (tr W r ((cs t).take i)) ∧
    rdt W r ((cs t).take i) = some r' ∧ InC m r' ∧ r'.length ≤ r.length + 60 * i) ⟨none, none, [p], r, rfl, s0, e0, .cons (sqt_same s0 hs) .nil, rfl, hk, by omega⟩ (fun _ _ _ _ _ => True.intro) ?_ ?_
  · rintro i y σ H1 H2 hi ⟨o4, o5, ps, r', rfl, s1, e1, pr, hr, hk', hl'⟩ ⟨rfl, ch, hch, rfl⟩
    have hi2 : i < t.length := by rw [len_cs, ← size_cs]; exact hi
    have hch2 : (cs t)[i]? = some ch := get_cps hch
    have ltr : ps.length = i + 1 := by
      rw [paired_len pr, tr_len hr, List.length_take, ← len_cs]
      omega
    obtain ⟨a', la, ha'⟩ := paired_last pr (tr_last hr)
    have lv : (ps.map V.ref).getLast? = some (.ref a') := by rw [List.getLast?_map, la]; rfl
    walk_at "gw"
    refine ⟨1, rfl, ?_⟩
    refine ix_l (sql_of e1) (atI_last lv (by rw [List.length_map]; omega)) ?_
    walk_at "gw"
    refine ⟨a, S, m, W, F, a', r', ch, rfl, c.same s1, ha', by omega, fun v H3 s3 hv => ?_⟩
    have s13 : Same H H3 := fun b o e => s3 b o (s1 b o e)
    cases eb : bhd W r' ch with
    | none =>
      rw [eb] at hv
      cases (show v = .non from hv)
      walk_at "gw"
      refine w_iteT rfl ?_
      walk_at "gw"
      refine q l ps _ s13 hl0 (s3 _ _ e1) ?_
      rw [tr_stop hch2 hr eb]
      exact Paired.mapP pr fun _ _ h => sqt_same s3 h
    | some r1 =>
      rw [eb] at hv
      obtain ⟨a1, rfl, h1⟩ := hv
      obtain ⟨b1, b2⟩ := bhd_ok okW eb hk'
      walk_at "gw"
      refine w_iteF rfl ?_
      walk_at "gw"
      refine e_tyl (sql_of (s3 _ _ e1)) ?_
      walk_at "gw"
      refine ⟨l, _, _, rfl, rfl, s3 _ _ e1, by rw [List.length_map]; omega, ?_⟩
      walk_at "gw"
      have rd : RdS H3 (upd H3 l (.lst (ps.map V.ref ++ [V.ref a1]))) → True := fun _ => True.intro
      have st : ∀ q ys, SqT K H3 q ys → SqT K (upd H3 l (.lst (ps.map V.ref ++ [V.ref a1]))) q ys := fun q ys h => sqt_frm (R := [l]) (frm_upd (by simp)) (fun b hb => by rw [List.mem_singleton.mp hb]; exact ⟨_, s3 _ _ e1⟩) h
      refine ⟨_, _, ps ++ [a1], r1, rfl, same_updN hl0 s13, by rw [upd_same]; simp, ?_, ?_, b1, by omega⟩
      · rw [List.take_add_one, hch2]
        show Paired _ _ (tr W r ((cs t).take i ++ [ch]))
        rw [tr_snoc hr eb]
        exact paired_snoc (Paired.mapP pr fun _ _ h => st _ _ (sqt_same s3 h)) (st _ _ h1)
      · rw [List.take_add_one, hch2]
        show rdt W r ((cs t).take i ++ [ch]) = _
        rw [rdt_snoc hr, eb]
  · rintro σ H1 ⟨o4, o5, ps, r', rfl, s1, e1, pr, hr, hk', hl'⟩
    rw [size_cs, List.take_length] at pr
    unfold t_law_bwalked_p1
    walk_at "gw"
    exact q l ps _ s1 hl0 e1 pr
end Pt.Re
namespace Pt.Re
/-! ### draws of rows and signs -/
def sp_law_bkinds (K : PySem.W.Frag) : Sp := fun vs H Q _ => ∃ (s c : Addr) (n m mo : Nat), vs = [.ref s, .int (m : Nat), .int (mo : Nat)] ∧ Strm s c n H ∧ n + 100 < 1099511627776 ∧ mo ≤ 50 ∧ m < 1000 ∧
  ∀ p r k H', r.length ≤ mo → InC m r → k ≤ mo + 1 → Frm [s, c] H H' → Strm s c (n + k) H' → H p = none → H' p = some (.tup (rI r)) → Q (.ref p) H'
def sp_law_brow (K : PySem.W.Frag) : Sp := fun vs H Q _ => ∃ (s c a : Addr) (n mo : Nat), ∃ S m W F, vs = [.ref s, .ref a, .int (mo : Nat)] ∧ Strm s c n H ∧ n + 100 < 1099511627776 ∧ mo ≤ 50 ∧ LC K H a S m W F ∧
  ∀ p r k H', r.length ≤ mo → InC m r → k ≤ mo + 1 → Frm [s, c] H H' → Strm s c (n + k) H' → H p = none → H' p = some (.tup (rI r)) → Q (.ref p) H'
def sp_law_bsigns (K : PySem.W.Frag) : Sp := fun vs H Q _ => ∃ (s c : Addr) (n mo : Nat), vs = [.ref s, .int (mo : Nat)] ∧ Strm s c n H ∧ n + 100 < 1099511627776 ∧ 1 ≤ mo ∧ mo ≤ 6 ∧
  ∀ l H', l.length = mo → l.Pairwise (· ≤ ·) → l.Nodup → (∀ c ∈ l, isSgn c = true) → Frm [s, c] H H' → Strm s c (n + mo) H' → Q (.str (mkS l)) H'
abbrev n_law_bkinds : List Str := ["stream", "many", "most", "turn"]
def t_law_bkinds (K : PySem.W.Frag) : TS :=
  tRet (tIf (tTest (tOp rGtI (tVar 1) (tC (.int 0)))) (tCB (cTuple K) (tCons (tLc (iRng1 (tCons (tOwn (sp_law_below K) (tCons (tVar 0) (tCons (tOp (rPlus K) (tVar 2) (tC (.int 1))) (tNil)))) (tNil))) (gName 3) (tYes) (tOwn (sp_law_below K) (tCons (tVar 0) (tCons (tVar 1) (tNil)))) [3]) (tNil))) (tTup (tNil)))
abbrev n_law_brow : List Str := ["stream", "core", "most"]
def t_law_brow (K : PySem.W.Frag) : TS :=
  tRet (tOwn (sp_law_bkinds K) (tCons (tVar 0) (tCons (tOp (rIxU K) (tVar 1) (tC (.int 1))) (tCons (tVar 2) (tNil)))))
abbrev n_law_bsigns : List Str := ["stream", "many", "left", "turn"]
def t_law_bsigns (K : PySem.W.Frag) : TS :=
  tSeq (tAsg (tOwn (sp_law_bpool K) tNil) (gName 2)) (tRet (tM1 (mJoin K) (tC (.str "")) (tCB (cSorted K) (tCons (tLc (iRng1 (tCons (tVar 1) (tNil))) (gName 3) (tYes) (tBM K "list" rPopAt (tVar 2) (tCons (tOwn (sp_law_below K) (tCons (tVar 0) (tCons (tCB (cLen K) (tCons (tVar 2) (tNil))) (tNil)))) (tNil))) [3]) (tNil)))))
theorem er_map {α β : Type} (f : α → β) : ∀ (l : List α) (j : Nat), (l.eraseIdx j).map f = (l.map f).eraseIdx j
  | [], _ => rfl
  | _ :: _, 0 => rfl
  | x :: l, j + 1 => congrArg (f x :: ·) (er_map f l j)
theorem _root_.Pt.Strm.inH {s c : Addr} {n : Nat} {H : Hp} (h : Strm s c n H) : InH [s, c] H := by
  obtain ⟨_, _, _, g1, g2, _⟩ := h
  intro a ha
  simp at ha
  rcases ha with rfl | rfl
  · exact InH.some g1
  · exact InH.some g2
theorem pure_law_bkinds {K : PySem.W.Frag} (vs : List V) (H : Hp) (Q : VK) (E : XK) (h : sp_law_bkinds K vs H Q E) : t_law_bkinds K { nx := fun _ H' => Q .non H', rt := Q } (start n_law_bkinds vs) H := by
  obtain ⟨s, c, n, m, mo, rfl, st, hn, hmo, hm, q⟩ := h
  unfold t_law_bkinds
  walk_at "gw"
  refine w_ite (fun e => ?_) (fun e => ?_)
  · have m0 := of_decide_eq_true e
    walk_at "gw"
    refine ⟨s, c, n, (mo : Int) + 1, rfl, st, by omega, by omega, by omega, fun k H1 hk f1 st1 => ?_⟩
    refine e_rng (by omega) (by omega) ?_
    rw [show ((k : Nat) : Int).toNat = k by omega]
    refine lc_full (walk_range (lo := 0) (n := k)) [s, c] [s, c] (fun i acc H' => Strm s c (n + 1 + i) H' ∧ ∃ r, acc = rI r ∧ r.length = i ∧ InC m r) (fun _ _ _ => True) st1.inH (fun _ h => h) ?_ ⟨st1, [], rfl, rfl, fun _ h => by cases h⟩ (fun _ _ => True.intro) (fun _ _ _ _ _ _ => True.intro) (fun _ _ _ _ _ _ => True.intro) ?_ ?_ ?_
    · rintro i acc H2 D ys hD ⟨st2, r⟩
      have n1 := st1.inH.ne hD
      simp only [List.mem_cons, not_or] at n1
      obtain ⟨n2, n3, _⟩ := n1
      exact ⟨st2.frm (R := [D]) (frm_upd (by simp)) (by simpa using Ne.symm n2) (by simpa using Ne.symm n3), r⟩
    · exact Nat.le_trans (show k ≤ 100 by omega) (by decide)
    · rintro D i acc x H2 H3 Nx hD hi f kn inn hd' ⟨st2, r, rfl, hr, ck⟩ _ hl ⟨rfl, rfl⟩ kY kN
      walk_at "gw"
      refine ⟨rfl, ?_⟩
      walk_at "gw"
      refine w_iteT rfl ?_
      walk_at "gw"
      refine ⟨s, c, _, (m : Nat), rfl, st2, by omega, by omega, by omega, fun d H4 hd f4 st4 => ?_⟩
      refine kY _ _ f4 ⟨?_, r ++ [d], by rw [rI_app]; rfl, by simp [hr], fun j hj => ?_⟩ True.intro
      · rw [show n + 1 + (i + 1) = n + 1 + i + 1 by omega]
        exact st4
      · rcases List.mem_append.mp hj with z | z
        · exact ck j z
        · rw [List.mem_singleton.mp z]; omega
    · rintro D acc H2 hD f inn kn hd' ⟨st2, r, rfl, hr, ck⟩ _ _
      walk_at "gw"
      refine tuple_l (sql_of hd') fun p hp => ?_
      have s3 := same_new (o := .tup (rI r)) hp
      have f3 : Frm [s, c] H H2 := ⟨fun a o ha e => f.at_ a o (by simpa using ha) (f1.at_ a o ha e), fun a ha => f.live a (f1.live a ha)⟩
      refine q p r (k + 1) _ (by omega) ck (by omega) (f3.trans (Same.frm s3)) ?_ (f3.free hp) upd_same
      rw [show n + (k + 1) = n + 1 + k by omega]
      exact st2.same s3
  · walk_at "gw"
    refine ⟨Nat.zero_le _, fun p hp => ?_⟩
    have s3 := same_new (o := .tup []) hp
    exact q p [] 0 _ (Nat.zero_le _) (fun _ h => by cases h) (by omega) (Same.frm s3) (st.same s3) hp upd_same
theorem pure_law_brow {K : PySem.W.Frag} (vs : List V) (H : Hp) (Q : VK) (E : XK) (h : sp_law_brow K vs H Q E) : t_law_brow K { nx := fun _ H' => Q .non H', rt := Q } (start n_law_brow vs) H := by
  obtain ⟨s, c, a, n, mo, S, m, W, F, rfl, st, hn, hmo, lc, q⟩ := h
  obtain ⟨d, kvs, ha, _, _⟩ := lc.ex
  have m12 := lc.w.m12
  unfold t_law_brow
  walk_at "gw"
  exact ⟨s, c, n, m, mo, rfl, st, hn, hmo, by omega, q⟩
theorem pure_law_bsigns {K : PySem.W.Frag} (vs : List V) (H : Hp) (Q : VK) (E : XK) (h : sp_law_bsigns K vs H Q E) : t_law_bsigns K { nx := fun _ H' => Q .non H', rt := Q } (start n_law_bsigns vs) H := by
  obtain ⟨s, c, n, mo, rfl, st, hn, m1, m6, q⟩ := h
  unfold t_law_bsigns
  walk_at "gw"
  refine ⟨rfl, fun l H1 s1 hl hl1 => ?_⟩
  have st1 := st.same s1
  have nls : l ≠ s := fun e => by
    obtain ⟨_, _, _, h, _⟩ := st
    rw [← e, hl] at h; cases h
  have nlc : l ≠ c := fun e => by
    obtain ⟨_, _, _, _, h, _⟩ := st
    rw [← e, hl] at h; cases h
  have il : InH [l, s, c] H1 := by
    obtain ⟨_, _, _, g1, g2, _⟩ := st1
    intro a ha
    simp at ha
    rcases ha with rfl | rfl | rfl
    · exact InH.some hl1
    · exact InH.some g1
    · exact InH.some g2
  walk_at "gw"
  refine e_rng (by omega) (by omega) ?_
  rw [show ((mo : Nat) : Int).toNat = mo by omega]
  refine lc_full (walk_range (lo := 0) (n := mo)) [l, s, c] [l, s, c] (fun i acc H' => Strm s c (n + i) H' ∧ ∃ rest done, H' l = some (.lst (rest.map sg)) ∧ acc = done.map sg ∧ done.length = i ∧ (done ++ rest).Perm poolC) (fun _ _ _ => True) il (fun _ h => h) ?_ ⟨st1, poolC, [], hl1, rfl, rfl, List.Perm.refl _⟩ (fun _ _ => True.intro) (fun _ _ _ _ _ _ => True.intro) (fun _ _ _ _ _ _ => True.intro) ?_ ?_ ?_
  · rintro i acc H2 D ys hD ⟨st2, rest, done, e1, e2⟩
    have n1 := il.ne hD
    simp only [List.mem_cons, not_or] at n1
    obtain ⟨n2, n3, n4, _⟩ := n1
    exact ⟨st2.frm (R := [D]) (frm_upd (by simp)) (by simpa using Ne.symm n3) (by simpa using Ne.symm n4), rest, done, by rw [upd_ne (Ne.symm n2)]; exact e1, e2⟩
  · exact Nat.le_trans (show mo ≤ 100 by omega) (by decide)
  · rintro D i acc x H2 H3 Nx hD hi f kn inn hd' ⟨st2, rest, done, e1, rfl, e2, pm⟩ _ hl' ⟨rfl, rfl⟩ kY kN
    have lr : rest.length + i = 91 := by
      have := pm.length_eq
      rw [List.length_append, pool_len] at this
      omega
    walk_at "gw"
    refine ⟨rfl, ?_⟩
    walk_at "gw"
    refine w_iteT rfl ?_
    walk_at "gw"
    rw [List.length_map]
    refine ⟨s, c, n + i, rest.length, rfl, st2, by omega, by omega, by omega, fun r H4 hr f4 st4 => ?_⟩
    have hr2 : r < rest.length := by omega
    have hv : (rest.map sg)[r]? = some (sg rest[r]) := by rw [List.getElem?_map, List.getElem?_eq_getElem hr2]; rfl
    have e4 : H4 l = some (.lst (rest.map sg)) := f4.at_ _ _ (by simp [nls, nlc]) e1
    walk_at "gw"
    refine popAt_nat (k := r) e4 hv (by omega) ?_
    have f5 : Frm [l, s, c] H3 (upd H4 l (.lst ((rest.map sg).eraseIdx r))) := (f4.mono (by simp)).trans (frm_upd (by simp))
    refine kY _ _ f5 ⟨?_, rest.eraseIdx r, done ++ [rest[r]], ?_, by simp, by simp [e2], ?_⟩ True.intro
    · have st5 := st4.frm (R := [l]) (H' := upd H4 l (.lst ((rest.map sg).eraseIdx r))) (frm_upd (by simp)) (by simpa using Ne.symm nls) (by simpa using Ne.symm nlc)
      rw [show n + (i + 1) = n + i + 1 by omega]
      exact st5
    · rw [upd_same, ← er_map]
    · refine List.Perm.trans ?_ pm
      rw [List.append_assoc]
      exact List.Perm.append_left _ (perm_erase hr2)
  · rintro D acc H2 hD f inn kn hd' ⟨st2, rest, done, e1, rfl, e2, pm⟩ _ _
    walk_at "gw"
    refine .inl ⟨_, done, rfl, .inr ⟨D, rfl, sql_of hd'⟩, by rw [e2]; exact Nat.le_trans (show mo ≤ 100 by omega) (by decide), fun l' p pl pw hp => ?_⟩
    refine join_q upd_same (by rw [pl.length_eq, e2]; omega) ?_
    have s3 := same_new (o := .lst (l'.map sg)) hp
    have nd : (done ++ rest).Nodup := pm.nodup_iff.mpr pool_nd
    have f3 : Frm [s, c] H H2 := ⟨fun a o ha e => by
      have ne : a ≠ l := ne_of_none e hl
      exact f.at_ a o (by simpa [ne] using ha) (s1 a o e), fun a ha => f.live a (Same.live s1 a ha)⟩
    refine q l' _ (by rw [pl.length_eq, e2]) pw (pl.nodup_iff.mpr (List.nodup_append.mp nd).1) (fun ch hch => pool_sg ch (pm.mem_iff.mp (List.mem_append_left _ (pl.mem_iff.mp hch)))) (f3.trans (Same.frm s3)) (st2.same s3)
end Pt.Re
namespace Pt.Re
/-! ### rows told loosely -/
def sp_law_loose (K : PySem.W.Frag) : Nat → Sp
  | 0 => fun _ _ _ _ => False
  | n + 1 => fun vs H Q _ => (∃ (s : Addr) (i : Int), vs = [.ref s, .int i] ∧ ∀ H', Same H H' → Q (.int i) H') ∨
    ∃ (s c : Addr) (k : Nat) (p : Addr) (r : List Nat) (M : List Addr), vs = [.ref s, .ref p] ∧ 1 ≤ n ∧ Strm s c k H ∧ k < 1099511627776 ∧ InH M H ∧ (∀ x ∈ [s, c], x ∈ M) ∧ SqA K (hid M H) p (rI r) ∧ r.length ≤ 1000 ∧
      ∀ v H', Frm [s, c] H H' → Strm s c (k + 1) H' → RowA K (hid M H') v r → Q v H'
abbrev n_law_loose : List Str := ["stream", "thing", "found", "key", "part"]
def t_law_loose (K : PySem.W.Frag) (n : Nat) : TS :=
  tSeq (tIfS (tTru K (tCB (cIsi K) (tCons (tVar 1) (tCons (tC (.ty "dict")) (tNil))))) (tRet (tCB (cDictPT K) (tCons (tLc (iSeq K (tOwn (sp_law_mixed K) (tCons (tVar 0) (tCons (tCB (cList K) (tCons (tVar 1) (tNil))) (tNil))))) (gName 3) (tYes) (tTup (tCons (tVar 3) (tCons (tOwn (sp_law_loose K n) (tCons (tVar 0) (tCons (tOp (rIxU K) (tVar 1) (tVar 3)) (tNil)))) (tNil)))) [3]) (tNil)))) (tNext)) (tSeq (tIfS (tNot (tTru K (tCB (cIsi K) (tCons (tVar 1) (tCons (tTup (tCons (tC (.ty "list")) (tCons (tC (.ty "tuple")) (tNil)))) (tNil)))))) (tRet (tVar 1)) (tNext)) (tSeq (tAsg (tLc (iSeq K (tVar 1)) (gName 4) (tYes) (tOwn (sp_law_loose K n) (tCons (tVar 0) (tCons (tVar 4) (tNil)))) [4]) (gName 2)) (tRet (tIf (tTest (tOp (rEqU K) (tOwn (sp_law_below K) (tCons (tVar 0) (tCons (tC (.int 2)) (tNil)))) (tC (.int 0)))) (tVar 2) (tCB (cTuple K) (tCons (tVar 2) (tNil)))))))
theorem isi_q2 {K : PySem.W.Frag} {H : Hp} {v : V} {d : PyData} {p : Addr} {tn : String} {b : Bool} {Q : VK} (h : Dq K H v d) (e : tyN d = tn) (hp : H p = some (.tup [.ty "list", .ty "tuple"])) (hb : kitL tn ["list", "tuple"] = some b) (q : Q (.bl b) H) : cIsi K [v, .ref p] H Q := isi_qt ["list", "tuple"] h e hp hb q
theorem pure_law_loose {K : PySem.W.Frag} (n : Nat) (vs : List V) (H : Hp) (Q : VK) (E : XK) (h : sp_law_loose K (n + 1) vs H Q E) : t_law_loose K n { nx := fun _ H' => Q .non H', rt := Q } (start n_law_loose vs) H := by
  rcases h with ⟨s, i, rfl, q⟩ | ⟨s, c, k, p, r, M, rfl, hn, st, hk, hM, hsc, hs, hl, q⟩
  · unfold t_law_loose
    walk_at "gw"
    refine isi_1 (.base (.int _)) (kit_ty (b := "dict") (r := false) (by decide +kernel)) ?_
    walk_at "gw"
    refine w_iteF rfl ?_
    walk_at "gw"
    refine ⟨by show 2 ≤ sizeLine; decide, fun p hp => ?_⟩
    have s1 := same_new (o := .tup [.ty "list", .ty "tuple"]) hp
    refine isi_q2 (d := .int i) (tn := "int") (.int i) rfl upd_same (b := false) (by decide +kernel) ?_
    walk_at "gw"
    refine w_iteT rfl ?_
    walk_at "gw"
    exact q _ s1
  · have hsH : SqA K H p (rI r) := sqa_same hid_sub hs
    -- a list or a tuple of ints, as a datum
    obtain ⟨d, hd, hty⟩ : ∃ d, (∀ H', Same H H' → Dq K H' (.ref p) d) ∧ ((tyN d = "list" ∧ SqL K (hid M H) p (rI r)) ∨ (tyN d = "tuple" ∧ SqT K (hid M H) p (rI r))) := by
      rcases hs with hs | hs
      · exact ⟨_, fun H' e => .lst (sql_same e (sql_same hid_sub hs)) (by rw [rI_len]; omega) (dqa_int r), .inl ⟨rfl, hs⟩⟩
      · exact ⟨_, fun H' e => .tup (l2t (sqt_same e (sqt_same hid_sub hs))) (by rw [rI_len]; omega) (dqa_int r), .inr ⟨rfl, hs⟩⟩
    have nd : kitB (tyN d) "dict" = some false := by rcases hty with ⟨e, _⟩ | ⟨e, _⟩ <;> rw [e] <;> decide +kernel
    have ls : kitL (tyN d) ["list", "tuple"] = some true := by rcases hty with ⟨e, _⟩ | ⟨e, _⟩ <;> rw [e] <;> decide +kernel
    unfold t_law_loose
    walk_at "gw"
    refine isi_q (hd H (Same.refl _)) rfl nd ?_
    walk_at "gw"
    refine w_iteF rfl ?_
    walk_at "gw"
    refine ⟨by show 2 ≤ sizeLine; decide, fun p1 hp1 => ?_⟩
    have s1 := same_new (o := .tup [.ty "list", .ty "tuple"]) hp1
    refine isi_q2 (hd _ s1) rfl upd_same ls ?_
    generalize upd H p1 (.tup [.ty "list", .ty "tuple"]) = H1 at s1
    walk_at "gw"
    refine w_iteF rfl ?_
    walk_at "gw"
    refine iseq_a rfl (sqa_same s1 hsH) fun J Gw wk hG => ?_
    refine lc_im wk (fun _ => true) (fun j => .int (r.getD j 0 : Nat)) (by rw [rI_len]; exact Nat.le_trans hl (by decide)) (fun _ H' _ e => hG H' (Same.rds e)) ?_ ?_
    · rintro j y H4 H5 KY KN hj s4 ⟨rfl, hx⟩ kY kN
      obtain ⟨z, hz, rfl⟩ := rI_get hx
      have e : r.getD j 0 = z := by rw [List.getD_eq_getElem?_getD, hz]; rfl
      rw [e] at kY
      walk_at "gw"
      refine ⟨rfl, ?_⟩
      walk_at "gw"
      refine w_iteT rfl ?_
      walk_at "gw"
      obtain ⟨n', rfl⟩ : ∃ n', n = n' + 1 := ⟨n - 1, by omega⟩
      exact .inl ⟨s, _, rfl, fun H6 s6 => kY rfl _ s6⟩
    · intro D H4 hD s4 h5
      rw [rI_len, given_row (fun z => V.int (z : Nat))] at h5
      walk_at "gw"
      have s14 : Same H H4 := fun b o e => s4 b o (s1 b o e)
      have hDH : H D = none := same_free s1 hD
      have hDn : D ∉ [s, c] := st.inH.ne hDH
      have hDM : D ∉ M := hM.ne hDH
      refine ⟨s, c, k, 2, rfl, st.same s14, by decide, by decide, hk, fun d2 H6 hd2 f6 st6 => ?_⟩
      have f16 : Frm [s, c] H H6 := (Same.frm s14).trans f6
      have h6 : H6 D = some (.lst (rI r)) := f6.at_ _ _ hDn h5
      walk_at "gw"
      refine w_ite (fun e => ?_) (fun e => ?_)
      · walk_at "gw"
        refine q _ _ f16 st6 ⟨D, rfl, .inl (sql_of ?_)⟩
        rw [hid_at hDM]
        exact h6
      · walk_at "gw"
        refine tuple_l (sql_of h6) fun p2 hp2 => ?_
        have s7 := same_new (o := .tup (rI r)) hp2
        have p2n : p2 ∉ M := (hM.frm f16).ne hp2
        refine q _ _ (f16.trans (Same.frm s7)) (st6.same s7) ⟨p2, rfl, .inr (sqt_of ?_)⟩
        rw [hid_at p2n]
        exact upd_same
end Pt.Re
namespace Pt.Re
/-! ### the law's first texts -/
def sp_law_bfirsts (K : PySem.W.Frag) : Sp := fun vs H Q _ => ∃ a S m W F, vs = [.ref a] ∧ LC K H a S m W F ∧ m ≤ 8 ∧ (∀ w ∈ W, w.2.length ≤ 3) ∧
  ∀ f kv H', Same H H' → H f = none → H' f = some (.dK kv) → (∀ k : Nat, k < m → valV kv (.inl (k : Nat)) = some (.str (mkS (F k)))) → Q (.ref f) H'
abbrev n_law_bfirsts : List Str := ["core", "found", "turn", "kind", "sign", "row", "text", "part"]
def t_law_bfirsts_p1 (K : PySem.W.Frag) : TS :=
  tRet (tVar 1)
def t_law_bfirsts (K : PySem.W.Frag) : TS :=
  tSeq (tAsg (tDNew) (gName 1)) (tSeq (tFor (iRng1 (tCons (tOp (rPlus K) (tOp (rIxU K) (tVar 0) (tC (.int 1))) (tC (.int 1))) (tNil))) (gName 2) (tFor (iSeq K (tCB (cSorted K) (tCons (tOp (rIxU K) (tVar 0) (tC (.int 2))) (tNil)))) (gTup K 2 (gCons (gName 3) (gCons (gName 4) (gNil)))) (tSeq (tAsg (tOp (rIxU K) (tOp (rIxU K) (tVar 0) (tC (.int 2))) (tTup (tCons (tVar 3) (tCons (tVar 4) (tNil))))) (gName 5)) (tIfS (tTest (tOp (rEqU K) (tLc (iSeq K (tVar 5)) (gName 7) (tTest (tOp (rNotInU K) (tVar 7) (tVar 1))) (tVar 7) [7]) (tLst (tNil)))) (tSeq (tAsg (tOp (rPlus K) (tVar 4) (tM1 (mJoin K) (tC (.str "")) (tLc (iSeq K (tVar 5)) (gName 7) (tYes) (tOp (rIxU K) (tVar 1) (tVar 7)) [7]))) (gName 6)) (tIfS (tOr (tTest (tOp (rNotInU K) (tVar 3) (tVar 1))) (tTest (tOp (rLtU K) (tTup (tCons (tCB (cLen K) (tCons (tVar 6) (tNil))) (tCons (tVar 6) (tNil)))) (tTup (tCons (tCB (cLen K) (tCons (tOp (rIxU K) (tVar 1) (tVar 3)) (tNil))) (tCons (tOp (rIxU K) (tVar 1) (tVar 3)) (tNil))))))) (tAsg (tVar 6) (gSub (tVar 1) (tVar 3) rSetU)) (tNext))) (tNext))))) (t_law_bfirsts_p1 K))
theorem fil_le {p q : Nat → Bool} {l : List Nat} (h : ∀ x ∈ l, p x = true → q x = true) : (l.filter p).length ≤ (l.filter q).length ∧ ((∃ x ∈ l, q x = true ∧ p x = false) → (l.filter p).length < (l.filter q).length) := by
  induction l with
  | nil => exact ⟨Nat.le_refl _, fun ⟨x, hx, _⟩ => by cases hx⟩
  | cons x l ih =>
    obtain ⟨i1, i2⟩ := ih fun y hy => h y (by simp [hy])
    have hx := h x (by simp)
    rw [List.filter_cons, List.filter_cons]
    cases ep : p x with
    | true =>
      rw [hx ep, if_pos rfl, if_pos rfl, List.length_cons, List.length_cons]
      refine ⟨by omega, fun ⟨y, hy, q1, q2⟩ => ?_⟩
      rcases List.mem_cons.mp hy with z | z
      · rw [z, ep] at q2; cases q2
      · have := i2 ⟨y, z, q1, q2⟩; omega
    | false =>
      cases eq : q x with
      | true =>
        rw [if_neg Bool.false_ne_true, if_pos rfl, List.length_cons]
        exact ⟨by omega, fun _ => by omega⟩
      | false =>
        rw [if_neg Bool.false_ne_true, if_neg Bool.false_ne_true]
        refine ⟨i1, fun ⟨y, hy, q1, q2⟩ => ?_⟩
        rcases List.mem_cons.mp hy with z | z
        · rw [z, eq] at q1; cases q1
        · exact i2 ⟨y, z, q1, q2⟩
def cnt (m : Nat) (fd : Nat → Option (List Nat)) : Nat := ((List.range m).filter fun k => (fd k).isSome).length
theorem cnt_le {m : Nat} {fd : Nat → Option (List Nat)} : cnt m fd ≤ m := by
  have := List.length_filter_le (fun k => (fd k).isSome) (List.range m)
  rw [List.length_range] at this
  exact this
theorem cnt_set {m k : Nat} {t : List Nat} {fd : Nat → Option (List Nat)} (hk : k < m) : cnt m fd ≤ cnt m (setF fd k t) ∧ (fd k = none → cnt m fd < cnt m (setF fd k t)) := by
  have h := fil_le (p := fun j => (fd j).isSome) (q := fun j => (setF fd k t j).isSome) (l := List.range m) fun x _ hx => by
    unfold setF
    by_cases z : x = k
    · rw [if_pos z]; rfl
    · rw [if_neg z]; exact hx
  refine ⟨h.1, fun e => h.2 ⟨k, List.mem_range.mpr hk, ?_, ?_⟩⟩
  · unfold setF
    rw [if_pos rfl]
    rfl
  · show (fd k).isSome = false
    rw [e]
    rfl
/-- no text found is long -/
def Short (m : Nat) (fd : Nat → Option (List Nat)) : Prop := ∀ k, k < m → ∀ t, fd k = some t → t.length ≤ 4 ^ cnt m fd
theorem Short.cand {m : Nat} {fd : Nat → Option (List Nat)} (h : Short m fd) {row : List Nat} {s : Nat} (hr : ∀ p ∈ row, p < m) (hl : row.length ≤ 3) (al : AllIn fd row) : (mkT s (row.map (gv fd))).length ≤ 4 ^ (cnt m fd + 1) := by
  unfold mkT
  rw [flat_map, List.length_cons, cat_len]
  have h1 := sumN_bd (N := fun k => (gv fd k).length) (B := 4 ^ cnt m fd) (r := row) fun p hp => h p (hr p hp) _ (gv_some (al p hp))
  have h2 : 4 ^ cnt m fd * row.length ≤ 4 ^ cnt m fd * 3 := Nat.mul_le_mul_left _ hl
  have h3 : 0 < 4 ^ cnt m fd := Nat.pow_pos (by decide)
  rw [Nat.pow_succ]
  omega
theorem Short.put {m k : Nat} {fd : Nat → Option (List Nat)} {t : List Nat} (h : Short m fd) (hk : k < m) (ht : t.length ≤ 4 ^ (cnt m fd + 1)) (b : Better lt2 fd k t) : Short m (setF fd k t) := by
  obtain ⟨c1, c2⟩ := cnt_set (t := t) (fd := fd) hk
  intro j hj u hu
  have up : 4 ^ cnt m fd ≤ 4 ^ cnt m (setF fd k t) := Nat.pow_le_pow_right (by decide) c1
  unfold setF at hu
  by_cases z : j = k
  · rw [if_pos z] at hu
    cases hu
    rcases b with b | ⟨u, hu, hl⟩
    · exact Nat.le_trans ht (Nat.pow_le_pow_right (by decide) (c2 b))
    · exact Nat.le_trans (Nat.le_trans (le2_len (lt2_le hl)) (h k hk u hu)) up
  · rw [if_neg z] at hu
    exact Nat.le_trans (h j hj u hu) up
/-- the dict tells what is found -/
def FD (kv : List (L2.Key × V)) (fd : Nat → Option (List Nat)) : Prop := ∀ k : Nat, valV kv (.inl (k : Nat)) = (fd k).map fun t => V.str (mkS t)
theorem FD.put {kv : List (L2.Key × V)} {fd : Nat → Option (List Nat)} (h : FD kv fd) (k : Nat) (t : List Nat) : FD (putK kv (.inl (k : Nat)) (.str (mkS t))) (setF fd k t) := fun j => by
  rw [valV_put]
  unfold setF
  by_cases z : j = k
  · rw [if_pos z, if_pos (by rw [z])]
    rfl
  · rw [if_neg z, if_neg (fun e => z (by have := Sum.inl.inj e; omega))]
    exact h j
theorem join_txt {K : PySem.W.Frag} {H : Hp} {Q : VK} {q : Addr} {ts : List (List Nat)} (h : H q = some (.lst (ts.map fun t => V.str (mkS t)))) (hl : (ts.map List.length).sum ≤ 16777216) (k : Q (.str (mkS ts.flatten)) H) : mJoin K (.str "") [.ref q] H Q := by
  refine ⟨"", q, ts.map mkS, rfl, rfl, .inl (sql_of ?_), ?_, ?_⟩
  · rw [h, List.map_map]
    rfl
  · rw [List.map_map, show ("" : Str).length = 0 from rfl, Nat.mul_zero, Nat.add_zero]
    refine Nat.le_trans (Nat.le_of_eq ?_) hl
    exact congrArg List.sum (List.map_congr_left fun t _ => len_mk t)
  · have e : Txt.join "" (ts.map mkS) = mkS ts.flatten := by
      rw [show Txt.join _ _ = Str.join _ _ from PySem.StrLaws.glued_eq_join _ _, show ("" : Str) = ⟨#[]⟩ from rfl]
      clear h hl k
      refine str_ext ?_
      rw [cs_mk]
      induction ts with
      | nil => rfl
      | cons t r ih =>
        cases r with
        | nil => show cs (mkS t) = _; rw [cs_mk]; simp
        | cons u r =>
          show cs (mkS t ++ ⟨#[]⟩ ++ Str.join ⟨#[]⟩ ((u :: r).map mkS)) = _
          rw [cs_app, cs_app, ih, cs_mk]
          simp [cs]
    rw [e]
    exact k
theorem dlt_int (x y : Int) : PySem.W.dataLt (.int x) (.int y) = decide (x < y) := by
  have h := congrFun (congrFun (PySem.W.dataLe_int (fun z : Int => z)) y) x
  rw [PySem.W.dataLe_eq] at h
  simp only [cond_false] at h
  rw [Bool.eq_iff_iff] at h ⊢
  simp at h
  rw [← Bool.not_eq_false, h, decide_eq_true_eq]
  omega
theorem dlt_str (x y : Str) : PySem.W.dataLt (.str x) (.str y) = lx (cs x) (cs y) := by
  have h := congrFun (congrFun (PySem.W.dataLe_str (fun z : Str => z)) y) x
  rw [PySem.W.dataLe_eq] at h
  simp only [cond_false] at h
  rw [Bool.eq_iff_iff, lx_iff]
  rw [Bool.eq_iff_iff] at h
  simp at h
  rw [← Bool.not_eq_false, h]
  simp [cs]
theorem dlt_lt2 (a b : List Nat) : PySem.W.dataLt (.tuple [.int ((a.length : Nat) : Int), .str (mkS a)]) (.tuple [.int ((b.length : Nat) : Int), .str (mkS b)]) = lt2 a b := by
  rw [PySem.W.dataLt_pair rfl rfl, dlt_int, dlt_str, cs_mk, cs_mk]
  have e1 : PyData.eqv (.int ((a.length : Nat) : Int)) (.int ((b.length : Nat) : Int)) = decide (a.length = b.length) := by
    show decide (((a.length : Nat) : Int) = ((b.length : Nat) : Int)) = _
    rw [decide_eq_decide]
    omega
  have e2 : PyData.eqv (.str (mkS a)) (.str (mkS b)) = decide (a = b) := by
    show decide (mkS a = mkS b) = _
    rw [decide_eq_decide]
    exact ⟨fun h => by have := congrArg cs h; rwa [cs_mk, cs_mk] at this, fun h => by rw [h]⟩
  rw [e1, e2]
  unfold lt2
  by_cases h : a.length = b.length
  · rw [decide_eq_true h, if_pos rfl]
    by_cases z : a = b
    · rw [decide_eq_true z, if_pos rfl, z, lx_irr]
      simp
    · rw [decide_eq_false z, if_neg Bool.false_ne_true, decide_eq_false (by omega)]
      simp
  · rw [decide_eq_false h, if_neg Bool.false_ne_true]
    simp
/-- within a round: i ways are done -/
def BfI (H : Hp) (a f : Addr) (m : Nat) (F : Nat → List Nat) (t : Nat) (done : Wys) (B : Nat) (σ : L2.St) (H' : Hp) : Prop :=
  ∃ (o2 o3 o4 o5 o6 o7 : Option V), σ = [some (.ref a), some (.ref f), o2, o3, o4, o5, o6, o7] ∧ Same H H' ∧ ∃ kv fd, H' f = some (.dK kv) ∧ FD kv fd ∧ kv.length ≤ B ∧ Short m fd ∧ Rnd lt2 mkT F m (rnk m F) t done fd
theorem pure_law_bfirsts {K : PySem.W.Frag} (vs : List V) (H : Hp) (Q : VK) (E : XK) (h : sp_law_bfirsts K vs H Q E) : t_law_bfirsts K { nx := fun _ H' => Q .non H', rt := Q } (start n_law_bfirsts vs) H := by
  obtain ⟨a, S, m, W, F, rfl, c, m8, r3, q⟩ := h
  obtain ⟨d, kvs, ha, hd, wr⟩ := c.ex
  have sl : 1000000 ≤ sizeLine := by decide
  have B : Best lt2 mkT F m W (rnk m F) := bestT c.w.fst fun w hw => ⟨(c.w.ok w hw).1, (c.w.ok w hw).2.2.2⟩
  unfold t_law_bfirsts
  walk_at "gw"
  refine .inl fun f hf => ?_
  have s0 := same_new (o := .dK []) hf
  have e0 : upd H f (.dK []) f = some (.dK []) := upd_same
  generalize upd H f (.dK []) = H0 at s0 e0
  have ha0 := s0 _ _ ha
  walk_at "gw"
  refine e_rng (by omega) (by omega) ?_
  rw [show ((m : Nat) : Int) + 1 = ((m + 1 : Nat) : Int) by omega, show ((m + 1 : Nat) : Int).toNat = m + 1 by omega]
  refine for_it walk_range (fun t => BfI H a f m F t [] (1000 * t)) ⟨none, none, none, none, none, none, rfl, s0, [], fun _ => none, e0, fun _ => rfl, by simp, fun k _ t ht => (nomatch ht), Rnd.start⟩ (fun _ _ _ _ _ => True.intro) ?_ ?_
  · rintro t y σ H1 H2 ht ⟨o2, o3, o4, o5, o6, o7, rfl, s1, kv, fd, e1, hFD, hkv, hsh, R⟩ ⟨rfl, rfl⟩
    have ha1 := s1 _ _ ha
    have hd1 := s1 _ _ hd
    walk_at "gw"
    refine w_iseqL ?_
    walk_at "gw"
    have wr1 := wr.imp fun v r h => RowT.same s1 h
    have shape : ∀ kv ∈ kvs, ∃ (i : Int) (z : Str), kv.1 = [.inl i, .inr z] := fun kv hkv => by
      obtain ⟨i, hi⟩ := List.mem_iff_getElem?.mp hkv
      obtain ⟨w, _, e, _⟩ := wr1.get (k := kv.1) (v := kv.2) hi
      exact ⟨_, _, e⟩
    refine .inr ⟨d, kvs, rfl, .inl hd1, shape, fun ks bs p pk pr hp => ?_⟩
    rw [wr1.keys] at pk
    obtain ⟨Wp, pW, rfl⟩ := perm_unmap pk W rfl
    have s2 := same_new (o := .lst (bs.map V.ref)) hp
    have s3 : Same H (upd H2 p (.lst (bs.map V.ref))) := fun b o e => s2 b o (s1 b o e)
    have pr3 : Paired (fun (w : Kd × List Nat) b => upd H2 p (.lst (bs.map V.ref)) b = some (.tup ((kOf w.1).map kV))) Wp bs := by
      have : ∀ {l : Wys} {bs : List Addr}, Paired (fun k b => H2 b = some (.tup (k.map kV))) (l.map fun w => kOf w.1) bs → Paired (fun (w : Kd × List Nat) b => H2 b = some (.tup ((kOf w.1).map kV))) l bs := by
        intro l
        induction l with
        | nil => intro bs h; cases h; exact .nil
        | cons w l ih => intro bs h; cases h with
          | cons h t => exact .cons h (ih t)
      exact Paired.mapP (this pr) fun _ _ h => s2 _ _ h
    have e3 := s2 _ _ e1
    have hp3 : upd H2 p (.lst (bs.map V.ref)) p = some (.lst (bs.map V.ref)) := upd_same
    have hpf : p ≠ f := fun e => by rw [e, e1] at hp; cases hp
    have hpn : H p = none := same_free s1 hp
    generalize upd H2 p (.lst (bs.map V.ref)) = H3 at s3 pr3 e3 hp3
    clear s2 hp pr wr1 hd1 ha1 e1 s1 pk H2
    have lb : (bs.map V.ref).length = Wp.length := by rw [List.length_map]; exact (paired_len pr3).symm
    refine e_ilist (sql_of hp3) ?_
    -- what the keys' list says stays
    refine for_it walk_list (fun i σ H' => Frm [f] H3 H' ∧ BfI H a f m F t (Wp.take i) (1000 * t + i) σ H') ⟨Frm.refl _ _, _, _, _, _, _, _, rfl, s3, kv, fd, e3, hFD, by omega, hsh, R⟩ (fun i σ H' _ e => sql_of (e.1.at_ _ _ (by simpa using hpf) hp3)) ?_ ?_
    · rintro i y σ H4 H5 hi ⟨f4, o2, o3, o4, o5, o6, o7, rfl, s4, kv, fd, e4, hFD, hkv, hsh, R⟩ ⟨rfl, hy⟩
      rw [lb] at hi
      obtain ⟨b, hb, rfl⟩ : ∃ b, bs[i]? = some b ∧ y = .ref b := by
        rw [List.getElem?_map] at hy
        obtain ⟨b, h1, h2⟩ := Option.map_eq_some_iff.mp hy
        exact ⟨b, h1, h2.symm⟩
      obtain ⟨⟨⟨kd, s⟩, row⟩, hw, eb3⟩ := paired_at pr3 hb
      have hwW : ((kd, s), row) ∈ W := pW.mem_iff.mp (List.mem_of_getElem? hw)
      have nbf : b ≠ f := fun e => by rw [e, e3] at eb3; cases eb3
      have eb := f4.at_ _ _ (by simpa using nbf) eb3
      have tk : Wp.take (i + 1) = Wp.take i ++ [((kd, s), row)] := by rw [List.take_add_one, hw]; rfl
      obtain ⟨w1, w2, w3, w4⟩ := c.w.ok _ hwW
      have w5 : row.length ≤ 3 := r3 _ hwW
      simp only at w1 w4
      obtain ⟨r, v, lk, vl, ra⟩ : ∃ r v, look W (kd, s) = some r ∧ valV kvs (kOf (kd, s)) = some v ∧ RowT K H v r := by
        rcases wr.val (kd, s) with ⟨h1, _⟩ | h
        · rw [look_of c.w.nd hwW] at h1; cases h1
        · exact h
      rw [look_of c.w.nd hwW] at lk
      cases lk
      obtain ⟨a1, rfl, ha1⟩ := ra
      have ha4 := s4 _ _ ha
      refine w_gtup (sqt_of eb) rfl ?_
      show gCons (gName 3) (gCons (gName 4) gNil) [V.int (kd : Nat), V.str (sgS s)] _ _ _
      walk_at "gw"
      refine ⟨by show 2 ≤ sizeLine; omega, fun p1 hp1 => ?_⟩
      have n1 := same_new (o := .tup [V.int (kd : Nat), .str (sgS s)]) hp1
      have ep1 : upd H5 p1 (.tup [V.int (kd : Nat), .str (sgS s)]) p1 = some (.tup ((kOf (kd, s)).map kV)) := upd_same
      have s6 : Same H (upd H5 p1 (.tup [V.int (kd : Nat), .str (sgS s)])) := fun b o e => n1 b o (s4 b o e)
      have e6 := n1 _ _ e4
      have f6 : Frm [f] H3 (upd H5 p1 (.tup [V.int (kd : Nat), .str (sgS s)])) := f4.trans (Same.frm n1)
      generalize upd H5 p1 (.tup [V.int (kd : Nat), .str (sgS s)]) = H6 at ep1 s6 e6 f6
      clear n1 hp1 f4 s4 e4 eb ha4 H5
      refine ix_d (.inr ⟨kvs, kOf (kd, s), p1, .inl (s6 _ _ hd), rfl, ep1, vl.symm⟩) ?_
      walk_at "gw"
      have ha6 := sqt_same s6 ha1
      have len60 : (rI row).length ≤ sizeLine := by rw [rI_len]; exact Nat.le_trans w5 (by decide)
      refine iseq_a rfl (.inr ha6) fun J Gw wk hG => ?_
      rw [rI_len] at wk
      refine lc_im wk (fun j => (fd (row.getD j 0)).isNone) (fun j => .int (row.getD j 0 : Nat)) (by rw [rI_len] at len60; exact len60) (fun _ H' _ e => hG H' (Same.rds e)) ?_ ?_
      · rintro j x H7 H8 KY KN hj s7 ⟨rfl, hx⟩ kY kN
        obtain ⟨z, hz, rfl⟩ := rI_get hx
        have ez : row.getD j 0 = z := by rw [List.getD_eq_getElem?_getD, hz]; rfl
        rw [ez] at kY kN
        walk_at "gw"
        refine ⟨rfl, ?_⟩
        walk_at "gw"
        refine notin_d (.inl ⟨kv, .inl (z : Nat), .inl (s7 _ _ e6), rfl, rfl⟩) ?_
        rw [hFD z]
        cases ez2 : fd z with
        | none =>
          rw [ez2] at kY
          walk_at "gw"
          refine w_iteT rfl ?_
          walk_at "gw"
          exact kY rfl _ (Same.refl _)
        | some u =>
          rw [ez2] at kN
          walk_at "gw"
          refine w_iteF rfl ?_
          exact kN rfl _ (Same.refl _)
      · intro D H7 hD s7 h5
        rw [given_fil (fun z => (fd z).isNone) (fun z => V.int (z : Nat))] at h5
        walk_at "gw"
        refine ⟨Nat.zero_le _, fun l hl => ?_⟩
        have n8 := same_new (o := .lst []) hl
        have s8 : Same H6 (upd H7 l (.lst [])) := fun b o e => n8 b o (s7 b o e)
        refine eq_D (.lst (sql_of (n8 _ _ h5)) (dpa_map (d := fun z => PyData.int (z : Nat)) fun x _ => .int _)) (.lst (sql_of upd_same) .nil) ((sh_list (n := 0) fun d hd => ?_).ok (by decide)) ((sh_list (n := 0) fun d hd => by cases hd).ok (by decide)) ?_
        · obtain ⟨_, _, rfl⟩ := List.mem_map.mp hd
          exact sh_int
        rw [show PyData.eqv (.list ((row.filter fun z => (fd z).isNone).map fun z => PyData.int (z : Nat))) (.list []) = ((row.filter fun z => (fd z).isNone).map fun z => PyData.int (z : Nat)).isEmpty from eqvAll_nil]
        generalize upd H7 l (.lst []) = H8 at s8
        clear n8 hl s7 h5 hD H7
        have e8 := s8 _ _ e6
        have f8 : Frm [f] H3 H8 := f6.trans (Same.frm s8)
        have s08 : Same H H8 := fun b o e => s8 b o (s6 b o e)
        walk_at "gw"
        refine w_ite (fun e => ?_) (fun e => ?_)
        · have al : AllIn fd row := fun z hz => by
            cases q : fd z with
            | some u => rfl
            | none =>
              exfalso
              rw [List.isEmpty_map, List.isEmpty_iff, List.filter_eq_nil_iff] at e
              exact e z hz (by rw [q]; rfl)
          have cand := hsh.cand (s := s) w4 w5 al
          have cl := cnt_le (m := m) (fd := fd)
          have p9 : 4 ^ (cnt m fd + 1) ≤ 4 ^ 9 := Nat.pow_le_pow_right (by decide) (by omega)
          have p9' : (4 : Nat) ^ 9 = 262144 := by decide
          walk_at "gw"
          refine iseq_a rfl (.inr (sqt_same s8 ha6)) fun J Gw wk hG => ?_
          rw [rI_len] at wk
          refine lc_im wk (fun _ => true) (fun j => .str (mkS (gv fd (row.getD j 0)))) (by rw [rI_len] at len60; exact len60) (fun _ H' _ e => hG H' (Same.rds e)) ?_ ?_
          · rintro j x H9 H10 KY KN hj s9 ⟨rfl, hx⟩ kY kN
            obtain ⟨z, hz, rfl⟩ := rI_get hx
            have ez : row.getD j 0 = z := by rw [List.getD_eq_getElem?_getD, hz]; rfl
            rw [ez] at kY
            walk_at "gw"
            refine ⟨rfl, ?_⟩
            walk_at "gw"
            refine w_iteT rfl ?_
            walk_at "gw"
            refine ix_d (v := .str (mkS (gv fd z))) (.inl ⟨kv, .inl (z : Nat), .inl (s9 _ _ e8), rfl, ?_⟩) (kY rfl _ (Same.refl _))
            rw [hFD z, gv_some (al z (List.mem_of_getElem? hz))]
            rfl
          · intro D2 H9 hD2 s9 h5
            rw [given_row (fun z => V.str (mkS (gv fd z)))] at h5
            have em : mkT s (row.map (gv fd)) = s :: cat (gv fd) row := by unfold mkT; rw [flat_map]
            have lm : (mkT s (row.map (gv fd))).length ≤ 262144 := by omega
            refine join_txt (ts := row.map (gv fd)) (h5.trans (by rw [List.map_map]; rfl)) ?_ ?_
            · rw [em, List.length_cons, cat_len] at lm
              rw [List.map_map]
              show sumN (fun k => (gv fd k).length) row ≤ _
              omega
            have lc : (cat (gv fd) row).length + 1 ≤ 262144 := by rw [em, List.length_cons] at lm; exact lm
            rw [flat_map]
            refine plus_s (by rw [len_mk]; show 1 + _ ≤ _; omega) ?_
            have et : sgS s ++ mkS (cat (gv fd) row) = mkS (mkT s (row.map (gv fd))) := str_ext (by rw [cs_app, cs_mk, cs_mk, em]; rfl)
            rw [et]
            have e9 := s9 _ _ e8
            have s09 : Same H H9 := fun b o e => s9 b o (s08 b o e)
            have f9 : Frm [f] H3 H9 := f8.trans (Same.frm s9)
            have put : Better lt2 fd kd (mkT s (row.map (gv fd))) → FD (putK kv (.inl (kd : Nat)) (.str (mkS (mkT s (row.map (gv fd)))))) (setF fd kd (mkT s (row.map (gv fd)))) ∧ (putK kv (.inl (kd : Nat)) (.str (mkS (mkT s (row.map (gv fd)))))).length ≤ 1000 * t + (i + 1) ∧
                Short m (setF fd kd (mkT s (row.map (gv fd)))) ∧ Rnd lt2 mkT F m (rnk m F) t (Wp.take (i + 1)) (setF fd kd (mkT s (row.map (gv fd)))) := fun bt => by
              refine ⟨hFD.put kd _, ?_, hsh.put w1 cand bt, ?_⟩
              · have := length_putK kv (.inl (kd : Nat)) (.str (mkS (mkT s (row.map (gv fd)))))
                omega
              · rw [tk]
                exact R.put B hwW al bt
            have skip : (∃ u, fd kd = some u ∧ lt2 (mkT s (row.map (gv fd))) u = false) → Rnd lt2 mkT F m (rnk m F) t (Wp.take (i + 1)) fd := fun no => by
              rw [tk]
              exact R.pass B hwW fun _ => no
            have lkv : kv.length < sizeLine := by
              have w100 := c.w.w100
              have lW := pW.length_eq
              omega
            have nfH : ∀ {H' : Hp} {o : HO}, Same H H' → Same H (upd H' f o) := fun e => same_updN hf e
            generalize mkT s (row.map (gv fd)) = tx at put skip lm cand
            walk_at "gw"
            refine notin_d (.inl ⟨kv, .inl (kd : Nat), .inl e9, rfl, rfl⟩) ?_
            rw [hFD kd]
            cases ek : fd kd with
            | none =>
              walk_at "gw"
              refine w_iteT rfl ?_
              refine w_iteT rfl ?_
              walk_at "gw"
              refine set_d (.inl ⟨kv, .inl (kd : Nat), e9, rfl, lkv, rfl⟩) ?_
              walk_at "gw"
              obtain ⟨g2, g3, g4, g5⟩ := put (.inl ek)
              exact ⟨f9.trans (frm_upd (by simp)), _, _, _, _, _, _, rfl, nfH s09, _, _, upd_same, g2, g3, g4, g5⟩
            | some u =>
              have lu : u.length ≤ 262144 := by
                have := hsh kd w1 u ek
                have p8 : 4 ^ cnt m fd ≤ 4 ^ 9 := Nat.pow_le_pow_right (by decide) (by omega)
                omega
              walk_at "gw"
              refine w_iteF rfl ?_
              walk_at "gw"
              refine len_s (by rw [len_mk]; omega) ?_
              walk_at "gw"
              refine ⟨by show 2 ≤ sizeLine; omega, fun p2 hp2 => ?_⟩
              have n2 := same_new (o := .tup [V.int (mkS tx).length, .str (mkS tx)]) hp2
              have e10 := n2 _ _ e9
              have k2 : upd H9 p2 (.tup [V.int (mkS tx).length, .str (mkS tx)]) p2 = some (.tup [V.int (mkS tx).length, .str (mkS tx)]) := upd_same
              have s10 : Same H (upd H9 p2 (.tup [V.int (mkS tx).length, .str (mkS tx)])) := fun b o e => n2 b o (s09 b o e)
              have f10 : Frm [f] H3 (upd H9 p2 (.tup [V.int (mkS tx).length, .str (mkS tx)])) := f9.trans (Same.frm n2)
              generalize upd H9 p2 (.tup [V.int (mkS tx).length, .str (mkS tx)]) = H10 at e10 k2 s10 f10
              have vu : some (V.str (mkS u)) = valV kv (.inl (kd : Nat)) := by rw [hFD kd, ek]; rfl
              walk_at "gw"
              refine ix_d (v := .str (mkS u)) (.inl ⟨kv, .inl (kd : Nat), .inl e10, rfl, vu⟩) ?_
              walk_at "gw"
              refine len_s (by rw [len_mk]; omega) ?_
              walk_at "gw"
              refine ix_d (v := .str (mkS u)) (.inl ⟨kv, .inl (kd : Nat), .inl e10, rfl, vu⟩) ?_
              walk_at "gw"
              refine ⟨by show 2 ≤ sizeLine; omega, fun p3 hp3 => ?_⟩
              have n3 := same_new (o := .tup [V.int (mkS u).length, .str (mkS u)]) hp3
              have e11 := n3 _ _ e10
              have s11 : Same H (upd H10 p3 (.tup [V.int (mkS u).length, .str (mkS u)])) := fun b o e => n3 b o (s10 b o e)
              have f11 : Frm [f] H3 (upd H10 p3 (.tup [V.int (mkS u).length, .str (mkS u)])) := f10.trans (Same.frm n3)
              refine .inr ⟨.tuple [.int ((tx.length : Nat) : Int), .str (mkS tx)], .tuple [.int ((u.length : Nat) : Int), .str (mkS u)], .tup (l2t (n3 _ _ k2)) (.cons ?_ (.cons (.str _) .nil)), .tup (l2t upd_same) (.cons ?_ (.cons (.str _) .nil)), rfl, (fun z => nomatch z), (by show 1 ≤ 8; decide), ?_⟩
              · rw [len_mk]; exact .int _
              · rw [len_mk]; exact .int _
              rw [dlt_lt2]
              walk_at "gw"
              refine w_ite (fun e => ?_) (fun e => ?_)
              · walk_at "gw"
                refine set_d (.inl ⟨kv, .inl (kd : Nat), e11, rfl, lkv, rfl⟩) ?_
                walk_at "gw"
                obtain ⟨g2, g3, g4, g5⟩ := put (.inr ⟨u, ek, e⟩)
                exact ⟨f11.trans (frm_upd (by simp)), _, _, _, _, _, _, rfl, nfH s11, _, _, upd_same, g2, g3, g4, g5⟩
              · walk_at "gw"
                exact ⟨f11, _, _, _, _, _, _, rfl, s11, kv, fd, e11, hFD, by omega, hsh, skip ⟨u, ek, e⟩⟩
        · walk_at "gw"
          refine ⟨f8, _, _, _, _, _, _, rfl, s08, kv, fd, e8, hFD, by omega, hsh, ?_⟩
          rw [tk]
          refine R.pass B hwW fun al => ?_
          exfalso
          have e2 : (row.filter fun z => (fd z).isNone) = [] := by
            rw [List.filter_eq_nil_iff]
            intro z hz
            cases q : fd z with
            | some u => simp
            | none => have := al z hz; rw [q] at this; cases this
          rw [e2] at e
          cases e
    · rintro σ H4 ⟨f4, o2, o3, o4, o5, o6, o7, rfl, s4, kv, fd, e4, hFD, hkv, hsh, R⟩
      rw [lb, List.take_length] at R
      rw [lb] at hkv
      have w100 := c.w.w100
      have lW := pW.length_eq
      exact ⟨_, _, _, _, _, _, rfl, s4, kv, fd, e4, hFD, by omega, hsh, R.round B fun w hw => pW.mem_iff.mpr hw⟩
  · rintro σ H1 ⟨o2, o3, o4, o5, o6, o7, rfl, s1, kv, fd, e1, hFD, hkv, hsh, R⟩
    unfold t_law_bfirsts_p1
    walk_at "gw"
    refine q f kv _ s1 hf e1 fun k hk => ?_
    rw [hFD k, R.old k hk (by have := rnk_le (m := m) (F := F) (k := k); omega)]
    rfl
end Pt.Re
namespace Pt.Re
/-! ### a made core -/
def sp_law_bmade (K : PySem.W.Frag) : Sp := fun vs H Q _ => ∃ (s c : Addr) (n : Nat) (a : Addr), ∃ S m W F, vs = [.ref s, .ref a] ∧ CoreF K ∧ Strm s c n H ∧ n + 1000 < 1099511627776 ∧ LC K (hid [s, c] H) a S m W F ∧
  ∀ x k H', k ≤ 500 → Frm [s, c] H H' → Strm s c (n + k) H' → CW K (hid [s, c] H') x S m W F → Q (.ref x) H'
abbrev n_law_bmade : List Str := ["stream", "core", "signs", "many", "ways", "rows", "key"]
def t_law_bmade (K : PySem.W.Frag) : TS :=
  tSeq (tAsg (tVar 1) (gLst K 3 (gCons (gName 2) (gCons (gName 3) (gCons (gName 4) (gNil)))))) (tSeq (tAsg (tCB (cDictPT K) (tCons (tLc (iSeq K (tOwn (sp_law_mixed K) (tCons (tVar 0) (tCons (tCB (cList K) (tCons (tVar 4) (tNil))) (tNil))))) (gName 6) (tYes) (tTup (tCons (tVar 6) (tCons (tOwn (sp_law_loose K 3) (tCons (tVar 0) (tCons (tOp (rIxU K) (tVar 4) (tVar 6)) (tNil)))) (tNil)))) [6]) (tNil))) (gName 5)) (tRet (tMk (He.ga K "Core") (sp_Core_init__ K) (tCons (tM1 (mJoin K) (tC (.str "")) (tOwn (sp_law_mixed K) (tCons (tVar 0) (tCons (tCB (cList K) (tCons (tVar 2) (tNil))) (tNil))))) (tCons (tVar 3) (tCons (tVar 5) (tNil)))))))
theorem paired_perm {α β : Type} {F : α → β → Prop} {ys ys' : List β} (p : ys'.Perm ys) : ∀ {xs : List α}, Paired F xs ys → ∃ xs' : List α, xs'.Perm xs ∧ Paired F xs' ys' := by
  induction p with
  | nil => intro xs h; exact ⟨xs, List.Perm.refl _, h⟩
  | cons y p ih =>
    intro xs h
    cases h with
    | cons h t =>
      obtain ⟨xs', p', q⟩ := ih t
      exact ⟨_, p'.cons _, .cons h q⟩
  | swap y z l =>
    intro xs h
    cases h with
    | cons h1 t => cases t with
      | cons h2 t => exact ⟨_, List.Perm.swap _ _ _, .cons h2 (.cons h1 t)⟩
  | trans p1 p2 ih1 ih2 =>
    intro xs h
    obtain ⟨x1, q1, r1⟩ := ih2 h
    obtain ⟨x2, q2, r2⟩ := ih1 r1
    exact ⟨x2, q2.trans q1, r2⟩
theorem _root_.Pt.PairT.same {K : PySem.W.Frag} {H H' : Hp} {p : Addr} {kv : List L2.Key × V} (h : PairT K H p kv) (e : Same H H') : PairT K H' p kv := let ⟨q, h1, h2⟩ := h; ⟨q, Pt.sqt_same e h1, e _ _ h2⟩
theorem mergeT_nd : ∀ {more kvs : List (List L2.Key × V)}, ((kvs ++ more).map (·.1)).Nodup → mergeT kvs more = kvs ++ more
  | [], kvs, _ => by simp [mergeT]
  | p :: r, kvs, h => by
    have e : L2.putK kvs p.1 p.2 = kvs ++ [p] := by
      refine putK_new fun z => ?_
      rw [List.map_append, List.nodup_append] at h
      exact h.2.2 p.1 z p.1 (by simp) rfl
    show mergeT (L2.putK kvs p.1 p.2) r = _
    rw [e, mergeT_nd (by simpa using h)]
    simp
theorem WfC.perm {S : Str} {m : Nat} {W V : Wys} {F : Nat → List Nat} (h : WfC S m W F) (p : V.Perm W) : WfC S m V F where
  sg := h.sg
  len := h.len
  so := h.so
  m12 := h.m12
  w100 := by rw [p.length_eq]; exact h.w100
  nd := (p.map _).nodup_iff.mpr h.nd
  ok := fun w hw => h.ok w (p.mem_iff.mp hw)
  fst := h.fst.congr fun w => p.mem_iff.symm
  sz := h.sz
/-- what holds no list of the spring's stands without it -/
theorem cor_hid {K : PySem.W.Frag} {H : Hp} {s c x : Addr} {S : Str} {m n : Nat} {W : Wys} {F : Nat → List Nat} (h : CorAt K H x S m W F) (st : Strm s c n H) (hl : ∀ l, FldAt K H x "shortest" (.ref l) → l ∉ [s, c]) : CorAt K (hid [s, c] H) x S m W F := by
  obtain ⟨cells, ac, mix, g1, g2, _⟩ := st
  have notin : ∀ {a : Addr} {o : HO}, H a = some o → (∀ xs, o ≠ .lst xs) → a ∉ [s, c] := fun {a o} e ne z => by
    simp only [List.mem_cons, List.not_mem_nil, or_false] at z
    rcases z with rfl | rfl
    · rw [g1] at e; exact ne _ (Option.some.inj e).symm
    · rw [g2] at e; exact ne _ (Option.some.inj e).symm
  have fld : ∀ {f : Str} {v : V}, FldAt K H x f v → FldAt K (hid [s, c] H) x f v := fun {f v} ⟨F, dx, fs, h1, h2⟩ => ⟨F, dx, fs, by rw [hid_at (notin h1 fun _ z => nomatch z)]; exact h1, h2⟩
  refine ⟨fld h.al, fld h.wd, ?_, ?_⟩
  · obtain ⟨d, kvs, V', h1, h2, h3, h4, h5⟩ := h.ro
    refine ⟨d, kvs, V', fld h1, by rw [hid_at (notin h2 fun _ z => nomatch z)]; exact h2, h3, h4.imp fun v r ⟨a, e, q⟩ => ⟨a, e, ?_⟩, h5⟩
    show _ = some _
    have q2 : H a = some (.tup (rI r)) := q
    rw [hid_at (notin q2 fun _ z => nomatch z)]
    exact q2
  · obtain ⟨l, h1, h2⟩ := h.sh
    exact ⟨l, fld h1, by rw [hid_at (hl l h1)]; exact h2⟩
theorem FldAt.uniq {K : PySem.W.Frag} {H : Hp} {x : Addr} {f : Str} {v u : V} (h : FldAt K H x f v) (g : FldAt K H x f u) : v = u := by
  obtain ⟨_, dx, fs, h1, h2⟩ := h
  obtain ⟨_, dx', fs', g1, g2⟩ := g
  rw [h1] at g1
  cases g1
  rw [h2] at g2
  exact Option.some.inj g2
theorem paired_comp {α β γ : Type} {F : α → β → Prop} {G : α → γ → Prop} {R : β → γ → Prop} : ∀ {xs : List α} {ys : List β} {zs : List γ}, Paired F xs ys → Paired G xs zs → (∀ x y z, F x y → G x z → R y z) → Paired R ys zs
  | _, _, _, .nil, h, _ => by cases h; exact .nil
  | _, _, _, .cons h t, g, f => by cases g with | cons g u => exact .cons (f _ _ _ h g) (paired_comp t u f)
theorem pure_law_bmade {K : PySem.W.Frag} (vs : List V) (H : Hp) (Q : VK) (E : XK) (h : sp_law_bmade K vs H Q E) : t_law_bmade K { nx := fun _ H' => Q .non H', rt := Q } (start n_law_bmade vs) H := by
  obtain ⟨s, c, n, a, S, m, W, F, rfl, CF, st, hn, lc, q⟩ := h
  have sl : 1000000 ≤ sizeLine := by decide
  obtain ⟨d, kvs, ha, hd, wr⟩ := lc.ex
  have wf := lc.w
  unfold t_law_bmade
  walk_at "gw"
  refine ⟨a, _, rfl, sql_of (hid_sub _ _ ha), rfl, ?_⟩
  walk_at "gw"
  refine w_iseqL ?_
  walk_at "gw"
  refine .inr (.inr (.inl ⟨d, kvs, rfl, .inl (hid_sub _ _ hd), fun p bs hp isk => ?_⟩))
  have s1 := same_new (o := .lst (bs.map V.ref)) hp
  have st1 := st.same s1
  have hpn : p ∉ [s, c] := st.inH.ne hp
  have lk : bs.length = W.length := by
    have h1 := paired_len isk
    have h2 := wr.len
    omega
  have w100 := wf.w100
  -- the keys' tuples, way by way
  have pk : Paired (fun (w : Kd × List Nat) b => hid [s, c] H b = some (.tup ((kOf w.1).map kV))) W bs := paired_comp wr isk fun kv w b h1 h2 => by
    have nb : b ∉ [s, c] := by
      obtain ⟨cells, ac, mix, g1, g2, _⟩ := st
      intro z
      simp only [List.mem_cons, List.not_mem_nil, or_false] at z
      rcases z with rfl | rfl
      · rw [g1] at h2; cases h2
      · rw [g2] at h2; cases h2
    rw [hid_at nb, ← h1.1]
    exact h2
  have hk : Same (hid [s, c] H) (hid [s, c] (upd H p (.lst (bs.map V.ref)))) := hid_same s1
  have hp1 : hid [s, c] (upd H p (.lst (bs.map V.ref))) p = some (.lst (bs.map V.ref)) := by rw [hid_at hpn]; exact upd_same
  have f1 : Frm [s, c] H (upd H p (.lst (bs.map V.ref))) := Same.frm s1
  generalize upd H p (.lst (bs.map V.ref)) = H1 at st1 hk hp1 f1
  clear s1 hp isk
  walk_at "gw"
  refine ⟨s, c, n, p, _, rfl, st1, by rw [List.length_map]; omega, .inl (sql_of hp1), by rw [List.length_map]; omega, fun ys q0 H2 pm f2 st2 hq0 hq2 => ?_⟩
  obtain ⟨bs', pb, rfl⟩ := perm_unmap pm bs rfl
  obtain ⟨Wp, pW, pk2⟩ := paired_perm pb pk
  rw [List.length_map] at st2
  have f02 := f1.trans f2
  have hk2 : Same (hid [s, c] H) (hid [s, c] H2) := hid_frm f02 fun _ h => h
  have lb : (bs'.map V.ref).length = Wp.length := by rw [List.length_map]; exact (paired_len pk2).symm
  have lW := pW.length_eq
  have q0n : q0 ∉ [s, c] := st1.inH.ne hq0
  have hqh : hid [s, c] H2 q0 = some (.lst (bs'.map V.ref)) := by rw [hid_at q0n]; exact hq2
  refine e_ilist (sql_of hq2) ?_
  have ndp : (Wp.map (·.1)).Nodup := (pW.map _).nodup_iff.mpr wf.nd
  refine lc_full (walk_list (xs := bs'.map V.ref)) [s, c] [s, c] (fun i acc H' => Strm s c (n + bs.length + i) H') (fun i acc G => ∃ ps kv', acc = ps.map V.ref ∧ Paired (PairT K G) ps kv' ∧ WysR (RowA K G) kv' (Wp.take i)) st2.inH (fun _ h => h) ?_ st2 (fun G _ => ⟨[], [], rfl, .nil, .nil⟩) ?_ ?_ ?_ ?_ ?_
  · rintro i acc H3 D ys hD st3
    have n1 := st2.inH.ne hD
    simp only [List.mem_cons, not_or] at n1
    obtain ⟨n2, n3, _⟩ := n1
    exact st3.frm (R := [D]) (frm_upd (by simp)) (by simpa using Ne.symm n2) (by simpa using Ne.symm n3)
  · rintro i acc G G' e ⟨ps, kv', h1, h2, h3⟩
    exact ⟨ps, kv', h1, Paired.mapP h2 fun _ _ h => h.same e, h3.imp fun _ _ h => RowA.same e h⟩
  · intro i acc H3 _ f3 _
    exact sql_of (f3.at_ _ _ q0n hq2)
  · rw [lb]; omega
  · rintro D i acc y H3 H4 Nx hD hi f3 kn inn hd' st3 ⟨ps, kv', rfl, h2, h3⟩ hl ⟨rfl, hy⟩ kY kN
    rw [lb] at hi
    obtain ⟨b, hb, rfl⟩ : ∃ b, bs'[i]? = some b ∧ y = .ref b := by
      rw [List.getElem?_map] at hy
      obtain ⟨b, h1, h2⟩ := Option.map_eq_some_iff.mp hy
      exact ⟨b, h1, h2.symm⟩
    obtain ⟨w, hw, eb⟩ := paired_at pk2 hb
    have hwW : w ∈ W := pW.mem_iff.mp (List.mem_of_getElem? hw)
    obtain ⟨r, v, lk', vl, ra⟩ : ∃ r v, look W w.1 = some r ∧ valV kvs (kOf w.1) = some v ∧ RowT K (hid [s, c] H) v r := by
      rcases wr.val w.1 with ⟨h1, _⟩ | h
      · rw [look_of wf.nd (r := w.2) hwW] at h1; cases h1
      · exact h
    rw [look_of wf.nd (r := w.2) hwW] at lk'
    cases lk'
    obtain ⟨a1, rfl, ha1⟩ := ra
    have hk3 : Same (hid [s, c] H) (hid [s, c] H4) := hid_frm (f02.trans f3) fun _ h => h
    have tk : Wp.take (i + 1) = Wp.take i ++ [w] := by rw [List.take_add_one, hw]; rfl
    walk_at "gw"
    refine ⟨rfl, ?_⟩
    walk_at "gw"
    refine w_iteT rfl ?_
    walk_at "gw"
    refine ix_d (.inr ⟨kvs, kOf w.1, b, .inl (hid_sub _ _ (hk3 _ _ hd)), rfl, hid_sub _ _ (hk3 _ _ eb), vl.symm⟩) ?_
    walk_at "gw"
    have ha4 : SqT K (hid (D :: [s, c]) H4) a1 (rI w.2) := sqt_same kn (sqt_same hk2 ha1)
    have lw := (wf.ok _ hwW).2.2.1
    refine .inr ⟨s, c, _, a1, w.2, D :: [s, c], rfl, by decide, st3, by omega, inn, fun z hz => List.mem_cons_of_mem _ hz, .inr ha4, by omega, fun v' H5 f5 st5 rv => ?_⟩
    walk_at "gw"
    refine ⟨by show 2 ≤ sizeLine; omega, fun p2 hp2 => ?_⟩
    have n2 := same_new (o := .tup [V.ref b, v']) hp2
    have p2n : p2 ∉ D :: [s, c] := (inn.frm f5).ne hp2
    have f45 : Frm [s, c] H4 (upd H5 p2 (.tup [V.ref b, v'])) := f5.trans (Same.frm n2)
    have h56 : Same (hid (D :: [s, c]) H5) (hid (D :: [s, c]) (upd H5 p2 (.tup [V.ref b, v']))) := hid_same n2
    have h46 : Same (hid (D :: [s, c]) H4) (hid (D :: [s, c]) (upd H5 p2 (.tup [V.ref b, v']))) := hid_frm f45 fun z hz => List.mem_cons_of_mem _ hz
    refine kY _ _ f45 ?_ ⟨ps ++ [p2], kv' ++ [(kOf w.1, v')], by simp, paired_snoc (Paired.mapP h2 fun _ _ h => h.same h46) ⟨b, Pt.sqt_of ?_, h46 _ _ (kn _ _ (hk2 _ _ eb))⟩, ?_⟩
    · rw [show n + bs.length + (i + 1) = n + bs.length + i + 1 by omega]
      exact st5.same n2
    · rw [hid_at p2n]
      exact upd_same
    · rw [tk]
      exact (h3.imp fun _ _ h => RowA.same h46 h).snoc rfl (RowA.same h56 rv)
  · rintro D acc H3 hD f3 inn kn hd' st3 ⟨ps, kv', rfl, h2, h3⟩ _
    rw [lb] at st3
    rw [lb, List.take_length] at h3
    have hDn : D ∉ [s, c] := st2.inH.ne hD
    walk_at "gw"
    refine ⟨D, ps, kv', rfl, sql_of hd', Paired.mapP h2 fun _ _ h => h.same hid_sub, fun d2 hd2 => ?_⟩
    have nk : (kv'.map (·.1)).Nodup := h3.nd ndp
    rw [mergeT_nd (kvs := []) (by simpa using nk), List.nil_append]
    have n4 := same_new (o := .dT kv') hd2
    have f4 : Frm [s, c] H (upd H3 d2 (.dT kv')) := (f02.trans f3).trans (Same.frm n4)
    have st4 := st3.same n4
    have d2n : d2 ∉ [s, c] := st3.inH.ne hd2
    have hd4 : upd H3 d2 (.dT kv') d2 = some (.dT kv') := upd_same
    have wr4 : WysR (RowA K (hid [s, c] (upd H3 d2 (.dT kv')))) kv' Wp := h3.imp fun _ _ h => RowA.same (hid_same n4) (RowA.same hid_cons h)
    generalize upd H3 d2 (.dT kv') = H4 at f4 st4 hd4 wr4
    clear n4 hd2 h2 h3 hd' kn inn f3 st3 hD H3
    walk_at "gw"
    refine .inr (.inr (.inr ⟨S, rfl, by have := wf.len; omega, fun p5 hp5 => ?_⟩))
    have s5 := same_new (o := .lst ((cs S).map sg)) hp5
    have p5n : p5 ∉ [s, c] := st4.inH.ne hp5
    have l6 : (cs S).length ≤ 6 := by have := wf.len; rw [size_cs] at this; exact this
    walk_at "gw"
    refine ⟨s, c, _, p5, (cs S).map sg, rfl, st4.same s5, by rw [List.length_map]; omega, .inl (sql_of (by rw [hid_at p5n]; exact upd_same)), by rw [List.length_map]; omega, fun ys q5 H6 pm5 f6 st6 hq5 hq6 => ?_⟩
    obtain ⟨l, pl, rfl⟩ := unsg pm5
    have ll := pl.length_eq
    refine join_q hq6 (by omega) ?_
    walk_at "gw"
    intro x dx hx hdx ndx
    have f46 : Frm [s, c] H4 H6 := (Same.frm s5).trans f6
    have hk6 : Same (hid [s, c] H4) (hid [s, c] H6) := hid_frm f46 fun _ h => h
    have hd6 : H6 d2 = some (.dT kv') := f46.at_ _ _ d2n hd4
    have nx2 : d2 ≠ x := fun e => by rw [e, hx] at hd6; cases hd6
    have nd2 : d2 ≠ dx := fun e => by rw [e, hdx] at hd6; cases hd6
    have n7 : Same H6 (upd (upd H6 dx (.own x)) x (.ins (He.ga K "Core") dx [])) := fun b o e => by
      rw [upd_ne (ne_of_none e hx), upd_ne (ne_of_none e hdx)]
      exact e
    have hx7 : upd (upd H6 dx (.own x)) x (.ins (He.ga K "Core") dx []) x = some (.ins (He.ga K "Core") dx []) := upd_same
    have xn : x ∉ [s, c] := st6.inH.ne hx
    generalize upd (upd H6 dx (.own x)) x (.ins (He.ga K "Core") dx []) = H7 at n7 hx7
    have st7 := st6.same n7
    refine ⟨x, dx, d2, mkS l, S, m, kv', Wp, F, rfl, CF, hx7, wf.perm pW, by rw [cs_mk]; exact pl, n7 _ _ hd6, wr4.imp fun v r h => RowA.same (fun b o e => n7 b o (hid_sub _ _ (hk6 _ _ e))) h, fun H8 f8 cor hsh => ⟨rfl, ?_⟩⟩
    have cxs : s ≠ x ∧ c ≠ x := by simpa [eq_comm] using xn
    have st8 : Strm s c (n + bs.length + Wp.length + ((cs S).map sg).length) H8 := st7.frm (R := [x]) f8 (by simpa using cxs.1) (by simpa using cxs.2)
    have f08 : Frm [s, c] H H8 := by
      have f06 := f4.trans f46
      refine ⟨fun b o hb e => ?_, fun b hb => f8.live b (Same.live n7 b (f06.live b hb))⟩
      have e6 := f06.at_ b o hb e
      exact f8.at_ b o (by simpa using ne_of_none e6 hx) (n7 _ _ e6)
    obtain ⟨lsh, fsh, hl7⟩ := hsh
    have cor8 := cor_hid cor st8 fun l2 g => by
      have e := fsh.uniq g
      cases e
      exact st7.inH.ne hl7
    refine q x (bs.length + Wp.length + ((cs S).map sg).length) H8 (by rw [List.length_map]; omega) f08 (by rw [← Nat.add_assoc, ← Nat.add_assoc]; exact st8) ⟨⟨cor8.al, cor8.wd, ?_, cor8.sh⟩, wf⟩
    obtain ⟨d3, kv3, V3, g1, g2, g3, g4, g5, g6⟩ := cor8.ro
    exact ⟨d3, kv3, V3, g1, g2, g3, g4, g5, fun w => (g6 w).trans pW.mem_iff⟩
end Pt.Re
namespace Pt.Re
/-! ### a drawn core -/
def sp_law_bcore (K : PySem.W.Frag) : Sp := fun vs H Q _ => ∃ (s c : Addr) (n : Nat) (S : Str) (m mo : Nat), vs = [.ref s, .str S, .int (m : Nat), .int (mo : Nat)] ∧ Strm s c n H ∧ n + 10000 < 1099511627776 ∧
  isSigns S = true ∧ S.cps.size ≤ 6 ∧ (cs S).Pairwise (· ≤ ·) ∧ 1 ≤ m ∧ m ≤ 12 ∧ mo ≤ 4 ∧
  ∀ a W F k H', k ≤ 5000 → Frm [s, c] H H' → Strm s c (n + k) H' → LC K (hid [s, c] H') a S m W F → (∀ w ∈ W, w.2.length ≤ max 2 mo) → Q (.ref a) H'
abbrev n_law_bcore : List Str := ["stream", "signs", "many", "most", "order", "ways", "size", "at", "kind", "row", "share", "sign", "turn", "part"]
def t_law_bcore_p1 (K : PySem.W.Frag) : TS :=
  tRet (tLst (tCons (tVar 1) (tCons (tVar 2) (tCons (tVar 5) (tNil)))))
def t_law_bcore_p2 (K : PySem.W.Frag) : TS :=
  tSeq (tAsg (tOwn (sp_law_pick K) (tCons (tVar 0) (tCons (tLst (tCons (tC (.int 2)) (tCons (tC (.int 3)) (tCons (tC (.int 9)) (tNil))))) (tNil)))) (gName 10)) (tSeq (tFor (iRng1 (tCons (tVar 2) (tNil))) (gName 8) (tFor (iStr (tVar 1)) (gName 11) (tIfS (tAnd (tTest (tOp (rNotInU K) (tTup (tCons (tVar 8) (tCons (tVar 11) (tNil)))) (tVar 5))) (tTest (tOp rGtI (tOwn (sp_law_below K) (tCons (tVar 0) (tCons (tVar 10) (tNil)))) (tC (.int 0))))) (tAsg (tOwn (sp_law_bkinds K) (tCons (tVar 0) (tCons (tVar 2) (tCons (tVar 3) (tNil))))) (gSub (tVar 5) (tTup (tCons (tVar 8) (tCons (tVar 11) (tNil)))) rSetU)) (tNext)))) (t_law_bcore_p1 K))
def t_law_bcore (K : PySem.W.Frag) : TS :=
  tSeq (tAsg (tTup (tCons (tOwn (sp_law_mixed K) (tCons (tVar 0) (tCons (tLstRg (tRg1 (tVar 2))) (tNil)))) (tCons (tDNew) (tCons (tDNew) (tNil))))) (gTup K 3 (gCons (gName 4) (gCons (gName 5) (gCons (gName 6) (gNil)))))) (tSeq (tFor (iEnum K (tCons (tVar 4) (tNil))) (gTup K 2 (gCons (gName 7) (gCons (gName 8) (gNil)))) (tSeq (tAsg (tIf (tTest (tOp rGtI (tVar 7) (tC (.int 0)))) (tCB (cTuple K) (tCons (tLc (iRng1 (tCons (tOwn (sp_law_below K) (tCons (tVar 0) (tCons (tC (.int 3)) (tNil)))) (tNil))) (gName 12) (tYes) (tOwn (sp_law_pick K) (tCons (tVar 0) (tCons (tSl (rSlU K) (tVar 4) (tNoPart) (tPart (tVar 7))) (tNil)))) [12]) (tNil))) (tTup (tNil))) (gName 9)) (tSeq (tAsg (tIf (tTest (tOp rLtI (tCB (rSum K) (tCons (tLc (iSeq K (tVar 9)) (gName 13) (tYes) (tOp (rIxU K) (tVar 6) (tVar 13)) [13]) (tNil))) (tC (.int 30)))) (tVar 9) (tTup (tNil))) (gName 9)) (tSeq (tAsg (tVar 9) (gSub (tVar 5) (tTup (tCons (tVar 8) (tCons (tOwn (sp_law_pick K) (tCons (tVar 0) (tCons (tCB (cList K) (tCons (tVar 1) (tNil))) (tNil)))) (tNil)))) rSetU)) (tAsg (tOp (rPlus K) (tC (.int 1)) (tCB (rSum K) (tCons (tLc (iSeq K (tVar 9)) (gName 13) (tYes) (tOp (rIxU K) (tVar 6) (tVar 13)) [13]) (tNil)))) (gSub (tVar 6) (tVar 8) rSetU)))))) (t_law_bcore_p2 K))
/-- the sizes' dict -/
def ZD (kv : List (L2.Key × V)) (zs : Nat → Option Nat) : Prop := ∀ k : Nat, valV kv (.inl (k : Nat)) = (zs k).map fun z => V.int (z : Nat)
theorem ZD.put {kv : List (L2.Key × V)} {zs : Nat → Option Nat} (h : ZD kv zs) (k z : Nat) : ZD (L2.putK kv (.inl (k : Nat)) (.int (z : Nat))) (setF zs k z) := fun j => by
  rw [valV_put]
  unfold setF
  by_cases e : j = k
  · rw [if_pos e, if_pos (by rw [e])]
    rfl
  · rw [if_neg e, if_neg (fun q => e (by have := Sum.inl.inj q; omega))]
    exact h j
/-- what stands of a core while it is drawn: ways, sizes; the kinds ks are met -/
structure Drn (S : Str) (m : Nat) (ks : List Nat) (W : Wys) (zs : Nat → Option Nat) : Prop where
  nd : (W.map (·.1)).Nodup
  ok : ∀ w ∈ W, w.1.1 < m ∧ w.1.2 ∈ cs S ∧ w.2.length ≤ 2 ∧ ∀ k ∈ w.2, k < m
  met : ∀ k, k ∈ ks → ∃ z s row, zs k = some z ∧ z ≤ 30 ∧ ((k, s), row) ∈ W ∧ z = 1 + sumN (fun j => (zs j).getD 0) row ∧ ∀ j ∈ row, j ∈ ks
  no : ∀ k, k ∉ ks → zs k = none ∧ ∀ w ∈ W, w.1.1 ≠ k
theorem Drn.start {S : Str} {m : Nat} : Drn S m [] [] (fun _ => none) :=
  ⟨by simp, fun w hw => (nomatch hw), fun k hk => (nomatch hk), fun k _ => ⟨rfl, fun w hw => (nomatch hw)⟩⟩
/-- one more kind -/
theorem Drn.add {S : Str} {m k s : Nat} {ks row : List Nat} {W : Wys} {zs : Nat → Option Nat} (h : Drn S m ks W zs) (hk : k < m) (new : k ∉ ks) (hs : s ∈ cs S) (hl : row.length ≤ 2) (hr : ∀ j ∈ row, j ∈ ks ∧ j < m) (hz : sumN (fun j => (zs j).getD 0) row < 30) :
    Drn S m (ks ++ [k]) (W ++ [((k, s), row)]) (setF zs k (1 + sumN (fun j => (zs j).getD 0) row)) := by
  have same : ∀ r : List Nat, (∀ j ∈ r, j ∈ ks) → sumN (fun j => (setF zs k (1 + sumN (fun j => (zs j).getD 0) row) j).getD 0) r = sumN (fun j => (zs j).getD 0) r := fun r hr => sumN_eq fun j hj => by
    show ((setF zs k _) j).getD 0 = (zs j).getD 0
    unfold setF
    rw [if_neg (fun e => new (by rw [← e]; exact hr j hj))]
  refine ⟨?_, fun w hw => ?_, fun j hj => ?_, fun j hj => ?_⟩
  · rw [List.map_append, List.nodup_append]
    refine ⟨h.nd, by simp, fun a ha b hb e => ?_⟩
    obtain ⟨w, hw, rfl⟩ := List.mem_map.mp ha
    have e2 : b = (k, s) := by simpa using hb
    exact (h.no k new).2 w hw (by rw [e, e2])
  · rcases List.mem_append.mp hw with z | z
    · exact h.ok w z
    · rw [List.mem_singleton.mp z]
      exact ⟨hk, hs, hl, fun j hj => (hr j hj).2⟩
  · rcases List.mem_append.mp hj with z | z
    · obtain ⟨y, s', r', h1, h2, h3, h4, h5⟩ := h.met j z
      have ne : j ≠ k := fun e => new (by rw [← e]; exact z)
      refine ⟨y, s', r', by unfold setF; rw [if_neg ne]; exact h1, h2, List.mem_append_left _ h3, by rw [same r' h5]; exact h4, fun i hi => List.mem_append_left _ (h5 i hi)⟩
    · rw [List.mem_singleton.mp z]
      refine ⟨_, s, row, by unfold setF; rw [if_pos rfl], by omega, by simp, by rw [same row fun i hi => (hr i hi).1], fun i hi => List.mem_append_left _ (hr i hi).1⟩
  · have n1 : j ∉ ks := fun z => hj (List.mem_append_left _ z)
    have n2 : j ≠ k := fun e => hj (by rw [e]; simp)
    refine ⟨by unfold setF; rw [if_neg n2]; exact (h.no j n1).1, fun w hw => ?_⟩
    rcases List.mem_append.mp hw with z | z
    · exact (h.no j n1).2 w z
    · rw [List.mem_singleton.mp z]
      exact fun e => n2 e.symm
/-- all kinds are met: a core, whatever ways are put to it -/
theorem Drn.grd {S : Str} {m : Nat} {ks : List Nat} {W V : Wys} {zs : Nat → Option Nat} (h : Drn S m ks W zs) (all : ∀ k, k < m → k ∈ ks) (sub : ∀ w ∈ W, w ∈ V) (ps : ∀ w ∈ V, ∀ p ∈ w.2, p < m) : Grd m V (fun k => (zs k).getD 0) ∧ ∀ k, k < m → (zs k).getD 0 ≤ 30 := by
  refine ⟨⟨fun k hk => ?_, ps⟩, fun k hk => ?_⟩
  · obtain ⟨z, s, row, h1, h2, h3, h4, _⟩ := h.met k (all k hk)
    exact ⟨s, row, sub _ h3, by show _ ≤ (zs k).getD 0; rw [h1]; show _ ≤ z; omega⟩
  · obtain ⟨z, s, row, h1, h2, _⟩ := h.met k (all k hk)
    rw [h1]
    exact h2
theorem wf_of {S : Str} {m : Nat} {V : Wys} {sz : Nat → Nat} (hg : isSigns S = true) (hl : S.cps.size ≤ 6) (hs : (cs S).Pairwise (· ≤ ·)) (hm : m ≤ 12) (hV : V.length ≤ 100) (nd : (V.map (·.1)).Nodup)
    (ok : ∀ w ∈ V, w.1.1 < m ∧ w.1.2 ∈ cs S ∧ w.2.length ≤ 60 ∧ ∀ k ∈ w.2, k < m) (g : Grd m V sz) (b : ∀ k, k < m → sz k ≤ 30) : ∃ F, WfC S m V F := by
  obtain ⟨N, hN⟩ := nrm_ex g
  obtain ⟨F, hF, hFN⟩ := fst_ex g.parts (uniq_of nd) hN
  refine ⟨F, hg, hl, hs, hm, hV, nd, ok, hF, fun k hk => ?_⟩
  rw [hFN k hk]
  have h1 := hN.le_sz g hk
  have h2 := b k hk
  omega
theorem rgV_rI (m : Nat) : rgV 0 (m : Nat) = rI (List.range m) := by
  unfold rgV rI
  rw [show (((m : Nat) : Int) - 0).toNat = m by omega]
  exact List.map_congr_left fun i _ => by rw [Int.zero_add]
theorem un_rI {l0 : List Nat} {ys : List V} (h : ys.Perm (rI l0)) : ∃ l : List Nat, l.Perm l0 ∧ ys = rI l := perm_unmap h l0 rfl
/-- ahead of a kind's way -/
def Bc1 (K : PySem.W.Frag) (H : Hp) (s c q dw dz : Addr) (n : Nat) (S : Str) (m mo : Nat) (ord : List Nat) (i : Nat) (σ : L2.St) (H' : Hp) : Prop :=
  ∃ (o7 o8 o9 o10 o11 o12 o13 : Option V), σ = [some (.ref s), some (.str S), some (.int (m : Nat)), some (.int (mo : Nat)), some (.ref q), some (.ref dw), some (.ref dz), o7, o8, o9, o10, o11, o12, o13] ∧
    Frm [s, c] H H' ∧ (∃ k, k ≤ m + 10 * i ∧ Strm s c (n + k) H') ∧ H' q = some (.lst (rI ord)) ∧
    ∃ kvs W kv zs, H' dw = some (.dT kvs) ∧ H' dz = some (.dK kv) ∧ kv.length ≤ i ∧ ZD kv zs ∧ WysR (RowT K (hid [s, c] H')) kvs W ∧ W.length = i ∧ Drn S m (ord.take i) W zs
/-- the row that a kind gets -/
theorem bc_row {K : PySem.W.Frag} {H : Hp} {R : VK} {s c q dw dz : Addr} {n m mo i : Nat} {S : Str} {ord : List Nat} {o8 o9 o10 o11 o12 o13 : Option V} (st : Strm s c n H) (hn : n + 100 < 1099511627776) (hq : H q = some (.lst (rI ord))) (qn : q ∉ [s, c]) (hi : i ≤ ord.length) (ho : ord.length ≤ 100)
    (k : ∀ p row k H', k ≤ 5 → Frm [s, c] H H' → Strm s c (n + k) H' → H p = none → H' p = some (.tup (rI row)) → row.length ≤ 2 → (∀ j ∈ row, j ∈ ord.take i) → R (.ref p) H') :
    (tIf (tTest (tOp rGtI (tVar 7) (tC (.int 0)))) (tCB (cTuple K) (tCons (tLc (iRng1 (tCons (tOwn (sp_law_below K) (tCons (tVar 0) (tCons (tC (.int 3)) (tNil)))) (tNil))) (gName 12) (tYes) (tOwn (sp_law_pick K) (tCons (tVar 0) (tCons (tSl (rSlU K) (tVar 4) (tNoPart) (tPart (tVar 7))) (tNil)))) [12]) (tNil))) (tTup (tNil)))
      [some (.ref s), some (.str S), some (.int (m : Nat)), some (.int (mo : Nat)), some (.ref q), some (.ref dw), some (.ref dz), some (.int (i : Nat)), o8, o9, o10, o11, o12, o13] H R := by
  walk_at "gw"
  refine w_ite (fun e => ?_) (fun e => ?_)
  · have i0 := of_decide_eq_true e
    walk_at "gw"
    refine ⟨s, c, n, 3, rfl, st, by decide, by decide, by omega, fun r H1 hr f1 st1 => ?_⟩
    have hq1 := f1.at_ _ _ qn hq
    refine e_rng (by omega) (by omega) ?_
    rw [show ((r : Nat) : Int).toNat = r by omega]
    refine lc_full (walk_range (lo := 0) (n := r)) [s, c] [s, c] (fun j acc H' => Strm s c (n + 1 + j) H' ∧ ∃ row, acc = rI row ∧ row.length = j ∧ ∀ z ∈ row, z ∈ ord.take i) (fun _ _ _ => True) st1.inH (fun _ h => h) ?_ ⟨st1, [], rfl, rfl, fun _ h => by cases h⟩ (fun _ _ => True.intro) (fun _ _ _ _ _ _ => True.intro) (fun _ _ _ _ _ _ => True.intro) ?_ ?_ ?_
    · rintro j acc H2 D ys hD ⟨st2, r⟩
      have n1 := st1.inH.ne hD
      simp only [List.mem_cons, not_or] at n1
      obtain ⟨n2, n3, _⟩ := n1
      exact ⟨st2.frm (R := [D]) (frm_upd (by simp)) (by simpa using Ne.symm n2) (by simpa using Ne.symm n3), r⟩
    · exact Nat.le_trans (show r ≤ 100 by omega) (by decide)
    · rintro D j acc x H2 H3 Nx hD hj f kn inn hd' ⟨st2, row, rfl, hr2, hin⟩ _ hl ⟨rfl, rfl⟩ kY kN
      have hq3 := f.at_ _ _ qn hq1
      walk_at "gw"
      refine ⟨rfl, ?_⟩
      walk_at "gw"
      refine w_iteT rfl ?_
      walk_at "gw"
      refine sl_l (sql_of hq3) fun l hl1 => ?_
      rw [cutV_take]
      have e1 : (rI ord).take i = rI (ord.take i) := by simp [rI]
      rw [e1]
      have s4 := same_new (o := .lst (rI (ord.take i))) hl1
      have ln : l ∉ [s, c] := st2.inH.ne hl1
      have lt : (rI (ord.take i)).length = i := by rw [rI_len, List.length_take]; omega
      walk_at "gw"
      refine ⟨s, c, _, l, _, rfl, st2.same s4, by omega, .inl (sql_of (by rw [hid_at ln]; exact upd_same)), by omega, by omega, fun z v H4 hz f4 st4 => ?_⟩
      obtain ⟨w, hw, rfl⟩ := rI_get hz
      refine kY _ _ ((Same.frm s4).trans f4) ⟨?_, row ++ [w], by rw [rI_app]; rfl, by simp [hr2], fun y hy => ?_⟩ True.intro
      · rw [show n + 1 + (j + 1) = n + 1 + j + 1 by omega]
        exact st4
      · rcases List.mem_append.mp hy with z | z
        · exact hin y z
        · rw [List.mem_singleton.mp z]; exact List.mem_of_getElem? hw
    · rintro D acc H2 hD f inn kn hd' ⟨st2, row, rfl, hr2, hin⟩ _ _
      walk_at "gw"
      refine tuple_l (sql_of hd') fun p hp => ?_
      have s3 := same_new (o := .tup (rI row)) hp
      have f3 : Frm [s, c] H H2 := ⟨fun a o ha e => f.at_ a o (by simpa using ha) (f1.at_ a o ha e), fun a ha => f.live a (f1.live a ha)⟩
      refine k p row (r + 1) _ (by omega) (f3.trans (Same.frm s3)) ?_ (f3.free hp) upd_same (by omega) hin
      rw [show n + (r + 1) = n + 1 + r by omega]
      exact st2.same s3
  · walk_at "gw"
    refine ⟨Nat.zero_le _, fun p hp => ?_⟩
    have s3 := same_new (o := .tup []) hp
    exact k p [] 0 _ (Nat.zero_le _) (Same.frm s3) (st.same s3) hp upd_same (Nat.zero_le _) fun _ h => by cases h
/-- the sum of a row's sizes -/
theorem bc_sum {K : PySem.W.Frag} {H : Hp} {R : VK} {dz p : Addr} {kv : List (L2.Key × V)} {zs : Nat → Option Nat} {row : List Nat} {o0 o1 o2 o3 o4 o5 o7 o8 o10 o11 o12 o13 : Option V} (hz : H dz = some (.dK kv)) (hZ : ZD kv zs) (hp : SqT K H p (rI row)) (hl : row.length ≤ 1000) (al : ∀ j ∈ row, (zs j).isSome = true)
    (k : ∀ H', Same H H' → R (.int (sumN (fun j => (zs j).getD 0) row : Nat)) H') :
    (tCB (rSum K) (tCons (tLc (iSeq K (tVar 9)) (gName 13) (tYes) (tOp (rIxU K) (tVar 6) (tVar 13)) [13]) (tNil))) [o0, o1, o2, o3, o4, o5, some (.ref dz), o7, o8, some (.ref p), o10, o11, o12, o13] H R := by
  walk_at "gw"
  refine iseq_a rfl (.inr hp) fun J Gw wk hG => ?_
  rw [rI_len] at wk
  refine lc_im wk (fun _ => true) (fun j => .int (((zs (row.getD j 0)).getD 0 : Nat))) (Nat.le_trans hl (by decide)) (fun _ H' _ e => hG H' (Same.rds e)) ?_ ?_
  · rintro j y H4 H5 KY KN hj s4 ⟨rfl, hx⟩ kY kN
    obtain ⟨z, hz', rfl⟩ := rI_get hx
    have e : row.getD j 0 = z := by rw [List.getD_eq_getElem?_getD, hz']; rfl
    have hm := al z (List.mem_of_getElem? hz')
    walk_at "gw"
    refine ⟨rfl, ?_⟩
    walk_at "gw"
    refine w_iteT rfl ?_
    walk_at "gw"
    obtain ⟨w, hw⟩ := Option.isSome_iff_exists.mp hm
    have hv : valV kv (.inl ((z : Nat) : Int)) = some (.int (w : Nat)) := by rw [hZ z, hw]; rfl
    refine ix_d (v := .int (w : Nat)) (by rw [← hv]; exact DGet.k (k := .inl (z : Nat)) (s4 _ _ hz)) ?_
    have k2 := kY rfl _ (Same.refl _)
    rw [e, hw] at k2
    exact k2
  · intro D H4 hD s4 h5
    rw [given_row (fun z => V.int ((zs z).getD 0 : Nat))] at h5
    walk_at "gw"
    refine ⟨D, row.map fun z => (((zs z).getD 0 : Nat) : Int), rfl, sql_of (h5.trans (by rw [List.map_map]; rfl)), ?_⟩
    rw [sum_cast]
    exact k _ s4
theorem RowT.dct {K : PySem.W.Frag} {M : List Addr} {H : Hp} {d : Addr} {o : HO} {v : V} {r : List Nat} (hd : (∃ kvs, H d = some (.dT kvs)) ∨ ∃ kv, H d = some (.dK kv)) (h : RowT K (hid M H) v r) : RowT K (hid M (upd H d o)) v r := by
  have go : ∀ a u, hid M H a = some u → (∀ kvs, u ≠ .dT kvs) → (∀ kv, u ≠ .dK kv) → hid M (upd H d o) a = some u := fun a u e n1 n2 => by
    by_cases m : a ∈ M
    · unfold hid at e
      rw [if_pos m] at e
      cases e
    · rw [hid_at m] at e ⊢
      have ne : a ≠ d := fun z => by
        rw [z] at e
        rcases hd with ⟨y, hd⟩ | ⟨y, hd⟩ <;> rw [hd] at e
        · exact n1 y (Option.some.inj e).symm
        · exact n2 y (Option.some.inj e).symm
      rw [upd_ne ne]
      exact e
  obtain ⟨a, rfl, h⟩ := h
  exact ⟨a, rfl, go _ _ h (fun _ e => nomatch e) fun _ e => nomatch e⟩
theorem frm_updN {R : List Addr} {H H' : Hp} {d : Addr} {o : HO} (f : Frm R H H') (hd : H d = none) (hl : ∃ u, H' d = some u) : Frm R H (upd H' d o) := ⟨fun b u hb e => by
    have ne : b ≠ d := fun z => by rw [z, hd] at e; cases e
    rw [upd_ne ne]
    exact f.at_ b u hb e, fun b hb => (frm_upd (R := [d]) (H := H') (o := o) (by simp)).live b (f.live b hb)⟩
/-- the row that is kept: none where the sizes are too many -/
theorem bc_row2 {K : PySem.W.Frag} {H : Hp} {R : VK} {dz p : Addr} {kv : List (L2.Key × V)} {zs : Nat → Option Nat} {row : List Nat} {o0 o1 o2 o3 o4 o5 o7 o8 o10 o11 o12 o13 : Option V} (hz : H dz = some (.dK kv)) (hZ : ZD kv zs) (hp : H p = some (.tup (rI row))) (hl : row.length ≤ 1000) (al : ∀ j ∈ row, (zs j).isSome = true)
    (k : ∀ p' row' H', Same H H' → H' p' = some (.tup (rI row')) → (row' = row ∨ row' = []) → sumN (fun j => (zs j).getD 0) row' < 30 → R (.ref p') H') :
    (tIf (tTest (tOp rLtI (tCB (rSum K) (tCons (tLc (iSeq K (tVar 9)) (gName 13) (tYes) (tOp (rIxU K) (tVar 6) (tVar 13)) [13]) (tNil))) (tC (.int 30)))) (tVar 9) (tTup (tNil))) [o0, o1, o2, o3, o4, o5, some (.ref dz), o7, o8, some (.ref p), o10, o11, o12, o13] H R := by
  refine w_ifx (w_test (w_op ?_))
  refine bc_sum hz hZ (sqt_of hp) hl al fun H1 s1 => ?_
  walk_at "gw"
  refine w_ite (fun e => ?_) (fun e => ?_)
  · have e2 := of_decide_eq_true e
    walk_at "gw"
    exact k p row H1 s1 (s1 _ _ hp) (.inl rfl) (by omega)
  · walk_at "gw"
    refine ⟨Nat.zero_le _, fun p2 hp2 => ?_⟩
    refine k p2 [] _ (fun b o e => same_new hp2 b o (s1 b o e)) upd_same (.inr rfl) (by show 0 < 30; omega)
theorem nd_len {α : Type} [DecidableEq α] : ∀ {l k : List α}, l.Nodup → (∀ x ∈ l, x ∈ k) → l.length ≤ k.length
  | [], _, _, _ => Nat.zero_le _
  | x :: l, k, h, s => by
    obtain ⟨h1, h2⟩ := List.nodup_cons.mp h
    have hx := s x (by simp)
    have := nd_len (l := l) (k := k.erase x) h2 fun y hy => (List.mem_erase_of_ne (fun e => h1 (by rw [← e]; exact hy))).mpr (s y (by simp [hy]))
    rw [List.length_erase_of_mem hx] at this
    have pos : 0 < k.length := List.length_pos_of_mem hx
    simp only [List.length_cons]
    omega
theorem keys_len {S : Str} {m : Nat} {V : Wys} (hl : S.cps.size ≤ 6) (hm : m ≤ 12) (nd : (V.map (·.1)).Nodup) (ok : ∀ w ∈ V, w.1.1 < m ∧ w.1.2 ∈ cs S) : V.length ≤ 72 := by
  have h := nd_len (k := (List.range m).flatMap fun k => (cs S).map fun s => (k, s)) nd fun q hq => by
    obtain ⟨w, hw, rfl⟩ := List.mem_map.mp hq
    have h := ok w hw
    exact List.mem_flatMap.mpr ⟨w.1.1, List.mem_range.mpr h.1, List.mem_map.mpr ⟨w.1.2, h.2, rfl⟩⟩
  have csl : (cs S).length = S.cps.size := by simp [cs]
  rw [List.length_map, List.length_flatMap] at h
  have e : ((List.range m).map fun k => ((cs S).map fun s => (k, s)).length) = List.replicate m (cs S).length := by
    simp [List.map_const']
  rw [e, List.sum_replicate_nat] at h
  have : m * (cs S).length ≤ 12 * 6 := Nat.mul_le_mul hm (by omega)
  omega
/-- while more ways are put to it -/
def Bc2 (K : PySem.W.Frag) (H : Hp) (s c dw : Addr) (n g : Nat) (S : Str) (m mo sh : Nat) (W : Wys) (σ : L2.St) (H' : Hp) : Prop :=
  ∃ (o4 o6 o7 o8 o9 o11 o12 o13 : Option V), σ = [some (.ref s), some (.str S), some (.int (m : Nat)), some (.int (mo : Nat)), o4, some (.ref dw), o6, o7, o8, o9, some (.int (sh : Nat)), o11, o12, o13] ∧
    Frm [s, c] H H' ∧ (∃ k, k ≤ g ∧ Strm s c (n + k) H') ∧
    ∃ kvs V, H' dw = some (.dT kvs) ∧ WysR (RowT K (hid [s, c] H')) kvs V ∧ (V.map (·.1)).Nodup ∧ (∀ w ∈ W, w ∈ V) ∧ ∀ w ∈ V, w.1.1 < m ∧ w.1.2 ∈ cs S ∧ w.2.length ≤ max 2 mo ∧ ∀ k ∈ w.2, k < m
theorem pure_law_bcore {K : PySem.W.Frag} (vs : List V) (H : Hp) (Q : VK) (E : XK) (h : sp_law_bcore K vs H Q E) : t_law_bcore K { nx := fun _ H' => Q .non H', rt := Q } (start n_law_bcore vs) H := by
  obtain ⟨s, c, n, S, m, mo, rfl, st, hn, hg, hl, hs, m1, m12, mo4, q⟩ := h
  have sl : 1000000 ≤ sizeLine := by decide
  unfold t_law_bcore
  walk_at "gw"
  refine ⟨RgOk.of_le (by omega) (by omega) (by omega) (by omega), fun q0 hq0 => ?_⟩
  have s1 := same_new (o := .lst (rgV 0 (m : Nat))) hq0
  have q0n : q0 ∉ [s, c] := st.inH.ne hq0
  walk_at "gw"
  refine ⟨s, c, n, q0, rI (List.range m), rfl, st.same s1, by rw [rI_len, List.length_range]; omega, .inl (sql_of (by rw [hid_at q0n, upd_same, rgV_rI])), by rw [rI_len, List.length_range]; omega, fun ys qo H2 pm f2 st2 hqo hqo2 => ?_⟩
  obtain ⟨ord, po, rfl⟩ := un_rI pm
  rw [rI_len, List.length_range] at st2
  have f02 := (Same.frm (R := [s, c]) s1).trans f2
  have qn : qo ∉ [s, c] := (st.same s1).inH.ne hqo
  walk_at "gw"
  refine .inr fun dw hdw => ?_
  have s3 := same_new (o := .dT []) hdw
  walk_at "gw"
  refine .inl fun dz hdz => ?_
  have s4 := same_new (o := .dK []) hdz
  walk_at "gw"
  refine ⟨by show 3 ≤ sizeLine; omega, fun p hp => ?_⟩
  have s5 := same_new (o := .tup [V.ref qo, .ref dw, .ref dz]) hp
  have e5 : upd (upd (upd H2 dw (.dT [])) dz (.dK [])) p (.tup [V.ref qo, .ref dw, .ref dz]) p = some (.tup [V.ref qo, .ref dw, .ref dz]) := upd_same
  have ew := s5 _ _ (s4 _ _ (upd_same (H := H2) (a := dw) (o := .dT [])))
  have ez := s5 _ _ (upd_same (H := upd H2 dw (.dT [])) (a := dz) (o := .dK []))
  have s25 : Same H2 (upd (upd (upd H2 dw (.dT [])) dz (.dK [])) p (.tup [V.ref qo, .ref dw, .ref dz])) := fun b o e => s5 b o (s4 b o (s3 b o e))
  have hdwH : H dw = none := f02.free hdw
  have hdzH : H dz = none := f02.free (same_free s3 hdz)
  have nwz : dw ≠ dz := ne_of_none upd_same hdz
  generalize upd (upd (upd H2 dw (.dT [])) dz (.dK [])) p (.tup [V.ref qo, .ref dw, .ref dz]) = H5 at e5 ew ez s25
  refine w_gtup (sqt_of e5) rfl ?_
  walk_at "gw"
  refine e_ienum (sql_of (s25 _ _ hqo2)) ?_
  have lo : ord.length = m := by rw [po.length_eq, List.length_range]
  have ndo : ord.Nodup := po.nodup_iff.mpr List.nodup_range
  have nqw : qo ≠ dw := ne_of_none hqo2 hdw
  have nqz : qo ≠ dz := ne_of_none (s3 _ _ hqo2) hdz
  refine for_it walk_enum (Bc1 K H s c qo dw dz n S m mo ord) ⟨none, none, none, none, none, none, none, rfl, f02.trans (Same.frm s25), ⟨m, by omega, st2.same s25⟩, s25 _ _ hqo2, [], [], [], fun _ => none, ew, ez, by simp, fun _ => rfl, .nil, rfl, Drn.start⟩ (fun _ _ _ _ e => by
    obtain ⟨_, _, _, _, _, _, _, _, _, _, e, _⟩ := e
    exact sql_of e) ?_ ?_
  · rintro i x σ H3 H4 hi ⟨o7, o8, o9, o10, o11, o12, o13, rfl, f3, ⟨k, hk, st3⟩, eq3, kvs, W, kv, zs, ew3, ez3, lk, hZ, wr, lW, D⟩ ⟨T, a1, b1, rfl, hT, rfl, ea, eb⟩
    rw [rI_len, lo] at hi
    obtain ⟨kd, hkd, rfl⟩ := rI_get eb
    have ea2 : some (V.int (i : Nat)) = some a1 := ea
    cases ea2
    have sT := same_new (o := .tup [V.int (i : Nat), V.int (kd : Nat)]) hT
    refine w_gtup (sqt_of upd_same) rfl ?_
    refine w_gcons (w_gn ?_)
    refine w_gcons (w_gn ?_)
    refine w_gnil ?_
    replace f3 := f3.trans (Same.frm sT)
    replace st3 := st3.same sT
    replace eq3 := sT _ _ eq3
    replace ew3 := sT _ _ ew3
    replace ez3 := sT _ _ ez3
    replace wr : WysR (RowT K (hid [s, c] (upd H3 T (.tup [V.int (i : Nat), V.int (kd : Nat)])))) kvs W := wr.imp fun _ _ h => RowT.same (hid_same sT) h
    generalize upd H3 T (.tup [V.int (i : Nat), V.int (kd : Nat)]) = G at f3 st3 eq3 ew3 ez3 wr
    clear sT hT H3
    refine w_seq (w_asg ?_)
    refine bc_row st3 (by omega) eq3 qn (by omega) (by omega) fun p row k1 G1 hk1 g1 st4 hp hp1 hrow hin => ?_
    have ok : ∀ j ∈ row, (zs j).isSome = true := fun j hj => by
      obtain ⟨z, _, _, hz, _⟩ := D.met j (hin j hj)
      rw [hz]; rfl
    refine w_gn ?_
    with_reducible refine w_seq ?_
    with_reducible refine w_asg ?_
    have ndw : dw ∉ [s, c] := fun z => by
      obtain ⟨cells, ac, mix, g1', g2', _⟩ := st
      simp only [List.mem_cons, List.not_mem_nil, or_false] at z
      rcases z with rfl | rfl
      · rw [hdwH] at g1'; cases g1'
      · rw [hdwH] at g2'; cases g2'
    have ndz : dz ∉ [s, c] := fun z => by
      obtain ⟨cells, ac, mix, g1', g2', _⟩ := st
      simp only [List.mem_cons, List.not_mem_nil, or_false] at z
      rcases z with rfl | rfl
      · rw [hdzH] at g1'; cases g1'
      · rw [hdzH] at g2'; cases g2'
    refine bc_row2 (g1.at_ _ _ ndz ez3) hZ hp1 (by omega) ok fun p2 row2 G2 s2 hp2 hr2 hsum => ?_
    have hrow2 : row2.length ≤ 2 := by rcases hr2 with rfl | rfl <;> simp_all
    have hin2 : ∀ j ∈ row2, j ∈ ord.take i := by
      rcases hr2 with rfl | rfl
      · exact hin
      · exact fun _ h => nomatch h
    have g2 := g1.trans (Same.frm s2)
    refine w_gn ?_
    with_reducible refine w_seq ?_
    with_reducible refine w_asg ?_
    walk_at "gw"
    refine .inr (.inr (.inr ⟨S, rfl, by omega, fun l hl2 => ?_⟩))
    have s6 := same_new (o := .lst (S.cps.toList.map sg)) hl2
    have ln : l ∉ [s, c] := (st4.same s2).inH.ne hl2
    have csl : (cs S).length = S.cps.size := by simp [cs]
    walk_at "gw"
    refine ⟨s, c, _, l, _, rfl, (st4.same s2).same s6, by omega, .inl (sql_of (by rw [hid_at ln]; exact upd_same)), ?_, ?_, fun r v G3 hv f6 st6 => ?_⟩
    · have h1 : 1 ≤ S.cps.size := by
        unfold isSigns at hg
        simp only [Bool.and_eq_true, decide_eq_true_eq] at hg
        exact hg.1.1.1
      rw [List.length_map]
      show 0 < (cs S).length
      omega
    · rw [List.length_map]
      show (cs S).length < _
      omega
    obtain ⟨ch, hch, rfl⟩ : ∃ ch, ch ∈ cs S ∧ v = .str (sgS ch) := by
      rw [List.getElem?_map] at hv
      obtain ⟨ch, h1, h2⟩ := Option.map_eq_some_iff.mp hv
      exact ⟨ch, List.mem_of_getElem? h1, h2.symm⟩
    have g3 := (g2.trans (Same.frm s6)).trans f6
    walk_at "gw"
    refine ⟨by show 2 ≤ sizeLine; omega, fun b hb => ?_⟩
    have s7 := same_new (o := .tup [V.int (kd : Nat), V.str (sgS ch)]) hb
    have g4 := g3.trans (Same.frm s7)
    have hbs : upd G3 b (.tup [V.int (kd : Nat), V.str (sgS ch)]) b = some (.tup ((kOf (kd, ch)).map kV)) := upd_same
    have st7 := st6.same s7
    have ewx := g4.at_ _ _ ndw ew3
    have ezx := g4.at_ _ _ ndz ez3
    have wr4 : WysR (RowT K (hid [s, c] (upd G3 b (.tup [V.int (kd : Nat), V.str (sgS ch)])))) kvs W := wr.imp fun _ _ h => RowT.same (hid_frm g4 fun _ h => h) h
    have p2n : p2 ∉ [s, c] := fun z => by
      obtain ⟨cells, ac, mix, g1', g2', _⟩ := st4.same s2
      simp only [List.mem_cons, List.not_mem_nil, or_false] at z
      rcases z with rfl | rfl
      · rw [hp2] at g1'; cases g1'
      · rw [hp2] at g2'; cases g2'
    have hp4 : upd G3 b (.tup [V.int (kd : Nat), V.str (sgS ch)]) p2 = some (.tup (rI row2)) := (((Same.frm s6).trans f6).trans (Same.frm s7)).at_ _ _ p2n hp2
    generalize upd G3 b (.tup [V.int (kd : Nat), V.str (sgS ch)]) = G4 at g4 hbs st7 ewx ezx wr4 hp4
    have lkvs : kvs.length = W.length := wr4.len
    refine set_d (DPut.t ewx hbs (by omega)) ?_
    have kno : kd ∉ ord.take i := fun z => by
      have h1 := (List.nodup_append.mp (by rw [List.take_append_drop]; exact ndo : (ord.take i ++ ord.drop i).Nodup)).2.2 kd z kd (List.mem_of_getElem? (i := 0) (by rw [List.getElem?_drop]; exact hkd))
      exact h1 rfl
    have nn : kOf (kd, ch) ∉ kvs.map (·.1) := fun z => by
      rw [wr4.keys] at z
      obtain ⟨w, hw, e⟩ := List.mem_map.mp z
      exact (D.no kd kno).2 w hw (by rw [kOf_inj e])
    have p2w : p2 ≠ dw := fun z => by rw [z, ewx] at hp4; cases hp4
    have p2z : p2 ≠ dz := fun z => by rw [z, ezx] at hp4; cases hp4
    have ok2 : ∀ j ∈ row2, (zs j).isSome = true := fun j hj => by
      obtain ⟨z, _, _, hz, _⟩ := D.met j (hin2 j hj)
      rw [hz]; rfl
    rw [show L2.putK kvs (kOf (kd, ch)) (V.ref p2) = kvs ++ [(kOf (kd, ch), V.ref p2)] from putK_new nn]
    with_reducible refine w_asg ?_
    with_reducible refine w_op ?_
    with_reducible refine w_c ?_
    refine bc_sum (by rw [upd_ne (Ne.symm nwz)]; exact ezx) hZ (row := row2) (sqt_of (by rw [upd_ne p2w]; exact hp4)) (by omega) ok2 fun G5 s8 => ?_
    walk_at "gw"
    have ez5 : G5 dz = some (.dK kv) := s8 _ _ (by rw [upd_ne (Ne.symm nwz)]; exact ezx)
    have ew5 := s8 _ _ (upd_same (H := G4) (a := dw) (o := .dT (kvs ++ [(kOf (kd, ch), V.ref p2)])))
    refine set_d (DPut.k (k := .inl (kd : Nat)) ez5 (by omega)) ?_
    have tk : ord.take (i + 1) = ord.take i ++ [kd] := by rw [List.take_add_one, hkd]; rfl
    have g5 : Frm [s, c] H G5 := (frm_updN (f3.trans g4) hdwH ⟨_, ewx⟩).trans (Same.frm s8)
    have sn : ∀ d, d ∉ [s, c] → s ∉ [d] ∧ c ∉ [d] := fun d hd => by
      simp only [List.mem_cons, List.not_mem_nil, or_false, not_or] at hd ⊢
      exact ⟨Ne.symm hd.1, Ne.symm hd.2⟩
    have st8 := ((st7.frm (R := [dw]) (frm_upd (p := dw) (o := .dT (kvs ++ [(kOf (kd, ch), V.ref p2)])) (by simp)) (sn _ ndw).1 (sn _ ndw).2).same s8).frm (R := [dz]) (frm_upd (H := G5) (p := dz) (o := .dK (L2.putK kv (.inl (kd : Nat)) (.int (1 + (sumN (fun j => (zs j).getD 0) row2 : Nat))))) (by simp)) (sn _ ndz).1 (sn _ ndz).2
    have wr5 : WysR (RowT K (hid [s, c] (upd G5 dz (.dK (L2.putK kv (.inl (kd : Nat)) (.int (1 + (sumN (fun j => (zs j).getD 0) row2 : Nat)))))))) (kvs ++ [(kOf (kd, ch), V.ref p2)]) (W ++ [((kd, ch), row2)]) := by
      refine WysR.snoc (wr4.imp fun _ _ h => RowT.dct (.inr ⟨_, ez5⟩) (RowT.same (hid_same s8) (RowT.dct (.inl ⟨_, ewx⟩) h))) rfl ?_
      exact RowT.dct (.inr ⟨_, ez5⟩) (RowT.same (hid_same s8) (RowT.dct (.inl ⟨_, ewx⟩) ⟨p2, rfl, sqt_of (by rw [hid_at p2n]; exact hp4)⟩))
    have kdm : kd < m := by
      have h1 := po.mem_iff.mp (List.mem_of_getElem? hkd)
      exact List.mem_range.mp h1
    refine ⟨_, _, _, _, _, _, _, rfl, frm_updN g5 hdzH ⟨_, ez5⟩, ⟨k + k1 + 1, by omega, ?_⟩, ?_, kvs ++ [(kOf (kd, ch), V.ref p2)], W ++ [((kd, ch), row2)], _, setF zs kd (1 + sumN (fun j => (zs j).getD 0) row2), ?_, upd_same, ?_, ?_, wr5, ?_, ?_⟩
    · have e : n + (k + k1 + 1) = n + k + k1 + 1 := by omega
      rw [e]
      exact st8
    · rw [upd_ne nqz]
      refine s8 _ _ ?_
      rw [upd_ne nqw]
      exact g4.at_ _ _ qn eq3
    · rw [upd_ne nwz]
      exact ew5
    · refine Nat.le_trans (length_putK _ _ _) (by omega)
    · have h1 := hZ.put kd (1 + sumN (fun j => (zs j).getD 0) row2)
      rw [show ((1 + sumN (fun j => (zs j).getD 0) row2 : Nat) : Int) = 1 + (sumN (fun j => (zs j).getD 0) row2 : Nat) by omega] at h1
      exact h1
    · rw [List.length_append, lW]; rfl
    · rw [tk]
      exact D.add kdm kno hch hrow2 (fun j hj => ⟨hin2 j hj, List.mem_range.mp (po.mem_iff.mp (List.mem_of_mem_take (hin2 j hj)))⟩) hsum
  · rintro σ H6 ⟨o7, o8, o9, o10, o11, o12, o13, rfl, f6, ⟨k, hk, st6⟩, eq6, kvs, W, kv, zs, ew6, ez6, lk, hZ, wr, lW, D⟩
    rw [rI_len, lo] at hk lk lW D
    unfold t_law_bcore_p2
    walk_at "gw"
    refine ⟨by show 3 ≤ sizeLine; omega, fun l hl2 => ?_⟩
    have s6 := same_new (o := .lst [V.int 2, V.int 3, V.int 9]) hl2
    have ln : l ∉ [s, c] := st6.inH.ne hl2
    walk_at "gw"
    refine ⟨s, c, _, l, _, rfl, st6.same s6, by omega, .inl (sql_of (by rw [hid_at ln]; exact upd_same)), by simp, by simp, fun r v H7 hv f7 st7 => ?_⟩
    obtain ⟨sh, h1sh, hsh, rfl⟩ : ∃ sh : Nat, 1 ≤ sh ∧ sh ≤ 9 ∧ v = .int (sh : Nat) := by
      have hm := List.mem_of_getElem? hv
      simp only [List.mem_cons, List.not_mem_nil, or_false] at hm
      rcases hm with rfl | rfl | rfl
      · exact ⟨2, by omega, by omega, rfl⟩
      · exact ⟨3, by omega, by omega, rfl⟩
      · exact ⟨9, by omega, by omega, rfl⟩
    walk_at "gw"
    refine e_rng (by omega) (by omega) ?_
    rw [show ((m : Nat) : Int).toNat = m by omega]
    have f67 : Frm [s, c] H6 H7 := (Same.frm s6).trans f7
    have ndw : dw ∉ [s, c] := fun z => by
      obtain ⟨cells, ac, mix, g1', g2', _⟩ := st
      simp only [List.mem_cons, List.not_mem_nil, or_false] at z
      rcases z with rfl | rfl
      · rw [hdwH] at g1'; cases g1'
      · rw [hdwH] at g2'; cases g2'
    refine for_it (walk_range (lo := 0) (n := m)) (fun i σ H' => Bc2 K H s c dw n (200 + 100 * i) S m mo sh W σ H') ⟨_, _, _, _, _, _, _, _, rfl, f6.trans f67, ⟨k + 1, by omega, st7⟩, kvs, W, f67.at_ _ _ ndw ew6, wr.imp fun _ _ h => RowT.same (hid_frm f67 fun _ h => h) h, D.nd, fun _ h => h, fun w hw => ?_⟩ (fun _ _ _ _ _ => True.intro) ?_ ?_
    · obtain ⟨h1, h2, h3, h4⟩ := D.ok w hw
      exact ⟨h1, h2, by omega, h4⟩
    · rintro i x σ H8 H9 hi B ⟨rfl, rfl⟩
      obtain ⟨o4, o6, o7, o8, o9, o11, o12, o13, rfl, f8, ⟨k8, hk8, st8⟩, kvs8, V8, ew8, wr8, nd8, sub8, ok8⟩ := B
      refine w_gn ?_
      walk_at "gw"
      have csl : (cs S).length = S.cps.size := by simp [cs]
      refine for_it walk_str (fun j σ H' => Bc2 K H s c dw n (200 + 100 * i + 10 * j) S m mo sh W σ H' ∧ σ[8]? = some (some (.int (i : Nat)))) ⟨⟨_, _, _, _, _, _, _, _, rfl, f8, ⟨k8, by omega, st8⟩, kvs8, V8, ew8, wr8, nd8, sub8, ok8⟩, by simp⟩ (fun _ _ _ _ _ => True.intro) ?_ ?_
      · rintro j y σ Ha Hb hj ⟨B, e8⟩ ⟨rfl, ch, hc, rfl⟩
        obtain ⟨o4, o6, o7, o8, o9, o11, o12, o13, rfl, f9, ⟨k9, hk9, st9⟩, kvs9, V9, ew9, wr9, nd9, sub9, ok9⟩ := B
        have e8' : o8 = some (.int (i : Nat)) := by simpa using e8
        subst e8'
        have hch : ch ∈ cs S := List.mem_of_getElem? (get_cps hc)
        refine w_gn ?_
        walk_at "gw"
        refine ⟨by show 2 ≤ sizeLine; omega, fun p hp => ?_⟩
        have sp := same_new (o := .tup [V.int (i : Nat), V.str ⟨#[ch]⟩]) hp
        have ep : upd Hb p (.tup [V.int (i : Nat), V.str ⟨#[ch]⟩]) p = some (.tup ((kOf (i, ch)).map kV)) := upd_same
        replace f9 := f9.trans (Same.frm sp)
        replace st9 := st9.same sp
        replace ew9 := sp _ _ ew9
        replace wr9 : WysR (RowT K (hid [s, c] (upd Hb p (.tup [V.int (i : Nat), V.str ⟨#[ch]⟩])))) kvs9 V9 := wr9.imp fun _ _ h => RowT.same (hid_same sp) h
        generalize upd Hb p (.tup [V.int (i : Nat), V.str ⟨#[ch]⟩]) = G at f9 st9 ew9 wr9 ep
        clear sp hp
        walk_at "gw"
        refine notin_d (.inr ⟨kvs9, kOf (i, ch), p, .inl ew9, rfl, ep, rfl⟩) ?_
        have lkv : kvs9.length ≤ 72 := by
          rw [wr9.len]
          exact keys_len hl m12 nd9 fun w hw => ⟨(ok9 w hw).1, (ok9 w hw).2.1⟩
        rcases wr9.val (i, ch) with ⟨h1, h2⟩ | ⟨r1, v1, h1, h2, _⟩
        · rw [h2]
          walk_at "gw"
          refine w_iteT rfl ?_
          walk_at "gw"
          refine ⟨s, c, _, (sh : Nat), rfl, st9, by omega, by omega, by omega, fun r G1 hr g1 st10 => ?_⟩
          walk_at "gw"
          have ew10 := g1.at_ _ _ ndw ew9
          have wr10 : WysR (RowT K (hid [s, c] G1)) kvs9 V9 := wr9.imp fun _ _ h => RowT.same (hid_frm g1 fun _ h => h) h
          refine w_ite (fun e => ?_) (fun e => ?_)
          · walk_at "gw"
            refine ⟨s, c, _, m, mo, rfl, st10, by omega, by omega, by omega, fun p2 row k2 G2 hrow hin hk2 g2 st11 hp2 hp3 => ?_⟩
            have p2n : p2 ∉ [s, c] := st10.inH.ne hp2
            walk_at "gw"
            refine ⟨by show 2 ≤ sizeLine; omega, fun b hb => ?_⟩
            have s7 := same_new (o := .tup [V.int (i : Nat), V.str ⟨#[ch]⟩]) hb
            have hbs : upd G2 b (.tup [V.int (i : Nat), V.str ⟨#[ch]⟩]) b = some (.tup ((kOf (i, ch)).map kV)) := upd_same
            have g3 := (g1.trans g2).trans (Same.frm s7)
            have ew11 := s7 _ _ (g2.at_ _ _ ndw ew10)
            have wr11 : WysR (RowT K (hid [s, c] (upd G2 b (.tup [V.int (i : Nat), V.str ⟨#[ch]⟩])))) kvs9 V9 := wr9.imp fun _ _ h => RowT.same (hid_frm g3 fun _ h => h) h
            have st12 := st11.same s7
            have hp4 := s7 _ _ hp3
            have ff := f9.trans g3
            generalize upd G2 b (.tup [V.int (i : Nat), V.str ⟨#[ch]⟩]) = G4 at hbs ew11 wr11 st12 hp4 ff
            refine set_d (DPut.t ew11 hbs (by omega)) ?_
            have nn : kOf (i, ch) ∉ kvs9.map (·.1) := fun z => by
              rw [wr11.keys] at z
              obtain ⟨w, hw, e⟩ := List.mem_map.mp z
              have h3 := look_of nd9 (q := w.1) (r := w.2) hw
              rw [kOf_inj e, h1] at h3
              cases h3
            rw [show L2.putK kvs9 (kOf (i, ch)) (V.ref p2) = kvs9 ++ [(kOf (i, ch), V.ref p2)] from putK_new nn]
            have sn : ∀ d, d ∉ [s, c] → s ∉ [d] ∧ c ∉ [d] := fun d hd => by
              simp only [List.mem_cons, List.not_mem_nil, or_false, not_or] at hd ⊢
              exact ⟨Ne.symm hd.1, Ne.symm hd.2⟩
            have wr12 : WysR (RowT K (hid [s, c] (upd G4 dw (.dT (kvs9 ++ [(kOf (i, ch), V.ref p2)]))))) (kvs9 ++ [(kOf (i, ch), V.ref p2)]) (V9 ++ [((i, ch), row)]) := by
              refine WysR.snoc (wr11.imp fun _ _ h => RowT.dct (.inl ⟨_, ew11⟩) h) rfl ?_
              exact RowT.dct (.inl ⟨_, ew11⟩) ⟨p2, rfl, sqt_of (by rw [hid_at p2n]; exact hp4)⟩
            refine ⟨⟨_, _, _, _, _, _, _, _, rfl, frm_updN ff hdwH ⟨_, ew11⟩, ⟨k9 + 1 + k2, by omega, ?_⟩, _, V9 ++ [((i, ch), row)], upd_same, wr12, ?_, fun w hw => List.mem_append_left _ (sub9 w hw), fun w hw => ?_⟩, by simp⟩
            · have e : n + (k9 + 1 + k2) = n + k9 + 1 + k2 := by omega
              rw [e]
              exact st12.frm (R := [dw]) (frm_upd (by simp)) (sn _ ndw).1 (sn _ ndw).2
            · rw [List.map_append, List.nodup_append]
              refine ⟨nd9, by simp, fun a ha b hb e => ?_⟩
              obtain ⟨w, hw, rfl⟩ := List.mem_map.mp ha
              have e2 : b = (i, ch) := by simpa using hb
              have h3 := look_of nd9 (q := w.1) (r := w.2) hw
              rw [e, e2, h1] at h3
              cases h3
            · rcases List.mem_append.mp hw with z | z
              · exact ok9 w z
              · rw [List.mem_singleton.mp z]
                exact ⟨hi, hch, by simp only; omega, hin⟩
          · walk_at "gw"
            exact ⟨⟨_, _, _, _, _, _, _, _, rfl, f9.trans g1, ⟨k9 + 1, by omega, st10⟩, kvs9, V9, ew10, wr10, nd9, sub9, ok9⟩, by simp⟩
        · rw [h2]
          walk_at "gw"
          refine w_iteF rfl ?_
          walk_at "gw"
          exact ⟨⟨_, _, _, _, _, _, _, _, rfl, f9, ⟨k9, by omega, st9⟩, kvs9, V9, ew9, wr9, nd9, sub9, ok9⟩, by simp⟩
      · rintro σ Ha ⟨⟨o4, o6, o7, o8, o9, o11, o12, o13, rfl, f9, ⟨k9, hk9, st9⟩, rest⟩, e8⟩
        exact ⟨_, _, _, _, _, _, _, _, rfl, f9, ⟨k9, by omega, st9⟩, rest⟩
    · rintro σ H8 ⟨o4, o6, o7, o8, o9, o11, o12, o13, rfl, f8, ⟨k8, hk8, st8⟩, kvs8, V8, ew8, wr8, nd8, sub8, ok8⟩
      unfold t_law_bcore_p1
      walk_at "gw"
      refine ⟨by show 3 ≤ sizeLine; omega, fun a ha => ?_⟩
      have s9 := same_new (o := .lst [V.str S, V.int (m : Nat), V.ref dw]) ha
      have an : a ∉ [s, c] := st8.inH.ne ha
      obtain ⟨G, gb⟩ := D.grd (fun k hk => by rw [← lo, List.take_length]; exact po.mem_iff.mpr (List.mem_range.mpr hk)) sub8 fun w hw p hp => (ok8 w hw).2.2.2 p hp
      have kl := keys_len hl m12 nd8 fun w hw => ⟨(ok8 w hw).1, (ok8 w hw).2.1⟩
      obtain ⟨F, wf⟩ := wf_of hg hl hs m12 (by omega) nd8 (fun w hw => ⟨(ok8 w hw).1, (ok8 w hw).2.1, by have := (ok8 w hw).2.2.1; omega, (ok8 w hw).2.2.2⟩) G gb
      refine q a V8 F k8 _ (by omega) (f8.trans (Same.frm s9)) (st8.same s9) ⟨⟨dw, kvs8, by rw [hid_at an]; exact upd_same, by rw [hid_at ndw]; exact s9 _ _ ew8, wr8.imp fun _ _ h => RowT.same (hid_same s9) h⟩, wf⟩ fun w hw => (ok8 w hw).2.2.1
end Pt.Re
namespace Pt.Re
/-! ### texts listed -/
def FrE (K : PySem.W.Frag) (H : Hp) (q : Addr) (p : List Nat × List Nat) : Prop := ∃ a, SqT K H q [.str (mkS p.1), .ref a] ∧ SqT K H a (rI p.2)
theorem FrE.same {K : PySem.W.Frag} {H H' : Hp} {q : Addr} {p : List Nat × List Nat} (h : FrE K H q p) (e : Same H H') : FrE K H' q p := let ⟨a, h1, h2⟩ := h; ⟨a, sqt_same e h1, sqt_same e h2⟩
theorem FrE.frm {K : PySem.W.Frag} {R : List Addr} {H H' : Hp} {q : Addr} {p : List Nat × List Nat} (h : FrE K H q p) (f : Frm R H H') (hl : ∀ b ∈ R, ∃ ys, H b = some (.lst ys)) : FrE K H' q p := let ⟨a, h1, h2⟩ := h; ⟨a, sqt_frm f hl h1, sqt_frm f hl h2⟩
abbrev txV (ts : List (List Nat)) : List V := ts.map fun t => V.str (mkS t)
theorem same_frmN {H H1 H' : Hp} {g : Addr} (s : Same H H1) (f : Frm [g] H1 H') (hg : H g = none) : Same H H' := fun b u e => f.at_ b u (by simpa using ne_of_none e hg) (s b u e)
theorem given_filA {α : Type} [Inhabited α] {l : List α} (p : α → Bool) (u : α → V) : given l.length (fun i => p (l.getD i default)) (fun i => u (l.getD i default)) = (l.filter p).map u := by
  unfold given
  have e : (List.range l.length).map (fun i => l.getD i default) = l := by
    apply List.ext_getElem?
    intro i
    rw [List.getElem?_map]
    by_cases h : i < l.length
    · rw [List.getElem?_range h, List.getElem?_eq_getElem h]
      simp [h]
    · rw [List.getElem?_eq_none (by simpa using h), List.getElem?_eq_none (by omega)]
      rfl
  conv => rhs; rw [← e]
  rw [List.filter_map, List.map_map]
  rfl
def sp_need_length (K : PySem.W.Frag) : Sp := fun vs H Q _ => ∃ (L mo : Nat), vs = [.int (L : Nat), .int (mo : Nat)] ∧ L ≤ mo ∧ ∀ H', Same H H' → Q (.int (L : Nat)) H'
def sp_texts_of (K : PySem.W.Frag) : Sp := fun vs H Q _ => ∃ x S m W F a r, ∃ (L : Nat), vs = [.ref x, .ref a, .int (L : Nat)] ∧ CW K H x S m W F ∧ SqA K H a (rI r) ∧ r.length ≤ 60 ∧ InC m r ∧ L ≤ 6 ∧
  ∀ l H', Same H H' → H l = none → H' l = some (.lst (txV (lts W (cs S) L r))) → Q (.ref l) H'
def sp_first_text (K : PySem.W.Frag) : Sp := fun vs H Q _ => ∃ x S m W F a r, vs = [.ref x, .ref a] ∧ CW K H x S m W F ∧ SqA K H a (rI r) ∧ r.length ≤ 60 ∧ InC m r ∧ ∀ H', Same H H' → Q (.str (mkS (cat F r))) H'
def sp_norm_of (K : PySem.W.Frag) : Sp := fun vs H Q _ => ∃ x S m W F a r, vs = [.ref x, .ref a] ∧ CW K H x S m W F ∧ SqA K H a (rI r) ∧ r.length ≤ 60 ∧ InC m r ∧ ∀ H', Same H H' → Q (.int (sumN (fun k => (F k).length) r : Nat)) H'
abbrev n_need_length : List Str := ["length", "most"]
def t_need_length (K : PySem.W.Frag) : TS :=
  tSeq (tIfS (tOr (tNot (tTru K (tOwn (sp_is_integer K) (tCons (tVar 0) (tNil))))) (tNot (tTest (tChain rLeI rLeI (tC (.int 0)) (tVar 0) (tVar 1))))) (tNever) (tNext)) (tRet (tVar 0))
abbrev n_texts_of : List Str := ["core", "row", "length", "front", "turn", "longer", "text", "left", "sign", "found"]
def t_texts_of_p1 (K : PySem.W.Frag) : TS :=
  tAsg (tVar 5) (gName 3)
def t_texts_of_p2 (K : PySem.W.Frag) : TS :=
  tRet (tLc (iSeq K (tVar 3)) (gTup K 2 (gCons (gName 6) (gCons (gName 7) (gNil)))) (tTest (tOp (rEqU K) (tVar 7) (tTup (tNil)))) (tVar 6) [6, 7])
def t_texts_of (K : PySem.W.Frag) : TS :=
  tSeq (tAsg (tLst (tCons (tTup (tCons (tC (.str "")) (tCons (tOwn (sp_need_row K) (tCons (tVar 0) (tCons (tVar 1) (tNil)))) (tNil)))) (tNil))) (gName 3)) (tSeq (tFor (iRng1 (tCons (tOwn (sp_need_length K) (tCons (tVar 2) (tCons (tC (.int 6)) (tNil)))) (tNil))) (gName 4) (tSeq (tAsg (tLst (tNil)) (gName 5)) (tSeq (tFor (iSeq K (tVar 3)) (gTup K 2 (gCons (gName 6) (gCons (gName 7) (gNil)))) (tFor (iStr (tFld K (tVar 0) "alphabet")) (gName 8) (tSeq (tAsg (tOwn (sp_behind K) (tCons (tVar 0) (tCons (tVar 7) (tCons (tVar 8) (tNil))))) (gName 9)) (tIfS (tTest (tOp rIsNotU (tVar 9) (tC .non))) (tDrop (tBM K "list" rAppend (tVar 5) (tCons (tTup (tCons (tOp (rPlus K) (tVar 6) (tVar 8)) (tCons (tVar 9) (tNil)))) (tNil)))) (tNext))))) (t_texts_of_p1 K)))) (t_texts_of_p2 K))
abbrev n_first_text : List Str := ["core", "row"]
def t_first_text (K : PySem.W.Frag) : TS :=
  tRet (tOwn (sp_first_by K) (tCons (tVar 0) (tCons (tOwn (sp_need_row K) (tCons (tVar 0) (tCons (tVar 1) (tNil)))) (tNil))))
abbrev n_norm_of : List Str := ["core", "row"]
def t_norm_of (K : PySem.W.Frag) : TS :=
  tRet (tOwn (sp_norm_by K) (tCons (tVar 0) (tCons (tOwn (sp_need_row K) (tCons (tVar 0) (tCons (tVar 1) (tNil)))) (tNil))))
theorem pure_need_length {K : PySem.W.Frag} (vs : List V) (H : Hp) (Q : VK) (E : XK) (h : sp_need_length K vs H Q E) : t_need_length K { nx := fun _ H' => Q .non H', rt := Q } (start n_need_length vs) H := by
  obtain ⟨L, mo, rfl, hl, q⟩ := h
  unfold t_need_length
  walk_at "gw"
  refine ⟨_, rfl, fun H1 s1 => ?_⟩
  walk_at "gw"
  refine w_iteF rfl ?_
  walk_at "gw"
  refine w_iteT (decide_eq_true (by omega)) ?_
  walk_at "gw"
  rw [decide_eq_true (show ((L : Nat) : Int) ≤ (mo : Nat) by omega)]
  refine w_iteF rfl ?_
  walk_at "gw"
  exact q _ s1
theorem pure_first_text {K : PySem.W.Frag} (vs : List V) (H : Hp) (Q : VK) (E : XK) (h : sp_first_text K vs H Q E) : t_first_text K { nx := fun _ H' => Q .non H', rt := Q } (start n_first_text vs) H := by
  obtain ⟨x, S, m, W, F, a, r, rfl, c, hs, hl, hk, q⟩ := h
  unfold t_first_text
  walk_at "gw"
  refine ⟨x, S, m, W, F, a, r, rfl, c, hs, hl, hk, fun p H1 s1 h1 => ?_⟩
  walk_at "gw"
  exact ⟨x, S, m, W, F, p, r, rfl, c.same s1, h1, by omega, hk, fun H2 s2 => q _ fun b o e => s2 b o (s1 b o e)⟩
theorem pure_norm_of {K : PySem.W.Frag} (vs : List V) (H : Hp) (Q : VK) (E : XK) (h : sp_norm_of K vs H Q E) : t_norm_of K { nx := fun _ H' => Q .non H', rt := Q } (start n_norm_of vs) H := by
  obtain ⟨x, S, m, W, F, a, r, rfl, c, hs, hl, hk, q⟩ := h
  unfold t_norm_of
  walk_at "gw"
  refine ⟨x, S, m, W, F, a, r, rfl, c, hs, hl, hk, fun p H1 s1 h1 => ?_⟩
  walk_at "gw"
  exact ⟨x, S, m, W, F, p, r, rfl, c.same s1, h1, by omega, hk, fun H2 s2 => q _ fun b o e => s2 b o (s1 b o e)⟩
theorem stp_take {W : Wys} {S : List Nat} {ok : List Nat → Bool} {f : Fro} {j : Nat} {p : List Nat × List Nat} (h : f[j]? = some p) : stp W S ok (f.take (j + 1)) = stp W S ok (f.take j) ++ S.flatMap (stp1 W ok p) := by
  unfold stp
  rw [List.take_add_one, h, List.flatMap_append]
  simp
theorem stp1_take {W : Wys} {S : List Nat} {ok : List Nat → Bool} {j s : Nat} {p : List Nat × List Nat} (h : S[j]? = some s) : (S.take (j + 1)).flatMap (stp1 W ok p) = (S.take j).flatMap (stp1 W ok p) ++ stp1 W ok p s := by
  rw [List.take_add_one, h, List.flatMap_append]
  simp
theorem stp1_no {W : Wys} {ok : List Nat → Bool} {s : Nat} {p : List Nat × List Nat} (h : bhd W p.2 s = none) : stp1 W ok p s = [] := by unfold stp1; rw [h]
theorem stp1_off {W : Wys} {ok : List Nat → Bool} {s : Nat} {p : List Nat × List Nat} {r : List Nat} (h : bhd W p.2 s = some r) (o : ok r = false) : stp1 W ok p s = [] := by unfold stp1; rw [h]; simp [o]
theorem stp1_yes {W : Wys} {ok : List Nat → Bool} {s : Nat} {p : List Nat × List Nat} {r : List Nat} (h : bhd W p.2 s = some r) (o : ok r = true) : stp1 W ok p s = [(p.1 ++ [s], r)] := by unfold stp1; rw [h]; simp [o]
/-- before a turn of texts_of -/
def ToI (K : PySem.W.Frag) (H : Hp) (x a : Addr) (S : Str) (m : Nat) (W : Wys) (r : List Nat) (L i : Nat) (σ : L2.St) (H' : Hp) : Prop :=
  ∃ (o4 o5 o6 o7 o8 o9 : Option V) (l : Addr) (ps : List Addr) (fs : Fro), σ = [some (.ref x), some (.ref a), some (.int (L : Nat)), some (.ref l), o4, o5, o6, o7, o8, o9] ∧ Same H H' ∧ H l = none ∧ H' l = some (.lst (ps.map V.ref)) ∧ Paired (FrE K H') ps fs ∧
    res W (cs S) (L - i) fs = lts W (cs S) L r ∧ (∀ p ∈ fs, InC m p.2 ∧ p.2.length ≤ 60 + 60 * i) ∧ fs.length ≤ 6 ^ i ∧ ∀ p ∈ fs, p.1.length = i
theorem pure_texts_of {K : PySem.W.Frag} (vs : List V) (H : Hp) (Q : VK) (E : XK) (h : sp_texts_of K vs H Q E) : t_texts_of K { nx := fun _ H' => Q .non H', rt := Q } (start n_texts_of vs) H := by
  obtain ⟨x, S, m, W, F, a, r, L, rfl, c, hs, hl, hk, hL, q⟩ := h
  have sl : 1000000 ≤ sizeLine := by decide
  have okW : ∀ w ∈ W, w.2.length ≤ 60 ∧ ∀ k ∈ w.2, k < m := fun w hw => (c.w.ok w hw).2.2
  have l6 : (cs S).length ≤ 6 := by have := c.w.len; rw [size_cs] at this; exact this
  unfold t_texts_of
  walk_at "gw"
  refine ⟨x, S, m, W, F, a, r, rfl, c, hs, hl, hk, fun p0 H1 s1 h1 => ?_⟩
  walk_at "gw"
  refine ⟨by show 2 ≤ sizeLine; omega, fun p1 hp1 => ?_⟩
  have n1 := same_new (o := .tup [V.str "", .ref p0]) hp1
  have fe : FrE K (upd H1 p1 (.tup [V.str "", .ref p0])) p1 ([], r) := ⟨p0, sqt_of upd_same, sqt_same n1 h1⟩
  have s2 : Same H (upd H1 p1 (.tup [V.str "", .ref p0])) := fun b o e => n1 b o (s1 b o e)
  generalize upd H1 p1 (.tup [V.str "", .ref p0]) = H2 at fe s2
  clear n1 hp1 h1 s1
  walk_at "gw"
  refine ⟨by show 1 ≤ sizeLine; omega, fun l0 hl0 => ?_⟩
  have n2 := same_new (o := .lst [V.ref p1]) hl0
  have e0 : upd H2 l0 (.lst [V.ref p1]) l0 = some (.lst ([p1].map V.ref)) := upd_same
  have s3 : Same H (upd H2 l0 (.lst [V.ref p1])) := fun b o e => n2 b o (s2 b o e)
  have fe3 := fe.same n2
  have hl0' : H l0 = none := same_free s2 hl0
  generalize upd H2 l0 (.lst [V.ref p1]) = H3 at e0 s3 fe3
  clear n2 hl0 fe s2 H2
  walk_at "gw"
  refine ⟨L, 6, rfl, by omega, fun H4 s4 => ?_⟩
  refine e_rng (by omega) (by omega) ?_
  rw [show ((L : Nat) : Int).toNat = L by omega]
  refine for_it (walk_range (lo := 0) (n := L)) (fun i σ H' => ToI K H x a S m W r L i σ H') ⟨_, _, _, _, _, _, l0, [p1], [([], r)], rfl, fun b o e => s4 b o (s3 b o e), hl0', s4 _ _ e0, .cons (fe3.same s4) .nil, ?_, ?_, by simp, by simp⟩ (fun _ _ _ _ _ => True.intro) ?_ ?_
  · unfold res
    simp
  · intro p hp
    rw [List.mem_singleton.mp hp]
    exact ⟨hk, by simp only; omega⟩
  · rintro i y σ H5 H6 hi ⟨o4, o5, o6, o7, o8, o9, l, ps, fs, rfl, s5, hlN, e5, pr, rs, ok, ln, tl⟩ ⟨rfl, rfl⟩
    walk_at "gw"
    refine ⟨Nat.zero_le _, fun g hg => ?_⟩
    have n6 := same_new (o := .lst []) hg
    have gH : H g = none := same_free s5 hg
    have lg : l ≠ g := ne_of_none e5 hg
    have eg : upd H6 g (.lst []) g = some (.lst (([] : List Addr).map V.ref)) := upd_same
    replace s5 : Same H (upd H6 g (.lst [])) := fun b o e => n6 b o (s5 b o e)
    replace e5 := n6 _ _ e5
    replace pr := Paired.mapP pr fun _ _ h => FrE.same h n6
    generalize upd H6 g (.lst []) = G at s5 e5 eg pr
    clear n6 hg H6
    have lpf : ps.length = fs.length := paired_len pr
    have hgl : ∀ b ∈ [g], ∃ ys, G b = some (.lst ys) := fun b hb => by rw [List.mem_singleton.mp hb]; exact ⟨_, eg⟩
    have p6 : (6 : Nat) ^ i ≤ 6 ^ 5 := Nat.pow_le_pow_right (by decide) (by omega)
    have p6' : (6 : Nat) ^ 5 = 7776 := by decide
    walk_at "gw"
    refine w_iseqL ?_
    walk_at "gw"
    refine e_ilist (sql_of e5) ?_
    refine for_it walk_list (fun j σ H' => (∃ (o6 o7 o8 o9 : Option V), σ = [some (.ref x), some (.ref a), some (.int (L : Nat)), some (.ref l), some (.int (i : Nat)), some (.ref g), o6, o7, o8, o9]) ∧ Frm [g] G H' ∧ ∃ qs, H' g = some (.lst (qs.map V.ref)) ∧ Paired (FrE K H') qs (stp W (cs S) (fun _ => true) (fs.take j))) ⟨⟨o6, o7, o8, o9, by simp⟩, Frm.refl _ _, [], eg, .nil⟩ (fun j σ H' _ e => sql_of (e.2.1.at_ _ _ (by simpa using lg) e5)) ?_ ?_
    · rintro j y σ G1 G2 hj ⟨⟨o6, o7, o8, o9, rfl⟩, f1, qs, eq1, pq⟩ ⟨rfl, hy⟩
      rw [List.length_map, lpf] at hj
      obtain ⟨b, hb, rfl⟩ : ∃ b, ps[j]? = some b ∧ y = .ref b := by
        rw [List.getElem?_map] at hy
        obtain ⟨b, h1, h2⟩ := Option.map_eq_some_iff.mp hy
        exact ⟨b, h1, h2.symm⟩
      obtain ⟨p, hp⟩ : ∃ p, fs[j]? = some p := ⟨fs[j], List.getElem?_eq_getElem hj⟩
      obtain ⟨b', hb', fb⟩ := paired_at pr hp
      rw [hb] at hb'
      cases hb'
      obtain ⟨ap, h1, h2⟩ := fb
      obtain ⟨ok1, ok2⟩ := ok p (List.mem_of_getElem? hp)
      have tl1 := tl p (List.mem_of_getElem? hp)
      refine w_gtup (sqt_frm f1 hgl h1) rfl ?_
      walk_at "gw"
      have s6 := same_frmN s5 f1 gH
      refine FldAt.read (c.same s6).c.al (by simp) ?_
      walk_at "gw"
      refine for_it walk_str (fun k σ H' => (∃ (o8 o9 : Option V), σ = [some (.ref x), some (.ref a), some (.int (L : Nat)), some (.ref l), some (.int (i : Nat)), some (.ref g), some (.str (mkS p.1)), some (.ref ap), o8, o9]) ∧ Frm [g] G H' ∧ ∃ qs, H' g = some (.lst (qs.map V.ref)) ∧ Paired (FrE K H') qs (stp W (cs S) (fun _ => true) (fs.take j) ++ ((cs S).take k).flatMap (stp1 W (fun _ => true) p))) ⟨⟨_, _, rfl⟩, f1, qs, eq1, by simpa using pq⟩ (fun _ _ _ _ _ => True.intro) ?_ ?_
      · rintro k y σ G3 G4 hk3 ⟨⟨o8, o9, rfl⟩, f3, qs3, eq3, pq3⟩ ⟨rfl, ch, hch, rfl⟩
        have hch2 : (cs S)[k]? = some ch := get_cps hch
        have s7 := same_frmN s5 f3 gH
        have h4 := sqt_frm f3 hgl h2
        have lq : qs3.length ≤ 7776 * 6 + 6 := by
          rw [paired_len pq3, List.length_append]
          have b1 := stp_len (W := W) (S := cs S) (ok := fun _ => true) (f := fs.take j)
          have b2 : (fs.take j).length ≤ 7776 := by rw [List.length_take]; omega
          have b3 : (fs.take j).length * (cs S).length ≤ 7776 * 6 := Nat.mul_le_mul b2 l6
          have b4 := stp_len (W := W) (S := (cs S).take k) (ok := fun _ => true) (f := [p])
          unfold stp at b4
          simp only [List.flatMap_cons, List.flatMap_nil, List.append_nil, List.length_cons, List.length_nil, List.length_take] at b4
          omega
        walk_at "gw"
        refine ⟨x, S, m, W, F, ap, p.2, ch, rfl, c.same s7, h4, by omega, ok1, fun v G5 s8 hv => ?_⟩
        have f5 := f3.trans (Same.frm s8)
        have pq5 := Paired.mapP pq3 fun _ _ h => FrE.same h s8
        have eq5 := s8 _ _ eq3
        have tk := stp1_take (W := W) (ok := fun _ => true) (p := p) hch2
        cases eb : bhd W p.2 ch with
        | none =>
          rw [eb] at hv
          cases (show v = .non from hv)
          walk_at "gw"
          refine w_iteF rfl ?_
          walk_at "gw"
          refine ⟨⟨_, _, rfl⟩, f5, qs3, eq5, ?_⟩
          rw [tk, stp1_no eb, List.append_nil]
          exact pq5
        | some r1 =>
          rw [eb] at hv
          obtain ⟨a1, rfl, h5⟩ := hv
          walk_at "gw"
          refine w_iteT rfl ?_
          walk_at "gw"
          refine plus_s (by rw [len_mk]; show p.1.length + 1 ≤ _; omega) ?_
          walk_at "gw"
          refine ⟨by show 2 ≤ sizeLine; omega, fun p3 hp3 => ?_⟩
          have n8 := same_new (o := .tup [V.str (mkS p.1 ++ ⟨#[ch]⟩), .ref a1]) hp3
          have et : mkS p.1 ++ (⟨#[ch]⟩ : Str) = mkS (p.1 ++ [ch]) := str_ext (by rw [cs_app, cs_mk, cs_mk])
          have fe5 : FrE K (upd G5 p3 (.tup [V.str (mkS p.1 ++ ⟨#[ch]⟩), .ref a1])) p3 (p.1 ++ [ch], r1) := ⟨a1, by rw [et]; exact sqt_of upd_same, sqt_same n8 h5⟩
          have f6 := f5.trans (Same.frm n8)
          have pq6 := Paired.mapP pq5 fun _ _ h => FrE.same h n8
          have eq6 := n8 _ _ eq5
          generalize upd G5 p3 (.tup [V.str (mkS p.1 ++ ⟨#[ch]⟩), .ref a1]) = G6 at fe5 f6 pq6 eq6
          walk_at "gw"
          refine ⟨g, _, _, rfl, rfl, eq6, by rw [List.length_map]; omega, ?_⟩
          walk_at "gw"
          have f7 : Frm [g] G6 (upd G6 g (.lst (qs3.map V.ref ++ [V.ref p3]))) := frm_upd (by simp)
          have hgl6 : ∀ b ∈ [g], ∃ ys, G6 b = some (.lst ys) := fun b hb => by rw [List.mem_singleton.mp hb]; exact ⟨_, eq6⟩
          refine ⟨⟨_, _, rfl⟩, f6.trans f7, qs3 ++ [p3], by rw [upd_same]; simp, ?_⟩
          rw [tk, stp1_yes eb rfl, ← List.append_assoc]
          exact paired_snoc (Paired.mapP pq6 fun _ _ h => h.frm f7 hgl6) (fe5.frm f7 hgl6)
      · rintro σ G3 ⟨⟨o8, o9, rfl⟩, f3, qs3, eq3, pq3⟩
        refine ⟨⟨_, _, _, _, rfl⟩, f3, qs3, eq3, ?_⟩
        rw [size_cs, List.take_length] at pq3
        rw [stp_take hp]
        exact pq3
    · rintro σ G1 ⟨⟨o6, o7, o8, o9, rfl⟩, f1, qs, eq1, pq⟩
      rw [List.length_map, lpf, List.take_length] at pq
      unfold t_texts_of_p1
      walk_at "gw"
      refine ⟨_, _, _, _, _, _, g, qs, _, rfl, same_frmN s5 f1 gH, gH, eq1, pq, ?_, fun p hp => ?_, ?_, stp_txt tl⟩
      · rw [res_step fun p hp s r' _ h => by cases h]
        rw [show L - (i + 1) + 1 = L - i by omega]
        exact rs
      · obtain ⟨b1, b2⟩ := stp_ok (B := 60 + 60 * i) okW (fun p hp => ok p hp) p hp
        exact ⟨b1, by omega⟩
      · refine Nat.le_trans stp_len ?_
        rw [Nat.pow_succ]
        exact Nat.mul_le_mul ln l6
  · rintro σ H5 ⟨o4, o5, o6, o7, o8, o9, l, ps, fs, rfl, s5, hlN, e5, pr, rs, ok, ln, tl⟩
    unfold t_texts_of_p2
    rw [Nat.sub_self, res_zero] at rs
    have lpf : ps.length = fs.length := paired_len pr
    have p6 : (6 : Nat) ^ L ≤ 6 ^ 6 := Nat.pow_le_pow_right (by decide) (by omega)
    have p6' : (6 : Nat) ^ 6 = 46656 := by decide
    walk_at "gw"
    refine iseq_a rfl (.inl (sql_of e5)) fun J Gw wk hG => ?_
    rw [List.length_map, lpf] at wk
    refine lc_im wk (fun j => decide ((fs.getD j default).2 = [])) (fun j => .str (mkS (fs.getD j default).1)) (by omega) (fun _ H' _ e => hG H' (Same.rds e)) ?_ ?_
    · rintro j y H7 H8 KY KN hj s7 ⟨rfl, hy⟩ kY kN
      obtain ⟨b, hb, rfl⟩ : ∃ b, ps[j]? = some b ∧ y = .ref b := by
        rw [List.getElem?_map] at hy
        obtain ⟨b, h1, h2⟩ := Option.map_eq_some_iff.mp hy
        exact ⟨b, h1, h2.symm⟩
      obtain ⟨p, hp⟩ : ∃ p, fs[j]? = some p := ⟨fs[j], List.getElem?_eq_getElem hj⟩
      obtain ⟨b', hb', fb⟩ := paired_at pr hp
      rw [hb] at hb'
      cases hb'
      have ej : fs.getD j default = p := by rw [List.getD_eq_getElem?_getD, hp]; rfl
      rw [ej] at kY kN
      obtain ⟨ap, h1, h2⟩ := fb.same s7
      refine w_gtup h1 rfl ?_
      walk_at "gw"
      refine ⟨rfl, ?_⟩
      walk_at "gw"
      refine ⟨Nat.zero_le _, fun p0 hp0 => ?_⟩
      have n0 := same_new (o := .tup []) hp0
      refine eq_nilT (o := some p.2) ⟨ap, rfl, sqt_same n0 h2⟩ upd_same ⟨_, rfl, ?_⟩
      refine w_ite (fun e => ?_) (fun e => ?_)
      · have e2 : p.2 = [] := Option.some.inj (of_decide_eq_true e)
        walk_at "gw"
        exact kY (decide_eq_true e2) _ n0
      · exact kN (decide_eq_false fun z => (of_decide_eq_false e) (by rw [z])) _ n0
    · intro D H7 hD s7 h5
      rw [given_filA (fun p : List Nat × List Nat => decide (p.2 = [])) (fun p => V.str (mkS p.1))] at h5
      refine q D _ (fun b o e => s7 b o (s5 b o e)) (same_free s5 hD) ?_
      rw [h5, ← rs]
      simp [txV]
end Pt.Re
namespace Pt.Re
/-! ### the law's texts -/
def FDk (kv : List (L2.Key × V)) (m : Nat) (F : Nat → List Nat) : Prop := ∀ k : Nat, k < m → valV kv (.inl (k : Nat)) = some (.str (mkS (F k)))
def sp_law_bnorm (K : PySem.W.Frag) : Sp := fun vs H Q _ => ∃ f kv m F p r, vs = [.ref f, .ref p] ∧ H f = some (.dK kv) ∧ FDk kv m F ∧ (∀ k, k < m → (F k).length ≤ 200) ∧ SqT K H p (rI r) ∧ r.length ≤ 10000 ∧ InC m r ∧ ∀ H', Same H H' → Q (.int (sumN (fun k => (F k).length) r : Nat)) H'
def sp_law_btexts (K : PySem.W.Frag) : Sp := fun vs H Q _ => ∃ a S m W F p r, ∃ (L : Nat), vs = [.ref a, .ref p, .int (L : Nat)] ∧ LC K H a S m W F ∧ SqT K H p (rI r) ∧ r.length ≤ 60 ∧ InC m r ∧ L ≤ 6 ∧ m ≤ 8 ∧ (∀ w ∈ W, w.2.length ≤ 3) ∧
  ∀ l H', Same H H' → H l = none → H' l = some (.lst (txV (lts W (cs S) L r))) → Q (.ref l) H'
def sp_law_bis_text (K : PySem.W.Frag) : Sp := fun vs H Q _ => ∃ a S m W F p r, ∃ (t : Str), vs = [.ref a, .ref p, .str t] ∧ LC K H a S m W F ∧ SqT K H p (rI r) ∧ r.length + 60 * t.length ≤ 100000 ∧ InC m r ∧ ∀ H', Same H H' → Q (.bl (decide (rdt W r (cs t) = some []))) H'
abbrev n_law_bnorm : List Str := ["firsts", "row", "kind"]
def t_law_bnorm (K : PySem.W.Frag) : TS :=
  tRet (tCB (rSum K) (tCons (tLc (iSeq K (tVar 1)) (gName 2) (tYes) (tCB (cLen K) (tCons (tOp (rIxU K) (tVar 0) (tVar 2)) (tNil))) [2]) (tNil)))
abbrev n_law_btexts : List Str := ["core", "row", "length", "firsts", "front", "turn", "longer", "text", "left", "sign", "more"]
def t_law_btexts_p1 (K : PySem.W.Frag) : TS :=
  tAsg (tVar 6) (gName 4)
def t_law_btexts_p2 (K : PySem.W.Frag) : TS :=
  tRet (tLc (iSeq K (tVar 4)) (gTup K 2 (gCons (gName 7) (gCons (gName 8) (gNil)))) (tTest (tOp (rEqU K) (tVar 8) (tTup (tNil)))) (tVar 7) [7, 8])
def t_law_btexts (K : PySem.W.Frag) : TS :=
  tSeq (tAsg (tOwn (sp_law_bfirsts K) (tCons (tVar 0) (tNil))) (gName 3)) (tSeq (tAsg (tLst (tCons (tTup (tCons (tC (.str "")) (tCons (tCB (cTuple K) (tCons (tVar 1) (tNil))) (tNil)))) (tNil))) (gName 4)) (tSeq (tFor (iRng1 (tCons (tVar 2) (tNil))) (gName 5) (tSeq (tAsg (tLst (tNil)) (gName 6)) (tSeq (tFor (iSeq K (tVar 4)) (gTup K 2 (gCons (gName 7) (gCons (gName 8) (gNil)))) (tFor (iStr (tOp (rIxU K) (tVar 0) (tC (.int 0)))) (gName 9) (tSeq (tAsg (tOwn (sp_law_bbehind K) (tCons (tVar 0) (tCons (tVar 8) (tCons (tVar 9) (tNil))))) (gName 10)) (tIfS (tAnd (tTest (tOp rIsNotU (tVar 10) (tC .non))) (tTest (tOp rLeI (tOwn (sp_law_bnorm K) (tCons (tVar 3) (tCons (tVar 10) (tNil)))) (tOp rMinus (tOp rMinus (tVar 2) (tVar 5)) (tC (.int 1)))))) (tDrop (tBM K "list" rAppend (tVar 6) (tCons (tTup (tCons (tOp (rPlus K) (tVar 7) (tVar 9)) (tCons (tVar 10) (tNil)))) (tNil)))) (tNext))))) (t_law_btexts_p1 K)))) (t_law_btexts_p2 K)))
abbrev n_law_bis_text : List Str := ["core", "row", "text", "rows"]
def t_law_bis_text (K : PySem.W.Frag) : TS :=
  tSeq (tAsg (tOwn (sp_law_bwalked K) (tCons (tVar 0) (tCons (tVar 1) (tCons (tVar 2) (tNil))))) (gName 3)) (tRet (tAndT K (tOp (rEqU K) (tCB (cLen K) (tCons (tVar 3) (tNil))) (tOp (rPlus K) (tCB (cLen K) (tCons (tVar 2) (tNil))) (tC (.int 1)))) (tOp (rEqU K) (tOp (rIxU K) (tVar 3) (tUn (rU fun i => .int (-i)) (tC (.int 1)))) (tTup (tNil)))))
theorem pure_law_bnorm {K : PySem.W.Frag} (vs : List V) (H : Hp) (Q : VK) (E : XK) (h : sp_law_bnorm K vs H Q E) : t_law_bnorm K { nx := fun _ H' => Q .non H', rt := Q } (start n_law_bnorm vs) H := by
  obtain ⟨f, kv, m, F, p, r, rfl, hf, hF, h200, hs, hl, hk, q⟩ := h
  have sl : 1000000 ≤ sizeLine := by decide
  unfold t_law_bnorm
  walk_at "gw"
  refine iseq_a rfl (.inr hs) fun J Gw wk hG => ?_
  rw [rI_len] at wk
  refine lc_im wk (fun _ => true) (fun j => .int ((F (r.getD j 0)).length : Nat)) (by omega) (fun _ H' _ e => hG H' (Same.rds e)) ?_ ?_
  · rintro j y H4 H5 KY KN hj s4 ⟨rfl, hx⟩ kY kN
    obtain ⟨z, hz', rfl⟩ := rI_get hx
    have e : r.getD j 0 = z := by rw [List.getD_eq_getElem?_getD, hz']; rfl
    have hm := hk z (List.mem_of_getElem? hz')
    rw [e] at kY
    walk_at "gw"
    refine ⟨rfl, ?_⟩
    walk_at "gw"
    refine w_iteT rfl ?_
    walk_at "gw"
    refine ix_d (v := .str (mkS (F z))) (.inl ⟨kv, .inl (z : Nat), .inl (s4 _ _ hf), rfl, (hF z hm).symm⟩) ?_
    walk_at "gw"
    have h2 := h200 z hm
    refine len_s (by rw [len_mk]; omega) ?_
    rw [len_mk]
    exact kY rfl _ (Same.refl _)
  · intro D H4 hD s4 h5
    rw [given_row (fun z => V.int ((F z).length : Nat))] at h5
    walk_at "gw"
    refine ⟨D, r.map fun z => (((F z).length : Nat) : Int), rfl, sql_of (h5.trans (by rw [List.map_map]; rfl)), ?_⟩
    rw [sum_cast]
    exact q _ s4
theorem tr_short {W : Wys} : ∀ {t r : List Nat}, rdt W r t = none → (tr W r t).length ≤ t.length
  | [], r, h => by cases h
  | c :: t, r, h => by
    have h3 : (bhd W r c).bind (fun r => rdt W r t) = none := h
    cases e : bhd W r c with
    | none =>
      show (r :: _).length ≤ _
      rw [e]
      simp
    | some r' =>
      rw [e] at h3
      have ih := tr_short (t := t) h3
      show (r :: _).length ≤ _
      rw [e]
      simp only [List.length_cons]
      omega
theorem pure_law_bis_text {K : PySem.W.Frag} (vs : List V) (H : Hp) (Q : VK) (E : XK) (h : sp_law_bis_text K vs H Q E) : t_law_bis_text K { nx := fun _ H' => Q .non H', rt := Q } (start n_law_bis_text vs) H := by
  obtain ⟨a, S, m, W, F, p, r, t, rfl, c, hs, hl, hk, q⟩ := h
  have sl : 1000000 ≤ sizeLine := by decide
  unfold t_law_bis_text
  walk_at "gw"
  refine ⟨a, S, m, W, F, p, r, t, rfl, c, hs, hl, hk, fun l ps H1 s1 hl1 e1 pr => ?_⟩
  walk_at "gw"
  refine len_s (by omega) ?_
  walk_at "gw"
  have lmp : (ps.map V.ref).length = (tr W r (cs t)).length := by rw [List.length_map, paired_len pr]
  rw [lmp]
  cases er : rdt W r (cs t) with
  | none =>
    rw [er] at q
    have h1 := tr_short er
    rw [← len_cs] at h1
    refine w_iteF (decide_eq_false (by omega)) ?_
    rw [decide_eq_false (by omega)]
    exact q _ s1
  | some r1 =>
    rw [er] at q
    have h1 := tr_len er
    rw [← len_cs] at h1
    refine w_iteT (decide_eq_true (by omega)) ?_
    walk_at "gw"
    refine ⟨1, rfl, ?_⟩
    obtain ⟨a', la, ha'⟩ := paired_last pr (tr_last er)
    have lv : (ps.map V.ref).getLast? = some (.ref a') := by rw [List.getLast?_map, la]; rfl
    have lps := paired_len pr
    refine ix_l (sql_of e1) (atI_last lv (by rw [List.length_map]; omega)) ?_
    walk_at "gw"
    refine ⟨Nat.zero_le _, fun p0 hp0 => ?_⟩
    have n0 := same_new (o := .tup []) hp0
    exact eq_nilT (o := some r1) ⟨a', rfl, sqt_same n0 ha'⟩ upd_same (q _ fun b o e => n0 b o (s1 b o e))
/-- before a turn of btexts -/
def TbI (K : PySem.W.Frag) (H : Hp) (a p f : Addr) (S : Str) (m : Nat) (W : Wys) (r : List Nat) (kv : List (L2.Key × V)) (L i : Nat) (σ : L2.St) (H' : Hp) : Prop :=
  ∃ (o5 o6 o7 o8 o9 o10 : Option V) (l : Addr) (ps : List Addr) (fs : Fro), σ = [some (.ref a), some (.ref p), some (.int (L : Nat)), some (.ref f), some (.ref l), o5, o6, o7, o8, o9, o10] ∧ Same H H' ∧ H l = none ∧ H' f = some (.dK kv) ∧ H' l = some (.lst (ps.map V.ref)) ∧ Paired (FrE K H') ps fs ∧
    res W (cs S) (L - i) fs = lts W (cs S) L r ∧ (∀ p ∈ fs, InC m p.2 ∧ p.2.length ≤ 60 + 60 * i) ∧ fs.length ≤ 6 ^ i ∧ ∀ p ∈ fs, p.1.length = i
theorem pure_law_btexts {K : PySem.W.Frag} (vs : List V) (H : Hp) (Q : VK) (E : XK) (h : sp_law_btexts K vs H Q E) : t_law_btexts K { nx := fun _ H' => Q .non H', rt := Q } (start n_law_btexts vs) H := by
  obtain ⟨a, S, m, W, F, p, r, L, rfl, c, hs, hl, hk, hL, m8, r3, q⟩ := h
  have sl : 1000000 ≤ sizeLine := by decide
  have okW : ∀ w ∈ W, w.2.length ≤ 60 ∧ ∀ k ∈ w.2, k < m := fun w hw => (c.w.ok w hw).2.2
  have l6 : (cs S).length ≤ 6 := by have := c.w.len; rw [size_cs] at this; exact this
  unfold t_law_btexts
  walk_at "gw"
  refine ⟨a, S, m, W, F, rfl, c, m8, r3, fun f kv H1 s1 hfN hf hF => ?_⟩
  walk_at "gw"
  refine tuple_t (sqt_same s1 hs) ?_
  walk_at "gw"
  refine ⟨by show 2 ≤ sizeLine; omega, fun p1 hp1 => ?_⟩
  have n1 := same_new (o := .tup [V.str "", .ref p]) hp1
  have fe : FrE K (upd H1 p1 (.tup [V.str "", .ref p])) p1 ([], r) := ⟨p, sqt_of upd_same, sqt_same n1 (sqt_same s1 hs)⟩
  have s2 : Same H (upd H1 p1 (.tup [V.str "", .ref p])) := fun b o e => n1 b o (s1 b o e)
  have f2 := n1 _ _ hf
  generalize upd H1 p1 (.tup [V.str "", .ref p]) = H2 at fe s2 f2
  clear n1 hp1
  walk_at "gw"
  refine ⟨by show 1 ≤ sizeLine; omega, fun l0 hl0 => ?_⟩
  have n2 := same_new (o := .lst [V.ref p1]) hl0
  have e0 : upd H2 l0 (.lst [V.ref p1]) l0 = some (.lst ([p1].map V.ref)) := upd_same
  have s3 : Same H (upd H2 l0 (.lst [V.ref p1])) := fun b o e => n2 b o (s2 b o e)
  have fe3 := fe.same n2
  have f3 := n2 _ _ f2
  have hl0' : H l0 = none := same_free s2 hl0
  generalize upd H2 l0 (.lst [V.ref p1]) = H3 at e0 s3 fe3 f3
  clear n2 hl0 fe s2 f2 hf s1 H2 H1
  walk_at "gw"
  refine e_rng (by omega) (by omega) ?_
  rw [show ((L : Nat) : Int).toNat = L by omega]
  refine for_it (walk_range (lo := 0) (n := L)) (fun i σ H' => TbI K H a p f S m W r kv L i σ H') ⟨_, _, _, _, _, _, l0, [p1], [([], r)], rfl, s3, hl0', f3, e0, .cons fe3 .nil, ?_, ?_, by simp, by simp⟩ (fun _ _ _ _ _ => True.intro) ?_ ?_
  · unfold res
    simp
  · intro p hp
    rw [List.mem_singleton.mp hp]
    exact ⟨hk, by simp only; omega⟩
  · rintro i y σ H5 H6 hi ⟨o5, o6, o7, o8, o9, o10, l, ps, fs, rfl, s5, hlN, f5, e5, pr, rs, ok, ln, tl⟩ ⟨rfl, rfl⟩
    walk_at "gw"
    refine ⟨Nat.zero_le _, fun g hg => ?_⟩
    have n6 := same_new (o := .lst []) hg
    have gH : H g = none := same_free s5 hg
    have lg : l ≠ g := ne_of_none e5 hg
    have fg : f ≠ g := ne_of_none f5 hg
    have eg : upd H6 g (.lst []) g = some (.lst (([] : List Addr).map V.ref)) := upd_same
    replace s5 : Same H (upd H6 g (.lst [])) := fun b o e => n6 b o (s5 b o e)
    replace e5 := n6 _ _ e5
    replace f5 := n6 _ _ f5
    replace pr := Paired.mapP pr fun _ _ h => FrE.same h n6
    generalize upd H6 g (.lst []) = G at s5 e5 f5 eg pr
    clear n6 hg H6
    have lpf : ps.length = fs.length := paired_len pr
    have hgl : ∀ b ∈ [g], ∃ ys, G b = some (.lst ys) := fun b hb => by rw [List.mem_singleton.mp hb]; exact ⟨_, eg⟩
    have p6 : (6 : Nat) ^ i ≤ 6 ^ 5 := Nat.pow_le_pow_right (by decide) (by omega)
    have p6' : (6 : Nat) ^ 5 = 7776 := by decide
    obtain ⟨okf, hokf⟩ : ∃ okf : List Nat → Bool, okf = fun r' => decide (sumN (fun k => (F k).length) r' + i + 1 ≤ L) := ⟨_, rfl⟩
    walk_at "gw"
    refine w_iseqL ?_
    walk_at "gw"
    refine e_ilist (sql_of e5) ?_
    refine for_it walk_list (fun j σ H' => (∃ (o7 o8 o9 o10 : Option V), σ = [some (.ref a), some (.ref p), some (.int (L : Nat)), some (.ref f), some (.ref l), some (.int (i : Nat)), some (.ref g), o7, o8, o9, o10]) ∧ Frm [g] G H' ∧ ∃ qs, H' g = some (.lst (qs.map V.ref)) ∧ Paired (FrE K H') qs (stp W (cs S) okf (fs.take j))) ⟨⟨o7, o8, o9, o10, by simp⟩, Frm.refl _ _, [], eg, .nil⟩ (fun j σ H' _ e => sql_of (e.2.1.at_ _ _ (by simpa using lg) e5)) ?_ ?_
    · rintro j y σ G1 G2 hj ⟨⟨o7, o8, o9, o10, rfl⟩, f1, qs, eq1, pq⟩ ⟨rfl, hy⟩
      rw [List.length_map, lpf] at hj
      obtain ⟨b, hb, rfl⟩ : ∃ b, ps[j]? = some b ∧ y = .ref b := by
        rw [List.getElem?_map] at hy
        obtain ⟨b, h1, h2⟩ := Option.map_eq_some_iff.mp hy
        exact ⟨b, h1, h2.symm⟩
      obtain ⟨pp, hp⟩ : ∃ pp, fs[j]? = some pp := ⟨fs[j], List.getElem?_eq_getElem hj⟩
      obtain ⟨b', hb', fb⟩ := paired_at pr hp
      rw [hb] at hb'
      cases hb'
      obtain ⟨ap, h1, h2⟩ := fb
      obtain ⟨ok1, ok2⟩ := ok pp (List.mem_of_getElem? hp)
      have tl1 := tl pp (List.mem_of_getElem? hp)
      refine w_gtup (sqt_frm f1 hgl h1) rfl ?_
      walk_at "gw"
      have s6 := same_frmN s5 f1 gH
      obtain ⟨d0, kvs0, ha0, _, _⟩ := (c.same s6).ex
      refine ix_l (v := .str S) (sql_of ha0) (atI_nat (j := 0) rfl) ?_
      walk_at "gw"
      refine for_it walk_str (fun k σ H' => (∃ (o9 o10 : Option V), σ = [some (.ref a), some (.ref p), some (.int (L : Nat)), some (.ref f), some (.ref l), some (.int (i : Nat)), some (.ref g), some (.str (mkS pp.1)), some (.ref ap), o9, o10]) ∧ Frm [g] G H' ∧ ∃ qs, H' g = some (.lst (qs.map V.ref)) ∧ Paired (FrE K H') qs (stp W (cs S) okf (fs.take j) ++ ((cs S).take k).flatMap (stp1 W okf pp))) ⟨⟨_, _, rfl⟩, f1, qs, eq1, by simpa using pq⟩ (fun _ _ _ _ _ => True.intro) ?_ ?_
      · rintro k y σ G3 G4 hk3 ⟨⟨o9, o10, rfl⟩, f3, qs3, eq3, pq3⟩ ⟨rfl, ch, hch, rfl⟩
        have hch2 : (cs S)[k]? = some ch := get_cps hch
        have s7 := same_frmN s5 f3 gH
        have h4 := sqt_frm f3 hgl h2
        have f7 := f3.at_ _ _ (by simpa using fg) f5
        have lq : qs3.length ≤ 7776 * 6 + 6 := by
          rw [paired_len pq3, List.length_append]
          have b1 := stp_len (W := W) (S := cs S) (ok := okf) (f := fs.take j)
          have b2 : (fs.take j).length ≤ 7776 := by rw [List.length_take]; omega
          have b3 : (fs.take j).length * (cs S).length ≤ 7776 * 6 := Nat.mul_le_mul b2 l6
          have b4 := stp_len (W := W) (S := (cs S).take k) (ok := okf) (f := [pp])
          unfold stp at b4
          simp only [List.flatMap_cons, List.flatMap_nil, List.append_nil, List.length_cons, List.length_nil, List.length_take] at b4
          omega
        walk_at "gw"
        refine ⟨a, S, m, W, F, ap, pp.2, ch, rfl, c.same s7, h4, by omega, fun v G5 s8 hv => ?_⟩
        have f5' := f3.trans (Same.frm s8)
        have pq5 := Paired.mapP pq3 fun _ _ h => FrE.same h s8
        have eq5 := s8 _ _ eq3
        have f8 := s8 _ _ f7
        have tk := stp1_take (W := W) (ok := okf) (p := pp) hch2
        cases eb : bhd W pp.2 ch with
        | none =>
          rw [eb] at hv
          cases (show v = .non from hv)
          walk_at "gw"
          refine w_iteF rfl ?_
          refine w_iteF rfl ?_
          walk_at "gw"
          refine ⟨⟨_, _, rfl⟩, f5', qs3, eq5, ?_⟩
          rw [tk, stp1_no eb, List.append_nil]
          exact pq5
        | some r1 =>
          rw [eb] at hv
          obtain ⟨a1, rfl, h5⟩ := hv
          obtain ⟨k1, k2⟩ := bhd_ok okW eb ok1
          walk_at "gw"
          refine w_iteT rfl ?_
          walk_at "gw"
          refine ⟨f, kv, m, F, a1, r1, rfl, f8, hF, c.w.sz, h5, by omega, k1, fun G6 s9 => ?_⟩
          replace h5 := sqt_same s9 h5
          replace pq5 := Paired.mapP pq5 fun _ _ h => FrE.same h s9
          replace f5' := f5'.trans (Same.frm s9)
          replace eq5 := s9 _ _ eq5
          replace f8 := s9 _ _ f8
          clear s9 s8 G5
          walk_at "gw"
          refine w_ite (fun e => ?_) (fun e => ?_)
          · have o : okf r1 = true := by rw [hokf]; exact decide_eq_true (by have := of_decide_eq_true e; omega)
            walk_at "gw"
            refine plus_s (by rw [len_mk]; show pp.1.length + 1 ≤ _; omega) ?_
            walk_at "gw"
            refine ⟨by show 2 ≤ sizeLine; omega, fun p3 hp3 => ?_⟩
            have n8 := same_new (o := .tup [V.str (mkS pp.1 ++ ⟨#[ch]⟩), .ref a1]) hp3
            have et : mkS pp.1 ++ (⟨#[ch]⟩ : Str) = mkS (pp.1 ++ [ch]) := str_ext (by rw [cs_app, cs_mk, cs_mk])
            have fe5 : FrE K (upd G6 p3 (.tup [V.str (mkS pp.1 ++ ⟨#[ch]⟩), .ref a1])) p3 (pp.1 ++ [ch], r1) := ⟨a1, by rw [et]; exact sqt_of upd_same, sqt_same n8 h5⟩
            have f6 := f5'.trans (Same.frm n8)
            have pq6 := Paired.mapP pq5 fun _ _ h => FrE.same h n8
            have eq6 := n8 _ _ eq5
            generalize upd G6 p3 (.tup [V.str (mkS pp.1 ++ ⟨#[ch]⟩), .ref a1]) = G7 at fe5 f6 pq6 eq6
            walk_at "gw"
            refine ⟨g, _, _, rfl, rfl, eq6, by rw [List.length_map]; omega, ?_⟩
            walk_at "gw"
            have f7 : Frm [g] G7 (upd G7 g (.lst (qs3.map V.ref ++ [V.ref p3]))) := frm_upd (by simp)
            have hgl6 : ∀ b ∈ [g], ∃ ys, G7 b = some (.lst ys) := fun b hb => by rw [List.mem_singleton.mp hb]; exact ⟨_, eq6⟩
            refine ⟨⟨_, _, rfl⟩, f6.trans f7, qs3 ++ [p3], by rw [upd_same]; simp, ?_⟩
            rw [tk, stp1_yes eb o, ← List.append_assoc]
            exact paired_snoc (Paired.mapP pq6 fun _ _ h => h.frm f7 hgl6) (fe5.frm f7 hgl6)
          · have o : okf r1 = false := by rw [hokf]; exact decide_eq_false (by have := of_decide_eq_false e; omega)
            walk_at "gw"
            refine ⟨⟨_, _, rfl⟩, f5', qs3, eq5, ?_⟩
            rw [tk, stp1_off eb o, List.append_nil]
            exact pq5
      · rintro σ G3 ⟨⟨o8, o9, rfl⟩, f3, qs3, eq3, pq3⟩
        refine ⟨⟨_, _, _, _, rfl⟩, f3, qs3, eq3, ?_⟩
        rw [size_cs, List.take_length] at pq3
        rw [stp_take hp]
        exact pq3
    · rintro σ G1 ⟨⟨o6, o7, o8, o9, rfl⟩, f1, qs, eq1, pq⟩
      rw [List.length_map, lpf, List.take_length] at pq
      unfold t_law_btexts_p1
      walk_at "gw"
      refine ⟨_, _, _, _, _, _, g, qs, _, rfl, same_frmN s5 f1 gH, gH, f1.at_ _ _ (by simpa using fg) f5, eq1, pq, ?_, fun p hp => ?_, ?_, stp_txt tl⟩
      · rw [res_step fun p hp s r' hb h => ?_]
        · rw [show L - (i + 1) + 1 = L - i by omega]
          exact rs
        · rw [hokf] at h
          exact lts_norm okW c.w.fst (bhd_ok okW hb (ok p hp).1).1 (by have := of_decide_eq_false h; omega)
      · obtain ⟨b1, b2⟩ := stp_ok (B := 60 + 60 * i) okW (fun p hp => ok p hp) p hp
        exact ⟨b1, by omega⟩
      · refine Nat.le_trans stp_len ?_
        rw [Nat.pow_succ]
        exact Nat.mul_le_mul ln l6
  · rintro σ H5 ⟨o5, o6, o7, o8, o9, o10, l, ps, fs, rfl, s5, hlN, f5, e5, pr, rs, ok, ln, tl⟩
    unfold t_law_btexts_p2
    rw [Nat.sub_self, res_zero] at rs
    have lpf : ps.length = fs.length := paired_len pr
    have p6 : (6 : Nat) ^ L ≤ 6 ^ 6 := Nat.pow_le_pow_right (by decide) (by omega)
    have p6' : (6 : Nat) ^ 6 = 46656 := by decide
    walk_at "gw"
    refine iseq_a rfl (.inl (sql_of e5)) fun J Gw wk hG => ?_
    rw [List.length_map, lpf] at wk
    refine lc_im wk (fun j => decide ((fs.getD j default).2 = [])) (fun j => .str (mkS (fs.getD j default).1)) (by omega) (fun _ H' _ e => hG H' (Same.rds e)) ?_ ?_
    · rintro j y H7 H8 KY KN hj s7 ⟨rfl, hy⟩ kY kN
      obtain ⟨b, hb, rfl⟩ : ∃ b, ps[j]? = some b ∧ y = .ref b := by
        rw [List.getElem?_map] at hy
        obtain ⟨b, h1, h2⟩ := Option.map_eq_some_iff.mp hy
        exact ⟨b, h1, h2.symm⟩
      obtain ⟨p, hp⟩ : ∃ p, fs[j]? = some p := ⟨fs[j], List.getElem?_eq_getElem hj⟩
      obtain ⟨b', hb', fb⟩ := paired_at pr hp
      rw [hb] at hb'
      cases hb'
      have ej : fs.getD j default = p := by rw [List.getD_eq_getElem?_getD, hp]; rfl
      rw [ej] at kY kN
      obtain ⟨ap, h1, h2⟩ := fb.same s7
      refine w_gtup h1 rfl ?_
      walk_at "gw"
      refine ⟨rfl, ?_⟩
      walk_at "gw"
      refine ⟨Nat.zero_le _, fun p0 hp0 => ?_⟩
      have n0 := same_new (o := .tup []) hp0
      refine eq_nilT (o := some p.2) ⟨ap, rfl, sqt_same n0 h2⟩ upd_same ⟨_, rfl, ?_⟩
      refine w_ite (fun e => ?_) (fun e => ?_)
      · have e2 : p.2 = [] := Option.some.inj (of_decide_eq_true e)
        walk_at "gw"
        exact kY (decide_eq_true e2) _ n0
      · exact kN (decide_eq_false fun z => (of_decide_eq_false e) (by rw [z])) _ n0
    · intro D H7 hD s7 h5
      rw [given_filA (fun p : List Nat × List Nat => decide (p.2 = [])) (fun p => V.str (mkS p.1))] at h5
      refine q D _ (fun b o e => s7 b o (s5 b o e)) (same_free s5 hD) ?_
      rw [h5, ← rs]
      simp [txV]
end Pt.Re
namespace Pt.Re
/-! ### drawn texts -/
/-- what the draws over a core need -/
structure DrC (K : PySem.W.Frag) (H : Hp) (s c : Addr) (n : Nat) (a : Addr) (S : Str) (m : Nat) (W : Wys) (F : Nat → List Nat) (p : Addr) (r : List Nat) : Prop where
  st : Strm s c n H
  hn : n + 100 < 1099511627776
  lc : LC K (hid [s, c] H) a S m W F
  m8 : m ≤ 8
  r3 : ∀ w ∈ W, w.2.length ≤ 3
  sr : SqT K (hid [s, c] H) p (rI r)
  l60 : r.length ≤ 60
  ic : InC m r
def sp_law_btext (K : PySem.W.Frag) : Sp := fun vs H Q _ => ∃ s c n a S m W F p r, ∃ (mo : Nat), vs = [.ref s, .ref a, .ref p, .int (mo : Nat)] ∧ DrC K H s c n a S m W F p r ∧ mo ≤ 10 ∧
  ∀ t k H', k ≤ mo → (∀ ch ∈ t, ch ∈ cs S) → t.length ≤ 200000 → Frm [s, c] H H' → Strm s c (n + k) H' → Q (.str (mkS t)) H'
def sp_law_bnear (K : PySem.W.Frag) : Sp := fun vs H Q _ => ∃ s c n a S m W F p r, ∃ (mo : Nat), vs = [.ref s, .ref a, .ref p, .int (mo : Nat)] ∧ DrC K H s c n a S m W F p r ∧ mo ≤ 9 ∧ n + 1000 < 1099511627776 ∧
  ∀ t k H', k ≤ 50 → (∀ ch ∈ t, ch ∈ cs S) → t.length ≤ 200 → Frm [s, c] H H' → Strm s c (n + k) H' → Q (.str (mkS t)) H'
abbrev n_law_btext : List Str := ["stream", "core", "row", "most", "firsts", "text", "left", "turn", "signs", "sign", "kind"]
def t_law_btext_p1 (K : PySem.W.Frag) : TS :=
  tRet (tOp (rPlus K) (tVar 5) (tM1 (mJoin K) (tC (.str "")) (tLc (iSeq K (tVar 6)) (gName 10) (tYes) (tOp (rIxU K) (tVar 4) (tVar 10)) [10])))
def t_law_btext (K : PySem.W.Frag) : TS :=
  tSeq (tAsg (tTup (tCons (tOwn (sp_law_bfirsts K) (tCons (tVar 1) (tNil))) (tCons (tC (.str "")) (tCons (tCB (cTuple K) (tCons (tVar 2) (tNil))) (tNil))))) (gTup K 3 (gCons (gName 4) (gCons (gName 5) (gCons (gName 6) (gNil)))))) (tSeq (tFor (iRng1 (tCons (tVar 3) (tNil))) (gName 7) (tSeq (tAsg (tLc (iStr (tOp (rIxU K) (tVar 1) (tC (.int 0)))) (gName 9) (tTest (tOp rIsNotU (tOwn (sp_law_bbehind K) (tCons (tVar 1) (tCons (tVar 6) (tCons (tVar 9) (tNil))))) (tC .non))) (tVar 9) [9]) (gName 8)) (tIfS (tTest (tOp (rNeU K) (tVar 8) (tLst (tNil)))) (tSeq (tAsg (tOwn (sp_law_pick K) (tCons (tVar 0) (tCons (tVar 8) (tNil)))) (gName 9)) (tAsg (tTup (tCons (tOp (rPlus K) (tVar 5) (tVar 9)) (tCons (tOwn (sp_law_bbehind K) (tCons (tVar 1) (tCons (tVar 6) (tCons (tVar 9) (tNil))))) (tNil)))) (gTup K 2 (gCons (gName 5) (gCons (gName 6) (gNil)))))) (tNext)))) (t_law_btext_p1 K))
abbrev n_law_bnear : List Str := ["stream", "core", "row", "most", "text", "way", "at", "sign", "turn"]
def t_law_bnear (K : PySem.W.Frag) : TS :=
  tSeq (tPar 4 5 (tCons (tOwn (sp_law_btext K) (tCons (tVar 0) (tCons (tVar 1) (tCons (tVar 2) (tCons (tOwn (sp_law_below K) (tCons (tVar 0) (tCons (tOp (rPlus K) (tVar 3) (tC (.int 1))) (tNil)))) (tNil)))))) (tCons (tOwn (sp_law_below K) (tCons (tVar 0) (tCons (tC (.int 7)) (tNil)))) (tNil)))) (tSeq (tPar 6 7 (tCons (tOwn (sp_law_below K) (tCons (tVar 0) (tCons (tOp (rPlus K) (tCB (cLen K) (tCons (tVar 4) (tNil))) (tC (.int 1))) (tNil)))) (tCons (tOwn (sp_law_pick K) (tCons (tVar 0) (tCons (tCB (cList K) (tCons (tOp (rIxU K) (tVar 1) (tC (.int 0))) (tNil))) (tNil)))) (tNil)))) (tSeq (tIfS (tTest (tOp (rEqU K) (tVar 5) (tC (.int 0)))) (tAsg (tSl (rSlU K) (tVar 4) (tNoPart) (tPart (tVar 6))) (gName 4)) (tNext)) (tSeq (tIfS (tTest (tOp (rEqU K) (tVar 5) (tC (.int 1)))) (tAsg (tOp (rPlus K) (tOp (rPlus K) (tSl (rSlU K) (tVar 4) (tNoPart) (tPart (tVar 6))) (tVar 7)) (tSl (rSlU K) (tVar 4) (tPart (tVar 6)) (tNoPart))) (gName 4)) (tNext)) (tSeq (tIfS (tTest (tOp (rEqU K) (tVar 5) (tC (.int 2)))) (tAsg (tOp (rPlus K) (tSl (rSlU K) (tVar 4) (tNoPart) (tPart (tVar 6))) (tSl (rSlU K) (tVar 4) (tPart (tOp (rPlus K) (tVar 6) (tC (.int 1)))) (tNoPart))) (gName 4)) (tNext)) (tSeq (tIfS (tTest (tOp (rEqU K) (tVar 5) (tC (.int 3)))) (tAsg (tM1 (mJoin K) (tC (.str "")) (tLc (iRng1 (tCons (tOwn (sp_law_below K) (tCons (tVar 0) (tCons (tC (.int 9)) (tNil)))) (tNil))) (gName 8) (tYes) (tOwn (sp_law_pick K) (tCons (tVar 0) (tCons (tCB (cList K) (tCons (tOp (rIxU K) (tVar 1) (tC (.int 0))) (tNil))) (tNil)))) [8])) (gName 4)) (tNext)) (tRet (tSl (rSlU K) (tVar 4) (tNoPart) (tPart (tC (.int 200))))))))))
theorem DrC.frm {K : PySem.W.Frag} {H H' : Hp} {s c : Addr} {n k : Nat} {a : Addr} {S : Str} {m : Nat} {W : Wys} {F : Nat → List Nat} {p : Addr} {r : List Nat} (h : DrC K H s c n a S m W F p r) (f : Frm [s, c] H H') (st : Strm s c (n + k) H') (hn : n + k + 100 < 1099511627776) : DrC K H' s c (n + k) a S m W F p r :=
  ⟨st, hn, h.lc.same (hid_frm f fun _ h => h), h.m8, h.r3, sqt_same (hid_frm f fun _ h => h) h.sr, h.l60, h.ic⟩
theorem sqt_hid {K : PySem.W.Frag} {H : Hp} {s c a : Addr} {n : Nat} {xs : List V} (st : Strm s c n H) (h : SqT K H a xs) : SqT K (hid [s, c] H) a xs := by
  obtain ⟨cells, ac, mix, g1, g2, _⟩ := st
  have h2 : H a = some (.tup xs) := h
  have go : a ∉ [s, c] := fun z => by
    simp only [List.mem_cons, List.not_mem_nil, or_false] at z
    rcases z with rfl | rfl
    · rw [g1] at h2; cases h2
    · rw [g2] at h2; cases h2
  show hid [s, c] H a = _
  rw [hid_at go]
  exact h2
theorem sgn_sh {ch : Nat} (h : isSgn ch = true) : SeqAt.shaped (.str (sgS ch)) = true := by
  have h2 : 33 ≤ ch ∧ ch ≤ 126 ∧ ch ≠ 34 ∧ ch ≠ 37 := of_decide_eq_true h
  exact ((sh_str (z := sgS ch) (by
    show (#[ch] : Array Nat).all _ = true
    simp
    omega)).ok (by decide))
theorem wf_sgn {S : Str} {m : Nat} {W : Wys} {F : Nat → List Nat} (w : WfC S m W F) {ch : Nat} (h : ch ∈ cs S) : isSgn ch = true := by
  have h1 := w.sg
  unfold isSigns at h1
  simp only [Bool.and_eq_true] at h1
  exact List.all_eq_true.mp h1.1.2 ch h
theorem pure_law_btext {K : PySem.W.Frag} (vs : List V) (H : Hp) (Q : VK) (E : XK) (h : sp_law_btext K vs H Q E) : t_law_btext K { nx := fun _ H' => Q .non H', rt := Q } (start n_law_btext vs) H := by
  obtain ⟨s, c, n, a, S, m, W, F, p, r, mo, rfl, d, hmo, q⟩ := h
  have sl : 1000000 ≤ sizeLine := by decide
  have okW : ∀ w ∈ W, w.2.length ≤ 60 ∧ ∀ k ∈ w.2, k < m := fun w hw => (d.lc.w.ok w hw).2.2
  have l6 : (cs S).length ≤ 6 := by have := d.lc.w.len; rw [size_cs] at this; exact this
  have hn := d.hn
  unfold t_law_btext
  walk_at "gw"
  refine ⟨a, S, m, W, F, rfl, d.lc.same hid_sub, d.m8, d.r3, fun f kv H1 s1 hfN hf hF => ?_⟩
  walk_at "gw"
  refine tuple_t (sqt_same (fun b o e => s1 b o (hid_sub b o e)) d.sr) ?_
  walk_at "gw"
  refine ⟨by show 3 ≤ sizeLine; omega, fun p1 hp1 => ?_⟩
  have n1 := same_new (o := .tup [V.ref f, .str "", .ref p]) hp1
  have st1 := d.st.same s1
  have e1 : upd H1 p1 (.tup [V.ref f, .str "", .ref p]) p1 = some (.tup [V.ref f, .str "", .ref p]) := upd_same
  have fn : f ∉ [s, c] := d.st.inH.ne hfN
  have s2 : Same H (upd H1 p1 (.tup [V.ref f, .str "", .ref p])) := fun b o e => n1 b o (s1 b o e)
  have f2 := n1 _ _ hf
  have st2 := st1.same n1
  generalize upd H1 p1 (.tup [V.ref f, .str "", .ref p]) = H2 at e1 s2 f2 st2
  clear n1 hp1 hf s1 st1 H1
  refine w_gtup (sqt_of e1) rfl ?_
  walk_at "gw"
  refine e_rng (by omega) (by omega) ?_
  rw [show ((mo : Nat) : Int).toNat = mo by omega]
  refine for_it (walk_range (lo := 0) (n := mo)) (fun i σ H' => ∃ (o7 o8 o9 o10 : Option V) (t : List Nat) (lp : Addr) (r' : List Nat), σ = [some (.ref s), some (.ref a), some (.ref p), some (.int (mo : Nat)), some (.ref f), some (.str (mkS t)), some (.ref lp), o7, o8, o9, o10] ∧
    Frm [s, c] H H' ∧ (∃ k, k ≤ i ∧ Strm s c (n + k) H') ∧ H' f = some (.dK kv) ∧ (∀ ch ∈ t, ch ∈ cs S) ∧ t.length ≤ i ∧ SqT K (hid [s, c] H') lp (rI r') ∧ InC m r' ∧ r'.length ≤ 60 + 60 * i) ⟨none, none, none, none, [], p, r, rfl, Same.frm s2, ⟨0, by omega, st2⟩, f2, by simp, by simp, sqt_same (hid_same s2) d.sr, d.ic, by have := d.l60; omega⟩ (fun _ _ _ _ _ => True.intro) ?_ ?_
  · rintro i y σ H3 H4 hi ⟨o7, o8, o9, o10, t, lp, r', rfl, f3, ⟨k, hk, st3⟩, hf3, ht, tl, sr, ic, lr⟩ ⟨rfl, rfl⟩
    have lc3 := d.lc.same (hid_frm f3 fun _ h => h)
    obtain ⟨d0, kvs0, ha0, _, _⟩ := lc3.ex
    walk_at "gw"
    refine ix_l (v := .str S) (sql_of (hid_sub _ _ ha0)) (atI_nat (j := 0) rfl) ?_
    walk_at "gw"
    refine lc_im walk_str (fun i => (bhd W r' ((cs S).getD i 0)).isSome) (fun i => sg ((cs S).getD i 0)) (by rw [size_cs]; omega) (fun _ _ _ _ => True.intro) ?_ ?_
    · rintro j y G1 G2 KY KN hj s3 ⟨rfl, ch, hc, rfl⟩ kY kN
      have hch := get_cps hc
      have ec : (cs S).getD j 0 = ch := by rw [List.getD_eq_getElem?_getD, hch]; rfl
      rw [ec] at kY kN
      walk_at "gw"
      refine ⟨rfl, ?_⟩
      walk_at "gw"
      refine ⟨a, S, m, W, F, lp, r', ch, rfl, lc3.same fun b o e => s3 b o (hid_sub b o e), sqt_same (fun b o e => s3 b o (hid_sub b o e)) sr, by omega, fun v G5 s5 hv => ?_⟩
      cases eb : bhd W r' ch with
      | none =>
        rw [eb] at hv kN
        cases (show v = .non from hv)
        walk_at "gw"
        refine w_iteF rfl ?_
        exact kN rfl _ s5
      | some r1 =>
        rw [eb] at hv kY
        obtain ⟨a3, rfl, h3⟩ := hv
        walk_at "gw"
        refine w_iteT rfl ?_
        walk_at "gw"
        exact kY rfl _ s5
    · intro D G1 hD s3 h5
      rw [size_cs, given_fil (fun s => (bhd W r' s).isSome) sg] at h5
      have lfil := List.length_filter_le (fun s => (bhd W r' s).isSome) (cs S)
      walk_at "gw"
      refine ⟨Nat.zero_le _, fun q0 hq0 => ?_⟩
      have n4 := same_new (o := .lst []) hq0
      have h6 := n4 _ _ h5
      have s4 : Same H4 (upd G1 q0 (.lst [])) := fun b o e => n4 b o (s3 b o e)
      have e0 : upd G1 q0 (.lst []) q0 = some (.lst []) := upd_same
      generalize upd G1 q0 (.lst []) = G2 at h6 s4 e0
      clear n4 hq0 h5 s3 G1
      refine ne_D (d := .list (((cs S).filter fun s => (bhd W r' s).isSome).map fun ch => PyData.str (sgS ch))) (.lst (sql_of h6) (dpa_map fun ch _ => .str _)) (.lst (sql_of e0) .nil) ((sh_list (n := 0) fun d hd => ?_).ok (by decide)) ((sh_list (n := 0) fun d hd => by cases hd).ok (by decide)) ?_
      · obtain ⟨ch, hch, rfl⟩ := List.mem_map.mp hd
        have := wf_sgn lc3.w (List.mem_filter.mp hch).1
        have h2 : 33 ≤ ch ∧ ch ≤ 126 ∧ ch ≠ 34 ∧ ch ≠ 37 := of_decide_eq_true this
        exact sh_str (z := sgS ch) (by show (#[ch] : Array Nat).all _ = true; simp; omega)
      rw [show PyData.eqv (.list (((cs S).filter fun s => (bhd W r' s).isSome).map fun ch => PyData.str (sgS ch))) (.list []) = (((cs S).filter fun s => (bhd W r' s).isSome).map fun ch => PyData.str (sgS ch)).isEmpty from eqvAll_nil]
      have st5 := st3.same s4
      have f5 := f3.trans (Same.frm s4)
      have hf5 := s4 _ _ hf3
      have sr5 := sqt_same (hid_same (M := [s, c]) s4) sr
      have Dn : D ∉ [s, c] := st3.inH.ne hD
      walk_at "gw"
      refine w_ite (fun e => ?_) (fun e => ?_)
      · rw [List.isEmpty_map] at e
        have pos : 0 < ((cs S).filter fun s => (bhd W r' s).isSome).length := by
          cases h9 : (cs S).filter fun s => (bhd W r' s).isSome with
          | nil => rw [h9] at e; cases e
          | cons x l => simp
        walk_at "gw"
        refine ⟨s, c, _, D, _, rfl, st5, by omega, .inl (sql_of (by rw [hid_at Dn]; exact h6)), by rw [List.length_map]; exact pos, by rw [List.length_map]; omega, fun j v G3 hv f6 st6 => ?_⟩
        obtain ⟨ch, hch, rfl⟩ : ∃ ch, ch ∈ (cs S).filter (fun s => (bhd W r' s).isSome) ∧ v = .str (sgS ch) := by
          rw [List.getElem?_map] at hv
          obtain ⟨ch, h1, h2⟩ := Option.map_eq_some_iff.mp hv
          exact ⟨ch, List.mem_of_getElem? h1, h2.symm⟩
        obtain ⟨c1, c2⟩ := List.mem_filter.mp hch
        obtain ⟨r1, hr1⟩ := Option.isSome_iff_exists.mp c2
        obtain ⟨k1, k2⟩ := bhd_ok okW hr1 ic
        have f7 := f5.trans f6
        have sr7 := sqt_same (hid_frm (M := [s, c]) f6 fun _ h => h) sr5
        have lc7 := d.lc.same (hid_frm f7 fun _ h => h)
        have hf7 := f6.at_ _ _ fn hf5
        walk_at "gw"
        refine plus_s (by rw [len_mk]; show t.length + 1 ≤ _; omega) ?_
        walk_at "gw"
        refine ⟨a, S, m, W, F, lp, r', ch, rfl, lc7.same hid_sub, sqt_same hid_sub sr7, by omega, fun v G5 s8 hv => ?_⟩
        rw [hr1] at hv
        obtain ⟨a1, rfl, h5⟩ := hv
        walk_at "gw"
        refine ⟨by show 2 ≤ sizeLine; omega, fun p3 hp3 => ?_⟩
        have n9 := same_new (o := .tup [V.str (mkS t ++ sgS ch), .ref a1]) hp3
        have e9 : upd G5 p3 (.tup [V.str (mkS t ++ sgS ch), .ref a1]) p3 = some (.tup [V.str (mkS t ++ sgS ch), .ref a1]) := upd_same
        have h9 := sqt_same n9 h5
        have s9 : Same G3 (upd G5 p3 (.tup [V.str (mkS t ++ sgS ch), .ref a1])) := fun b o e => n9 b o (s8 b o e)
        generalize upd G5 p3 (.tup [V.str (mkS t ++ sgS ch), .ref a1]) = G6 at e9 h9 s9
        refine w_gtup (sqt_of e9) rfl ?_
        walk_at "gw"
        have et : mkS t ++ sgS ch = mkS (t ++ [ch]) := str_ext (by rw [cs_app, cs_mk, cs_mk]; rfl)
        have st9 := st6.same s9
        refine ⟨_, _, _, _, t ++ [ch], a1, r1, by rw [← et]; rfl, f7.trans (Same.frm s9), ⟨k + 1, by omega, st9⟩, s9 _ _ hf7, fun x hx => ?_, by simp; omega, sqt_hid st9 h9, k1, by omega⟩
        · rcases List.mem_append.mp hx with z | z
          · exact ht x z
          · rw [List.mem_singleton.mp z]; exact c1
      · walk_at "gw"
        exact ⟨_, _, _, _, t, lp, r', rfl, f5, ⟨k, by omega, st5⟩, hf5, ht, by omega, sr5, ic, by omega⟩
  · rintro σ H3 ⟨o7, o8, o9, o10, t, lp, r', rfl, f3, ⟨k, hk, st3⟩, hf3, ht, tl, sr, ic, lr⟩
    unfold t_law_btext_p1
    walk_at "gw"
    have sr3 := sqt_same hid_sub sr
    refine iseq_a rfl (.inr sr3) fun J Gw wk hG => ?_
    rw [rI_len] at wk
    have bd : (cat F r').length ≤ 200 * r'.length := by
      rw [cat_len]
      have := sumN_bd (N := fun k => (F k).length) (B := 200) (r := r') fun k hk' => d.lc.w.sz k (ic k hk')
      omega
    refine lc_im wk (fun _ => true) (fun j => .str (mkS (F (r'.getD j 0)))) (by omega) (fun _ H' _ e => hG H' (Same.rds e)) ?_ ?_
    · rintro j y H4 H5 KY KN hj s4 ⟨rfl, hx⟩ kY kN
      obtain ⟨z, hz', rfl⟩ := rI_get hx
      have e : r'.getD j 0 = z := by rw [List.getD_eq_getElem?_getD, hz']; rfl
      have hm := ic z (List.mem_of_getElem? hz')
      rw [e] at kY
      walk_at "gw"
      refine ⟨rfl, ?_⟩
      walk_at "gw"
      refine w_iteT rfl ?_
      walk_at "gw"
      exact ix_d (v := .str (mkS (F z))) (.inl ⟨kv, .inl (z : Nat), .inl (s4 _ _ hf3), rfl, (hF z hm).symm⟩) (kY rfl _ (Same.refl _))
    · intro D H4 hD s4 h5
      rw [given_row (fun z => V.str (mkS (F z)))] at h5
      refine join_txt (ts := r'.map F) (h5.trans (by rw [List.map_map]; rfl)) ?_ ?_
      · rw [List.map_map]
        rw [cat_len] at bd
        show sumN (fun k => (F k).length) r' ≤ _
        omega
      rw [flat_map]
      refine plus_s (by rw [len_mk, len_mk]; omega) ?_
      have et : mkS t ++ mkS (cat F r') = mkS (t ++ cat F r') := str_ext (by rw [cs_app, cs_mk, cs_mk, cs_mk])
      rw [et]
      refine q _ k _ hk (fun ch hch => ?_) (by rw [List.length_append]; omega) (f3.trans (Same.frm s4)) (st3.same s4)
      rcases List.mem_append.mp hch with z | z
      · exact ht ch z
      · have rf := rdt_first d.lc.w.nd (fun w hw => (okW w hw).2) d.lc.w.fst _ r' [] (Nat.le_refl _) ic
        exact rdt_sg (fun w hw => (d.lc.w.ok w hw).2.1) rf ch z
theorem cutS_sub {z : Str} {lo hi : Option Int} : (∀ ch ∈ cs (cutS z lo hi), ch ∈ cs z) ∧ (cs (cutS z lo hi)).length ≤ (cs z).length := by
  rw [cutS_cs]
  refine ⟨fun ch h => List.mem_of_mem_drop (List.mem_of_mem_take h), ?_⟩
  rw [List.length_take, List.length_drop]
  omega
/-- the end of bnear -/
theorem bn_end {K : PySem.W.Frag} {H : Hp} {Q : VK} {S : Str} {t : Str} (ht : ∀ ch ∈ cs t, ch ∈ cs S) (hl : t.length ≤ 500000) (q : ∀ t : List Nat, (∀ ch ∈ t, ch ∈ cs S) → t.length ≤ 200 → Q (.str (mkS t)) H) : rSlU K (.str t) none (some 200) H Q := by
  have sl : 1000000 ≤ sizeLine := by decide
  refine sl_s (by omega) ?_
  have h1 := cutS_sub (z := t) (lo := none) (hi := some 200)
  have h2 : cs (cutS t none (some ((200 : Nat) : Int))) = (cs t).take 200 := cutS_take
  have h3 := q (cs (cutS t none (some 200))) (fun ch h => ht ch (h1.1 ch h)) (by
    rw [show (some (200 : Int)) = some ((200 : Nat) : Int) from rfl, h2, List.length_take]
    omega)
  rwa [mk_cs] at h3
theorem pure_law_bnear {K : PySem.W.Frag} (vs : List V) (H : Hp) (Q : VK) (E : XK) (h : sp_law_bnear K vs H Q E) : t_law_bnear K { nx := fun _ H' => Q .non H', rt := Q } (start n_law_bnear vs) H := by
  obtain ⟨s, c, n, a, S, m, W, F, p, r, mo, rfl, d, hmo, hn, q⟩ := h
  have sl : 1000000 ≤ sizeLine := by decide
  have l6 : (cs S).length ≤ 6 := by have := d.lc.w.len; rw [size_cs] at this; exact this
  have hS1 : 1 ≤ (cs S).length := by
    have h1 := d.lc.w.sg
    unfold isSigns at h1
    simp only [Bool.and_eq_true, decide_eq_true_eq] at h1
    rw [← size_cs]
    exact h1.1.1.1
  unfold t_law_bnear
  walk_at "gw"
  refine ⟨s, c, n, (mo : Int) + 1, rfl, d.st, by omega, by omega, by omega, fun k1 H1 hk1 f1 st1 => ?_⟩
  walk_at "gw"
  have d1 := d.frm f1 st1 (by omega)
  refine ⟨s, c, _, a, S, m, W, F, p, r, k1, rfl, d1, by omega, fun t k2 H2 hk2 ht tl f2 st2 => ?_⟩
  walk_at "gw"
  refine ⟨s, c, _, 7, rfl, st2, by decide, by decide, by omega, fun w H3 hw f3 st3 => ?_⟩
  walk_at "gw"
  refine len_s (by rw [len_mk]; omega) ?_
  walk_at "gw"
  refine ⟨s, c, _, _, rfl, st3, by omega, by rw [len_mk]; omega, by omega, fun x H4 hx f4 st4 => ?_⟩
  walk_at "gw"
  have f04 := ((f1.trans f2).trans f3).trans f4
  have lc4 := d.lc.same (hid_frm f04 fun _ h => h)
  obtain ⟨d0, kvs0, ha0, _, _⟩ := lc4.ex
  refine ix_l (v := .str S) (sql_of (hid_sub _ _ ha0)) (atI_nat (j := 0) rfl) ?_
  walk_at "gw"
  refine .inr (.inr (.inr ⟨S, rfl, by have := d.lc.w.len; omega, fun l hl2 => ?_⟩))
  have s6 := same_new (o := .lst (S.cps.toList.map sg)) hl2
  have ln : l ∉ [s, c] := st4.inH.ne hl2
  walk_at "gw"
  refine ⟨s, c, _, l, _, rfl, st4.same s6, by omega, .inl (sql_of (by rw [hid_at ln]; exact upd_same)), by rw [List.length_map]; exact hS1, by rw [List.length_map]; show (cs S).length < _; omega, fun j v H5 hv f5 st5 => ?_⟩
  obtain ⟨ch, hch, rfl⟩ : ∃ ch, ch ∈ cs S ∧ v = .str (sgS ch) := by
    rw [List.getElem?_map] at hv
    obtain ⟨ch, h1, h2⟩ := Option.map_eq_some_iff.mp hv
    exact ⟨ch, List.mem_of_getElem? h1, h2.symm⟩
  have f05 := (f04.trans (Same.frm s6)).trans f5
  have lc5 := d.lc.same (hid_frm f05 fun _ h => h)
  have st5' : Strm s c (n + (1 + k2 + 3)) H5 := by rw [show n + (1 + k2 + 3) = n + 1 + k2 + 1 + 1 + 1 by omega]; exact st5
  clear st1 st2 st3 st4 st5 f1 f2 f3 f4 f5 s6 hl2 ln ha0 lc4 d1
  have fin : ∀ (z : Str), (∀ ch ∈ cs z, ch ∈ cs S) → z.length ≤ 500000 → rSlU K (.str z) none (some 200) H5 Q := fun z h1 h2 => bn_end h1 h2 fun t ht tl => q t _ H5 (by omega) ht tl f05 st5'
  have ct := cs_mk t
  walk_at "gw"
  rcases (by omega : w = 0 ∨ w = 1 ∨ w = 2 ∨ w = 3 ∨ 4 ≤ w) with rfl | rfl | rfl | rfl | h4
  · refine w_iteT rfl ?_
    walk_at "gw"
    refine sl_s (by rw [len_mk]; omega) ?_
    walk_at "gw"
    refine w_iteF rfl ?_
    walk_at "gw"
    refine w_iteF rfl ?_
    walk_at "gw"
    refine w_iteF rfl ?_
    walk_at "gw"
    have h1 := cutS_sub (z := mkS t) (lo := none) (hi := some ((x : Nat) : Int))
    rw [ct] at h1
    exact fin _ (fun ch h => ht ch (h1.1 ch h)) (by rw [len_cs]; omega)
  · refine w_iteF rfl ?_
    walk_at "gw"
    refine w_iteT rfl ?_
    walk_at "gw"
    refine sl_s (by rw [len_mk]; omega) ?_
    have h1 := cutS_sub (z := mkS t) (lo := none) (hi := some ((x : Nat) : Int))
    have h2 := cutS_sub (z := mkS t) (lo := some ((x : Nat) : Int)) (hi := none)
    rw [ct] at h1 h2
    walk_at "gw"
    refine plus_s (by rw [len_cs]; show _ + 1 ≤ _; omega) ?_
    walk_at "gw"
    refine sl_s (by rw [len_mk]; omega) ?_
    refine plus_s (by rw [len_cs, len_cs, cs_app, List.length_append]; show _ + 1 + _ ≤ _; omega) ?_
    walk_at "gw"
    refine w_iteF rfl ?_
    walk_at "gw"
    refine w_iteF rfl ?_
    walk_at "gw"
    refine fin _ (fun ch' h => ?_) (by rw [len_cs, cs_app, cs_app, List.length_append, List.length_append]; show _ + 1 + _ ≤ _; omega)
    rw [cs_app, cs_app, List.mem_append, List.mem_append] at h
    rcases h with (h | h) | h
    · exact ht _ (h1.1 _ h)
    · rw [show cs (sgS ch) = [ch] from rfl] at h
      rw [List.mem_singleton.mp h]; exact hch
    · exact ht _ (h2.1 _ h)
  · refine w_iteF rfl ?_
    walk_at "gw"
    refine w_iteF rfl ?_
    walk_at "gw"
    refine w_iteT rfl ?_
    walk_at "gw"
    refine sl_s (by rw [len_mk]; omega) ?_
    have h1 := cutS_sub (z := mkS t) (lo := none) (hi := some ((x : Nat) : Int))
    have h2 := cutS_sub (z := mkS t) (lo := some (((x : Nat) : Int) + 1)) (hi := none)
    rw [ct] at h1 h2
    walk_at "gw"
    refine sl_s (by rw [len_mk]; omega) ?_
    refine plus_s (by rw [len_cs, len_cs]; omega) ?_
    walk_at "gw"
    refine w_iteF rfl ?_
    walk_at "gw"
    refine fin _ (fun ch' h => ?_) (by rw [len_cs, cs_app, List.length_append]; omega)
    rw [cs_app, List.mem_append] at h
    rcases h with h | h
    · exact ht _ (h1.1 _ h)
    · exact ht _ (h2.1 _ h)
  · refine w_iteF rfl ?_
    walk_at "gw"
    refine w_iteF rfl ?_
    walk_at "gw"
    refine w_iteF rfl ?_
    walk_at "gw"
    refine w_iteT rfl ?_
    walk_at "gw"
    refine ⟨s, c, _, 9, rfl, st5', by decide, by decide, by omega, fun y H6 hy f6 st6 => ?_⟩
    refine e_rng (by omega) (by omega) ?_
    rw [show ((y : Nat) : Int).toNat = y by omega]
    have f06 := f05.trans f6
    refine lc_full (walk_range (lo := 0) (n := y)) [s, c] [s, c] (fun j acc H' => Strm s c (n + (1 + k2 + 3) + 1 + j) H' ∧ ∃ row : List Nat, acc = row.map sg ∧ row.length = j ∧ ∀ z ∈ row, z ∈ cs S) (fun _ _ _ => True) st6.inH (fun _ h => h) ?_ ⟨st6, [], rfl, rfl, fun _ h => by cases h⟩ (fun _ _ => True.intro) (fun _ _ _ _ _ _ => True.intro) (fun _ _ _ _ _ _ => True.intro) ?_ ?_ ?_
    · rintro j acc H2 D ys hD ⟨st2, r⟩
      have n1 := st6.inH.ne hD
      simp only [List.mem_cons, not_or] at n1
      obtain ⟨n2, n3, _⟩ := n1
      exact ⟨st2.frm (R := [D]) (frm_upd (by simp)) (by simpa using Ne.symm n2) (by simpa using Ne.symm n3), r⟩
    · exact Nat.le_trans (show y ≤ 100 by omega) (by decide)
    · rintro D j acc x H2 H3 Nx hD hj f kn inn hd' ⟨st2, row, rfl, hr2, hin⟩ _ hl ⟨rfl, rfl⟩ kY kN
      walk_at "gw"
      refine ⟨rfl, ?_⟩
      walk_at "gw"
      refine w_iteT rfl ?_
      walk_at "gw"
      have lc7 := d.lc.same (hid_frm (f06.trans f) fun _ h => h)
      obtain ⟨d7, kvs7, ha7, _, _⟩ := lc7.ex
      refine ix_l (v := .str S) (sql_of (hid_sub _ _ ha7)) (atI_nat (j := 0) rfl) ?_
      walk_at "gw"
      refine .inr (.inr (.inr ⟨S, rfl, by have := d.lc.w.len; omega, fun l hl2 => ?_⟩))
      have s6 := same_new (o := .lst (S.cps.toList.map sg)) hl2
      have ln : l ∉ [s, c] := st2.inH.ne hl2
      walk_at "gw"
      refine ⟨s, c, _, l, _, rfl, st2.same s6, by omega, .inl (sql_of (by rw [hid_at ln]; exact upd_same)), by rw [List.length_map]; exact hS1, by rw [List.length_map]; show (cs S).length < _; omega, fun j9 v H5 hv f5 st5 => ?_⟩
      obtain ⟨ch, hch, rfl⟩ : ∃ ch, ch ∈ cs S ∧ v = .str (sgS ch) := by
        rw [List.getElem?_map] at hv
        obtain ⟨ch, h1, h2⟩ := Option.map_eq_some_iff.mp hv
        exact ⟨ch, List.mem_of_getElem? h1, h2.symm⟩
      refine kY _ _ ((Same.frm s6).trans f5) ⟨by rw [show n + (1 + k2 + 3) + 1 + (j + 1) = n + (1 + k2 + 3) + 1 + j + 1 by omega]; exact st5, row ++ [ch], by rw [List.map_append]; rfl, by simp [hr2], fun z hz => ?_⟩ True.intro
      rcases List.mem_append.mp hz with h | h
      · exact hin z h
      · rw [List.mem_singleton.mp h]; exact hch
    · rintro D acc H2 hD f inn kn hd' ⟨st2, row, rfl, hr2, hin⟩ _ _
      refine join_q hd' (by omega) ?_
      walk_at "gw"
      have f07 : Frm [s, c] H H2 := ⟨fun a o ha e => f.at_ a o (by simpa using ha) (f06.at_ a o ha e), fun a ha => f.live a (f06.live a ha)⟩
      refine bn_end (S := S) (fun ch h => hin ch (by rw [cs_mk] at h; exact h)) (by rw [len_mk]; omega) fun t ht tl => q t (1 + k2 + 3 + 1 + y) H2 (by omega) ht tl f07 ?_
      rw [show n + (1 + k2 + 3 + 1 + y) = n + (1 + k2 + 3) + 1 + y by omega]
      exact st2
  · refine w_iteF (decide_eq_false (by omega)) ?_
    walk_at "gw"
    refine w_iteF (decide_eq_false (by omega)) ?_
    walk_at "gw"
    refine w_iteF (decide_eq_false (by omega)) ?_
    walk_at "gw"
    refine w_iteF (decide_eq_false (by omega)) ?_
    walk_at "gw"
    exact fin _ (fun ch h => ht ch (by rw [ct] at h; exact h)) (by rw [len_mk]; omega)
end Pt.Re
namespace Pt.Re
/-! ### tails of rows -/
def tls (r : List Nat) : List (List Nat) := (List.range r.length).map r.drop
def HOK (W : Wys) : Prop := ∀ w ∈ W, ((tls w.2).map hashR).Nodup
def sp_tails_of (K : PySem.W.Frag) : Sp := fun vs H Q _ => ∃ x S m W F, vs = [.ref x] ∧ CW K H x S m W F ∧ HOK W ∧
  ∀ ts bs p H', Same H H' → H p = none → H' p = some (.lst (bs.map V.ref)) → Paired (fun (t : List Nat) b => H' b = some (.tup (rI t))) ts bs → ts.Nodup → ts.length ≤ 60000 → ts.Pairwise (fun a b => a.length ≤ b.length) → (∀ t, t ∈ ts ↔ ∃ w ∈ W, t ∈ tls w.2) → Q (.ref p) H'
abbrev n_tails_of : List Str := ["core", "found", "row", "at"]
def t_tails_of_p1 (K : PySem.W.Frag) : TS :=
  tRet (tSrtLen (tVar 1))
def t_tails_of (K : PySem.W.Frag) : TS :=
  tSeq (tAsg (tDNew) (gName 1)) (tSeq (tLock (tFor (iValsT (tFld K (tVar 0) "rows")) (gName 2) (tDrop (tBM K "dict" rUpdT (tVar 1) (tCons (tDcT (iRng1 (tCons (tCB (cLen K) (tCons (tVar 2) (tNil))) (tNil))) (gName 3) tYes (tSl (rSlU K) (tVar 2) (tPart (tVar 3)) (tNoPart)) (tC (.bl true)) [3]) (tNil)))))) (t_tails_of_p1 K))
theorem kR_rI (r : List Nat) : (kR r).map kV = rI r := by
  unfold kR rI
  rw [List.map_map]
  rfl
theorem kR_inj {a b : List Nat} (h : kR a = kR b) : a = b := by
  unfold kR at h
  have h2 := List.map_inj_right (f := fun k : Nat => (Sum.inl ((k : Nat) : Int) : L2.Key)) (l := a) (l' := b) fun x y e => by
    have := Sum.inl.inj e
    omega
  exact h2.mp h
theorem putK_keys {kvs : List (List L2.Key × V)} {k : List L2.Key} {v : V} (h : k ∈ kvs.map (·.1)) : (L2.putK kvs k v).map (·.1) = kvs.map (·.1) := by
  unfold L2.putK
  obtain ⟨q, hq, e⟩ := List.mem_map.mp h
  rw [if_pos (List.any_eq_true.mpr ⟨q, hq, decide_eq_true e⟩), List.map_map]
  refine List.map_congr_left fun p _ => ?_
  show (if p.1 = k then (p.1, v) else p).1 = p.1
  by_cases z : p.1 = k
  · rw [if_pos z]
  · rw [if_neg z]
theorem merge_ts : ∀ {more kvs : List (List L2.Key × V)} {ts rs : List (List Nat)}, kvs.map (·.1) = ts.map kR → more.map (·.1) = rs.map kR → ts.Nodup → ∃ ts' : List (List Nat), (mergeT kvs more).map (·.1) = ts'.map kR ∧ ts'.Nodup ∧ (∀ t, t ∈ ts' ↔ t ∈ ts ∨ t ∈ rs) ∧ ts'.length ≤ ts.length + rs.length
  | [], kvs, ts, rs, h1, h2, nd => by
    cases rs with
    | nil => exact ⟨ts, h1, nd, fun t => by simp, by simp⟩
    | cons r rs => cases h2
  | p :: more, kvs, ts, rs, h1, h2, nd => by
    cases rs with
    | nil => cases h2
    | cons r rs =>
      rw [List.map_cons, List.map_cons] at h2
      obtain ⟨e1, e2⟩ := List.cons.inj h2
      by_cases hm : r ∈ ts
      · have hk := putK_keys (kvs := kvs) (k := p.1) (v := p.2) (by rw [h1, e1]; exact List.mem_map.mpr ⟨r, hm, rfl⟩)
        rw [h1] at hk
        obtain ⟨ts', a, b, c, d⟩ := merge_ts (kvs := L2.putK kvs p.1 p.2) hk e2 nd
        refine ⟨ts', a, b, fun t => ?_, by simp only [List.length_cons]; omega⟩
        rw [c t, List.mem_cons]
        constructor
        · rintro (z | z)
          · exact .inl z
          · exact .inr (.inr z)
        · rintro (z | z | z)
          · exact .inl z
          · rw [z]; exact .inl hm
          · exact .inr z
      · have nm : p.1 ∉ kvs.map (·.1) := by
          rw [h1, e1]
          intro z
          obtain ⟨y, hy, e⟩ := List.mem_map.mp z
          exact hm (by rw [← kR_inj e]; exact hy)
        have hk : (L2.putK kvs p.1 p.2).map (·.1) = (ts ++ [r]).map kR := by rw [putK_new nm, List.map_append, h1]; simp [e1]
        obtain ⟨ts', a, b, c, d⟩ := merge_ts (kvs := L2.putK kvs p.1 p.2) (ts := ts ++ [r]) hk e2 (List.nodup_append.mpr ⟨nd, by simp, fun x hx y hy e => hm (by rw [List.mem_singleton.mp hy] at e; rw [← e]; exact hx)⟩)
        refine ⟨ts', a, b, fun t => ?_, by simp only [List.length_append, List.length_cons, List.length_nil] at d ⊢; omega⟩
        rw [c t, List.mem_append, List.mem_singleton, List.mem_cons]
        constructor
        · rintro ((z | z) | z)
          · exact .inl z
          · exact .inr (.inl z)
          · exact .inr (.inr z)
        · rintro (z | z | z)
          · exact .inl (.inl z)
          · exact .inl (.inr z)
          · exact .inr z
theorem sl_from {K : PySem.W.Frag} {H : Hp} {Q : VK} {a : Addr} {xs : List V} {i : Nat} (hs : SqT K H a xs) (q : ∀ p H', Same H H' → SqT K H' p (xs.drop i) → Q (.ref p) H') : rSlU K (.ref a) (some ((i : Nat) : Int)) none H Q := by
  refine .inr (.inr ⟨a, xs, rfl, l2t hs, fun z => ?_, fun _ p hp => ?_⟩)
  · have h1 := z.1
    rw [HT.sIx_nat] at h1
    have e : xs.drop i = xs := by
      by_cases h : i = 0
      · rw [h]; rfl
      · have : xs.length = 0 := by omega
        rw [List.length_eq_zero_iff.mp this]
        simp
    exact q a H (Same.refl _) (by rw [e]; exact hs)
  · refine q p _ (same_new hp) (sqt_of (upd_same.trans ?_))
    have e : cutV xs (some ((i : Nat) : Int)) none = xs.drop i := by
      unfold cutV
      rw [HT.sIx_nat, HT.sIx_none]
      by_cases h : i ≤ xs.length
      · rw [Nat.min_eq_left h]
        exact List.take_of_length_le (by simp)
      · have h2 : xs.length ≤ i := by omega
        rw [Nat.min_eq_right h2, List.drop_of_length_le h2]
        simp
    rw [e]
theorem tls_take {r : List Nat} {i : Nat} (h : i < r.length) : ((List.range (i + 1)).map r.drop) = ((List.range i).map r.drop) ++ [r.drop i] := by
  rw [List.range_succ, List.map_append]
  rfl
theorem pure_tails_of {K : PySem.W.Frag} (vs : List V) (H : Hp) (Q : VK) (E : XK) (h : sp_tails_of K vs H Q E) : t_tails_of K { nx := fun _ H' => Q .non H', rt := Q } (start n_tails_of vs) H := by
  obtain ⟨x, S, m, W, F, rfl, c, hok, q⟩ := h
  have sl : 1000000 ≤ sizeLine := by decide
  obtain ⟨d, kvs, V', fro, hd, lkv, wr, nv, mem⟩ := c.c.ro
  unfold t_tails_of
  walk_at "gw"
  refine .inr fun f hf => ?_
  have s1 := same_new (o := .dT []) hf
  have e1 : upd H f (.dT []) f = some (.dT []) := upd_same
  generalize upd H f (.dT []) = H1 at s1 e1
  have hd1 := s1 _ _ hd
  have nfd : f ≠ d := fun e => by rw [e, hd] at hf; cases hf
  have ncd : x ≠ d := fun e => by
    obtain ⟨_, _, _, h1, _⟩ := fro
    rw [e, hd] at h1; cases h1
  walk_at "gw"
  refine ⟨d, _, hd1, True.intro, fun od => ?_⟩
  have fz : upd H1 d (.frz od (.dT kvs)) d = some (.frz od (.dT kvs)) := upd_same
  have fr1 := (fro.same s1).upd (o := .frz od (.dT kvs)) ncd
  have wr1 := wr.imp fun v r h => RowT.rds (rdsT_frz (o := od) hd1) (h.same s1)
  have ef : upd H1 d (.frz od (.dT kvs)) f = some (.dT []) := by rw [upd_ne nfd]; exact e1
  have bk : ∀ H', Frm [f] (upd H1 d (.frz od (.dT kvs))) H' → Same H (upd H' d (.dT kvs)) := fun H' g b u hb => by
    have nb : b ≠ f := ne_of_none hb hf
    by_cases z : b = d
    · rw [z] at hb ⊢
      rw [upd_same, ← hd, hb]
    · rw [upd_ne z]
      refine g.at_ b u (by simpa using nb) ?_
      rw [upd_ne z]
      exact s1 b u hb
  generalize upd H1 d (.frz od (.dT kvs)) = G at fz fr1 wr1 ef bk
  walk_at "gw"
  refine FldAt.read fr1 (by simp) ?_
  refine ⟨d, od, kvs, rfl, fz, ?_⟩
  have lV : V'.length ≤ 1000 := by rw [← wr.len]; exact lkv
  refine for_it walk_valsT (fun i σ H' => (∃ o2 o3, σ = [some (.ref x), some (.ref f), o2, o3]) ∧ Frm [f] G H' ∧ ∃ kv ts, H' f = some (.dT kv) ∧ kv.map (·.1) = ts.map kR ∧ ts.Nodup ∧ ts.length ≤ 60 * i ∧ ∀ t, t ∈ ts ↔ ∃ w ∈ V'.take i, t ∈ tls w.2)
    ⟨⟨_, _, rfl⟩, Frm.refl _ _, [], [], ef, rfl, List.nodup_nil, Nat.zero_le _, fun t => by simp⟩ (fun i σ H' _ e => e.2.1.at_ _ _ (by simpa using Ne.symm nfd) fz) ?_ ?_
  · rintro i y σ H2 H3 hi ⟨⟨o2, o3, rfl⟩, f2, kv, ts, e2, hk, nd, lt, ht⟩ ⟨rfl, k, hkv⟩
    obtain ⟨w, hw, ek, a, rfl, ha⟩ := wr1.get hkv
    have hwW : w ∈ W := (mem w).mp (List.mem_of_getElem? hw)
    obtain ⟨w1, w2, w3, w4⟩ := c.w.ok w hwW
    have haf : a ≠ f := fun z => by
      have h1 : G a = some (.tup (rI w.2)) := ha
      rw [z, ef] at h1; cases h1
    have ha2 : SqT K H3 a (rI w.2) := f2.at_ _ _ (by simpa using haf) ha
    have tk : V'.take (i + 1) = V'.take i ++ [w] := by rw [List.take_add_one, hw]; rfl
    refine w_gn ?_
    walk_at "gw"
    refine ⟨.inr (.inr (.inl ⟨rfl, .inr ⟨_, e2⟩⟩)), ?_⟩
    walk_at "gw"
    rw [rI_len]
    refine e_rng (by omega) (by omega) ?_
    rw [show ((w.2.length : Nat) : Int).toNat = w.2.length by omega]
    intro D hD
    refine dct_it walk_range (fun j H' => ∃ kv', H' D = some (.dT kv') ∧ Same H3 H' ∧ kv'.map (·.1) = ((List.range j).map w.2.drop).map kR) ⟨[], upd_same, same_new hD, rfl⟩ (fun _ _ _ _ => True.intro) ?_ ?_
    · rintro j y H4 H5 hj ⟨kv', e4, s4, k4⟩ ⟨rfl, rfl⟩
      have l4 : kv'.length = j := by
        have := congrArg List.length k4
        simpa using this
      have fresh : kR (w.2.drop j) ∉ kv'.map (·.1) := fun z => by
        rw [k4, List.map_map] at z
        obtain ⟨i', hi', e⟩ := List.mem_map.mp z
        have h1 := congrArg List.length (kR_inj e)
        rw [List.length_drop, List.length_drop] at h1
        have := List.mem_range.mp hi'
        omega
      walk_at "gw"
      refine ⟨rfl, ?_⟩
      walk_at "gw"
      refine w_iteT rfl ?_
      walk_at "gw"
      rw [Int.zero_add]
      refine sl_from (sqt_same s4 ha2) fun p H6 s6 hp => ?_
      walk_at "gw"
      have hp2 : H6 p = some (.tup (rI (w.2.drop j))) := by
        have h1 : H6 p = some (.tup ((rI w.2).drop j)) := hp
        rw [h1]
        unfold rI
        rw [List.map_drop]
      refine ⟨kv', kR (w.2.drop j), p, rfl, s6 _ _ e4, by rw [kR_rI]; exact hp2, by omega, _, upd_same, same_updN hD fun b o e => s6 b o (s4 b o e), ?_⟩
      rw [putK_new fresh, List.map_append, k4, tls_take hj, List.map_append]
      rfl
    · rintro H4 ⟨kv', e4, s4, k4⟩
      have l4 : kv'.length = w.2.length := by
        have := congrArg List.length k4
        simpa using this
      have lk : kv.length = ts.length := by
        have := congrArg List.length hk
        simpa using this
      have nfD : f ≠ D := ne_of_none e2 hD
      obtain ⟨ts', m1, m2, m3, m4⟩ := merge_ts hk k4 nd
      have ltl : ((List.range w.2.length).map w.2.drop).length = w.2.length := by simp
      walk_at "gw"
      refine ⟨f, D, kv, kv', rfl, rfl, nfD, s4 _ _ e2, e4, by omega, .inr ⟨tls w.2, k4, hok w hwW⟩, ?_⟩
      walk_at "gw"
      refine ⟨⟨_, _, rfl⟩, (f2.trans (Same.frm s4)).trans (frm_upd (by simp)), _, ts', upd_same, m1, m2, by omega, fun t => ?_⟩
      rw [m3 t, ht t, tk]
      constructor
      · rintro (⟨v, hv, z⟩ | z)
        · exact ⟨v, List.mem_append_left _ hv, z⟩
        · exact ⟨w, by simp, z⟩
      · rintro ⟨v, hv, z⟩
        rcases List.mem_append.mp hv with q | q
        · exact .inl ⟨v, q, z⟩
        · rw [List.mem_singleton.mp q] at z
          exact .inr z
  · rintro σ H2 ⟨⟨o2, o3, rfl⟩, f2, kv, ts, e2, hk, nd, lt, ht⟩
    refine ⟨f2.at_ _ _ (by simpa using Ne.symm nfd) fz, ?_⟩
    have sB := bk H2 f2
    have e3 : upd H2 d (.dT kvs) f = some (.dT kv) := by rw [upd_ne nfd]; exact e2
    unfold t_tails_of_p1
    walk_at "gw"
    refine ⟨f, kv, rfl, .inl e3, fun ks bs p pm so pr hp => ?_⟩
    rw [hk] at pm
    obtain ⟨ts', pt, rfl⟩ := perm_unmap pm ts rfl
    have s4 := same_new (o := .lst (bs.map V.ref)) hp
    have so2 : ts'.Pairwise fun a b => a.length ≤ b.length := (List.pairwise_map.mp so).imp fun h => by simpa [kR] using h
    have pr2 : ∀ {l : List (List Nat)} {bs : List Addr} {G : Hp}, Paired (fun k b => upd H2 d (.dT kvs) b = some (.tup (k.map kV))) (l.map kR) bs → Same (upd H2 d (.dT kvs)) G → Paired (fun (t : List Nat) b => G b = some (.tup (rI t))) l bs := by
      intro l
      induction l with
      | nil => intro bs G h _; cases h; exact .nil
      | cons t l ih =>
        intro bs G h sG
        cases h with
        | cons h r => exact .cons (by rw [← kR_rI]; exact sG _ _ h) (ih r sG)
    refine q ts' bs p _ (fun b o e => s4 b o (sB b o e)) (same_free sB hp) upd_same (pr2 pr s4) (pt.nodup_iff.mpr nd) (by rw [pt.length_eq]; omega) so2 fun t => ?_
    rw [pt.mem_iff, ht t, List.take_of_length_le (by rw [wr.len]; exact Nat.le_refl _)]
    constructor
    · rintro ⟨w, hw, z⟩; exact ⟨w, (mem w).mp hw, z⟩
    · rintro ⟨w, hw, z⟩; exact ⟨w, (mem w).mpr hw, z⟩
end Pt.Re
namespace Pt.Re
/-! ### counts of kinds -/
def cV (W : Wys) (S : List Nat) (r : List Nat) (n : Nat) : List V := (List.range n).map fun i => V.int ((cN W S r i : Nat) : Int)
def sp_kind_counts (K : PySem.W.Frag) : Sp := fun vs H Q _ => ∃ x S m W F, ∃ (z : Nat), vs = [.ref x, .int (z : Nat)] ∧ CW K H x S m W F ∧ HOK W ∧ z ≤ 60 ∧
  ∀ (p : Addr) (rs : List Addr) H', Same H H' → H p = none → H' p = some (.lst (rs.map V.ref)) → rs.length = m → (∀ j a, rs[j]? = some a → H a = none ∧ H' a = some (.lst (cV W (cs S) [j] (z + 1)))) → Q (.ref p) H'
/-- the lists of kinds, the dict of tails with their lists -/
structure KSt (G H : Hp) (kp tl : Addr) (ks : List Addr) (E : List Nat → Option Addr) (cap : Nat) (A : Nat → List V) (B : List Nat → List V) : Prop where
  sm : Same G H
  nk : G kp = none
  nt : G tl = none
  nks : ∀ a ∈ ks, G a = none
  nE : ∀ t a, E t = some a → G a = none
  hk : H kp = some (.lst (ks.map V.ref))
  ka : ∀ j a, ks[j]? = some a → H a = some (.lst (A j))
  te : ∃ kvs, H tl = some (.dT kvs) ∧ kvs.length ≤ cap ∧ ∀ t, valV kvs (kR t) = (E t).map V.ref
  ta : ∀ t a, E t = some a → H a = some (.lst (B t))
  d1 : ks.Nodup
  d2 : ∀ t a, E t = some a → a ∉ ks ∧ a ≠ kp
  d3 : ∀ t t' a, E t = some a → E t' = some a → t = t'
  d4 : kp ∉ ks
section
variable {G H H' : Hp} {kp tl : Addr} {ks : List Addr} {E : List Nat → Option Addr} {cap : Nat} {A : Nat → List V} {B : List Nat → List V}
theorem KSt.ext (h : KSt G H kp tl ks E cap A B) {A' : Nat → List V} {B' : List Nat → List V} (ea : ∀ j, j < ks.length → A j = A' j) (eb : ∀ t a, E t = some a → B t = B' t) : KSt G H kp tl ks E cap A' B' :=
  { h with
    ka := fun j a e => by rw [← ea j (List.getElem?_eq_some_iff.mp e).1]; exact h.ka j a e
    ta := fun t a e => by rw [← eb t a e]; exact h.ta t a e }
theorem KSt.capL (h : KSt G H kp tl ks E cap A B) {cap' : Nat} (e : cap ≤ cap') : KSt G H kp tl ks E cap' A B :=
  { h with te := let ⟨kvs, h1, h2, h3⟩ := h.te; ⟨kvs, h1, Nat.le_trans h2 e, h3⟩ }
theorem KSt.same (h : KSt G H kp tl ks E cap A B) (e : Same H H') : KSt G H' kp tl ks E cap A B :=
  { h with
    sm := fun b o q => e b o (h.sm b o q)
    hk := e _ _ h.hk
    ka := fun j a q => e _ _ (h.ka j a q)
    te := let ⟨kvs, h1, h2⟩ := h.te; ⟨kvs, e _ _ h1, h2⟩
    ta := fun t a q => e _ _ (h.ta t a q) }
theorem KSt.setk (h : KSt G H kp tl ks E cap A B) {j : Nat} {a : Addr} {ys : List V} (hj : ks[j]? = some a) : KSt G (upd H a (.lst ys)) kp tl ks E cap (fun i => if i = j then ys else A i) B := by
  have am := List.mem_of_getElem? hj
  have na := h.nks a am
  refine { h with sm := same_updN na h.sm, hk := ?_, ka := fun i b e => ?_, te := ?_, ta := fun t b e => ?_ }
  · rw [upd_ne (fun z => h.d4 (by rw [z]; exact am))]
    exact h.hk
  · by_cases z : i = j
    · rw [if_pos z]
      rw [z, hj] at e
      cases e
      exact upd_same
    · rw [if_neg z, upd_ne (fun q => z ?_)]
      · exact h.ka i b e
      · rw [q] at e
        obtain ⟨i1, i2⟩ := List.getElem?_eq_some_iff.mp e
        obtain ⟨j1, j2⟩ := List.getElem?_eq_some_iff.mp hj
        exact (List.getElem_inj h.d1).mp (i2.trans j2.symm)
  · obtain ⟨kvs, h1, h2⟩ := h.te
    exact ⟨kvs, by rw [upd_ne (fun z => by rw [z, h.ka j a hj] at h1; cases h1)]; exact h1, h2⟩
  · rw [upd_ne (fun z => (h.d2 t b e).1 (by rw [z]; exact am))]
    exact h.ta t b e
theorem KSt.sett (h : KSt G H kp tl ks E cap A B) {t : List Nat} {a : Addr} {ys : List V} (ht : E t = some a) : KSt G (upd H a (.lst ys)) kp tl ks E cap A (fun u => if u = t then ys else B u) := by
  have na := h.nE t a ht
  refine { h with sm := same_updN na h.sm, hk := ?_, ka := fun i b e => ?_, te := ?_, ta := fun u b e => ?_ }
  · rw [upd_ne (Ne.symm (h.d2 t a ht).2)]
    exact h.hk
  · rw [upd_ne (fun z => (h.d2 t a ht).1 (by rw [← z]; exact List.mem_of_getElem? e))]
    exact h.ka i b e
  · obtain ⟨kvs, h1, h2⟩ := h.te
    exact ⟨kvs, by rw [upd_ne (fun z => by rw [z, h.ta t a ht] at h1; cases h1)]; exact h1, h2⟩
  · by_cases z : u = t
    · rw [if_pos z]
      rw [z, ht] at e
      cases e
      exact upd_same
    · rw [if_neg z, upd_ne (fun q => z (h.d3 u t a (by rw [← q]; exact e) ht))]
      exact h.ta u b e
theorem KSt.new (h : KSt G H kp tl ks E cap A B) {t : List Nat} {z : Addr} {kvs : List (List L2.Key × V)} (hz : H z = none) (et : E t = none) (ek : H tl = some (.dT kvs)) :
    KSt G (upd (upd H z (.lst [])) tl (.dT (L2.putK kvs (kR t) (.ref z)))) kp tl ks (fun u => if u = t then some z else E u) (cap + 1) A (fun u => if u = t then [] else B u) := by
  have zk : z ≠ kp := fun e => by rw [e, h.hk] at hz; cases hz
  have zt : z ≠ tl := fun e => by rw [e, ek] at hz; cases hz
  have zks : z ∉ ks := fun m => by
    obtain ⟨j, hj⟩ := List.mem_iff_getElem?.mp m
    rw [h.ka j z hj] at hz; cases hz
  have zE : ∀ u a, E u = some a → a ≠ z := fun u a e q => by
    have := h.ta u a e
    rw [q, hz] at this; cases this
  have tk : tl ≠ kp := fun e => by rw [e, h.hk] at ek; cases ek
  have tks : tl ∉ ks := fun m => by
    obtain ⟨j, hj⟩ := List.mem_iff_getElem?.mp m
    rw [h.ka j tl hj] at ek; cases ek
  have tE : ∀ u a, E u = some a → a ≠ tl := fun u a e q => by
    have := h.ta u a e
    rw [q, ek] at this; cases this
  have sm1 := same_new (H := H) (o := .lst []) hz
  refine { h with sm := same_updN h.nt (fun b o e => sm1 b o (h.sm b o e)), nE := fun u a e => ?_, hk := ?_, ka := fun i b e => ?_, te := ?_, ta := fun u b e => ?_, d2 := fun u a e => ?_, d3 := fun u u' a e e' => ?_ }
  · by_cases q : u = t
    · rw [if_pos q] at e
      cases e
      exact same_free h.sm hz
    · rw [if_neg q] at e
      exact h.nE u a e
  · rw [upd_ne (Ne.symm tk), upd_ne (Ne.symm zk)]
    exact h.hk
  · have m := List.mem_of_getElem? e
    rw [upd_ne (fun q => tks (by rw [← q]; exact m)), upd_ne (fun q => zks (by rw [← q]; exact m))]
    exact h.ka i b e
  · obtain ⟨kvs', h1, h2, h3⟩ := h.te
    rw [ek] at h1
    cases h1
    refine ⟨_, upd_same, ?_, fun u => ?_⟩
    · have := length_putK kvs (kR t) (V.ref z)
      omega
    · rw [valV_put]
      by_cases q : u = t
      · rw [if_pos q, if_pos (by rw [q])]
        rfl
      · rw [if_neg q, if_neg (fun e => q (kR_inj e))]
        exact h3 u
  · by_cases q : u = t
    · rw [if_pos q] at e ⊢
      cases e
      rw [upd_ne zt]
      exact upd_same
    · rw [if_neg q] at e ⊢
      rw [upd_ne (tE u b e), upd_ne (zE u b e)]
      exact h.ta u b e
  · by_cases q : u = t
    · rw [if_pos q] at e
      cases e
      exact ⟨zks, zk⟩
    · rw [if_neg q] at e
      exact h.d2 u a e
  · by_cases q : u = t
    · rw [if_pos q] at e
      cases e
      by_cases q' : u' = t
      · rw [q, q']
      · rw [if_neg q'] at e'
        exact absurd rfl (zE u' z e')
    · rw [if_neg q] at e
      by_cases q' : u' = t
      · rw [if_pos q'] at e'
        cases e'
        exact absurd rfl (zE u z e)
      · rw [if_neg q'] at e'
        exact h.d3 u u' a e e'
theorem KSt.ne (h : KSt G H kp tl ks E cap A B) {d : Addr} {u : HO} (e : G d = some u) : kp ≠ d ∧ tl ≠ d ∧ (∀ (j : Nat) (a : Addr), ks[j]? = some a → a ≠ d) ∧ ∀ t a, E t = some a → a ≠ d :=
  ⟨fun z => (by rw [← z, h.nk] at e; cases e), fun z => (by rw [← z, h.nt] at e; cases e), fun j a hj z => (by rw [← z, h.nks a (List.mem_of_getElem? hj)] at e; cases e), fun t a ht z => (by rw [← z, h.nE t a ht] at e; cases e)⟩
/-- the ways are locked, and free again -/
theorem KSt.lock (h : KSt G H kp tl ks E cap A B) {d : Addr} {u v : HO} (e : G d = some u) : KSt (upd G d v) (upd H d v) kp tl ks E cap A B := by
  obtain ⟨n1, n2, n3, n4⟩ := h.ne e
  have nd : ∀ a, G a = none → a ≠ d := fun a z q => by rw [q, e] at z; cases z
  refine ⟨fun b o q => ?_, by rw [upd_ne n1]; exact h.nk, by rw [upd_ne n2]; exact h.nt, fun a m => ?_, fun t a q => ?_, by rw [upd_ne n1]; exact h.hk, fun j a q => ?_, ?_, fun t a q => ?_, h.d1, h.d2, h.d3, h.d4⟩
  case refine_2 => rw [upd_ne (nd a (h.nks a m))]; exact h.nks a m
  case refine_3 => rw [upd_ne (n4 t a q)]; exact h.nE t a q
  case refine_4 => rw [upd_ne (n3 j a q)]; exact h.ka j a q
  case refine_5 =>
    obtain ⟨kvs, h1, h2⟩ := h.te
    exact ⟨kvs, by rw [upd_ne n2]; exact h1, h2⟩
  case refine_6 => rw [upd_ne (n4 t a q)]; exact h.ta t a q
  by_cases z : b = d
  · rw [z, upd_same] at q ⊢
    exact q
  · rw [upd_ne z] at q ⊢
    exact h.sm b o q
theorem upd_back {G : Hp} {d : Addr} {u v : HO} (e : G d = some u) : upd (upd G d v) d u = G := by
  funext b
  by_cases z : b = d
  · rw [z, upd_same, e]
  · rw [upd_ne z, upd_ne z]
theorem KSt.unlock {d : Addr} {u v : HO} (e : G d = some u) (h : KSt (upd G d v) H kp tl ks E cap A B) : KSt G (upd H d u) kp tl ks E cap A B := by
  have := h.lock (d := d) (v := u) (u := v) upd_same
  rw [upd_back e] at this
  exact this
end
abbrev n_kind_counts : List Str := ["core", "size", "kinds", "tails", "rows", "length", "kind", "sign", "row", "rest", "found", "at"]
def t_kind_counts_p1 (K : PySem.W.Frag) : TS :=
  tFor (iSeq K (tVar 2)) (gName 10) (tDrop (tBM K "list" rAppend (tVar 10) (tCons (tC (.int 0)) (tNil))))
def t_kind_counts_p2 (K : PySem.W.Frag) : TS :=
  tSeq (tFor (iSeq K (tVar 4)) (gName 8) (tSeq (tAsg (tOp (rIxU K) (tVar 3) (tSl (rSlU K) (tVar 8) (tPart (tC (.int 1))) (tNoPart))) (gName 9)) (tSeq (tAsg (tCB (rSum K) (tCons (tLc (iRng1 (tCons (tOp (rPlus K) (tVar 5) (tC (.int 1))) (tNil))) (gName 11) (tYes) (tOp rTimes (tOp (rIxU K) (tOp (rIxU K) (tVar 2) (tOp (rIxU K) (tVar 8) (tC (.int 0)))) (tVar 11)) (tOp (rIxU K) (tVar 9) (tOp rMinus (tVar 5) (tVar 11)))) [11]) (tNil))) (gName 10)) (tDrop (tBM K "list" rAppend (tDSetdT (tVar 3) (tVar 8) (tLst (tNil))) (tCons (tVar 10) (tNil))))))) (t_kind_counts_p1 K)
def t_kind_counts_p3 (K : PySem.W.Frag) : TS :=
  tRet (tLc (iSeq K (tVar 2)) (gName 10) (tYes) (tSl (rSlU K) (tVar 10) (tNoPart) (tPart (tOp (rPlus K) (tVar 1) (tC (.int 1))))) [10])
def t_kind_counts (K : PySem.W.Frag) : TS :=
  tSeq (tAsg (tTup (tCons (tLc (iRng1 (tCons (tFld K (tVar 0) "width") (tNil))) (gName 6) (tYes) (tLst (tCons (tC (.int 0)) (tNil))) [6]) (tCons (tDisp1T (tTup (tNil)) (tOp (rPlus K) (tLst (tCons (tC (.int 1)) (tNil))) (tOp rTimes (tLst (tCons (tC (.int 0)) (tNil))) (tVar 1)))) (tNil)))) (gTup K 2 (gCons (gName 2) (gCons (gName 3) (gNil))))) (tSeq (tAsg (tOwn (sp_tails_of K) (tCons (tVar 0) (tNil))) (gName 4)) (tSeq (tFor (iRng1 (tCons (tOp (rPlus K) (tVar 1) (tC (.int 1))) (tNil))) (gName 5) (tSeq (tLock (tFor (iItemsU (tFld K (tVar 0) "rows")) (gTup K 2 (gCons (gTup K 2 (gCons (gName 6) (gCons (gName 7) (gNil)))) (gCons (gName 8) (gNil)))) (tIfS (tTest (tOp rGtI (tVar 5) (tC (.int 0)))) (tAugS (tOp (rIxU K) (tVar 2) (tVar 6)) (tVar 5) (tOp (rIxU K) (tOp (rIxU K) (tVar 3) (tVar 8)) (tOp rMinus (tVar 5) (tC (.int 1)))) (rGetL K) (ipI fun i j => i + j) rSetU) (tNext)))) (t_kind_counts_p2 K))) (t_kind_counts_p3 K)))
theorem cV_len {W : Wys} {S r : List Nat} {n : Nat} : (cV W S r n).length = n := by simp [cV]
theorem cV_get {W : Wys} {S r : List Nat} {n i : Nat} (h : i < n) : (cV W S r n)[i]? = some (V.int ((cN W S r i : Nat) : Int)) := by
  unfold cV
  rw [List.getElem?_map, List.getElem?_range h]
  rfl
theorem cV_snoc {W : Wys} {S r : List Nat} {n : Nat} : cV W S r (n + 1) = cV W S r n ++ [V.int ((cN W S r n : Nat) : Int)] := by
  unfold cV
  rw [List.range_succ, List.map_append]
  rfl
theorem cV_nil {W : Wys} {S : List Nat} {z : Nat} : cV W S [] (z + 1) = [V.int 1] ++ (List.replicate z [V.int 0]).flatten := by
  unfold cV
  rw [List.range_succ_eq_map, List.map_cons, List.map_map, cN_nil, if_pos rfl]
  show V.int 1 :: _ = V.int 1 :: _
  congr 1
  have h : ∀ l : List Nat, l.map ((fun i => V.int ((cN W S [] i : Nat) : Int)) ∘ Nat.succ) = (List.replicate l.length [V.int 0]).flatten := by
    intro l
    induction l with
    | nil => rfl
    | cons x l ih =>
      rw [List.map_cons, ih, List.length_cons, List.replicate_succ, List.flatten_cons]
      show V.int ((cN W S [] (x + 1) : Nat) : Int) :: _ = _
      rw [cN_nil, if_neg (by omega)]
      rfl
  have h2 := h (List.range z)
  rw [List.length_range] at h2
  exact h2
theorem cN_lt {W : Wys} {S r : List Nat} {n : Nat} (hS : S.length ≤ 6) (hn : n ≤ 60) : cN W S r n < 2 ^ 200 := by
  have h1 : cN W S r n ≤ S.length ^ n := lts_len n r
  have h2 : S.length ^ n ≤ 6 ^ n := Nat.pow_le_pow_left hS n
  have h3 : (6 : Nat) ^ n ≤ 6 ^ 60 := Nat.pow_le_pow_right (by decide) hn
  have h4 : (6 : Nat) ^ 60 < 2 ^ 200 := by decide +kernel
  omega
theorem times_w {a b : Nat} {H : Hp} {Q : VK} (ha : a < 2 ^ 200) (hb : b < 2 ^ 200) (q : Q (.int ((a * b : Nat) : Int)) H) : rTimes (.int ((a : Nat) : Int)) (.int ((b : Nat) : Int)) H Q := by
  have lg : ∀ n : Nat, n < 2 ^ 200 → n.log2 ≤ 200 := fun n h => by
    by_cases z : n = 0
    · rw [z]; decide
    · exact Nat.le_of_lt ((Nat.log2_lt z).mpr h)
  refine .inr (.inl ⟨(a : Nat), (b : Nat), rfl, rfl, ?_, ?_⟩)
  · show ((a : Nat) : Int).natAbs.log2 + ((b : Nat) : Int).natAbs.log2 < 1000000
    rw [Int.natAbs_natCast, Int.natAbs_natCast]
    have h1 := lg a ha
    have h2 := lg b hb
    omega
  · show Q (.int (((a : Nat) : Int) * ((b : Nat) : Int))) H
    rw [← Int.natCast_mul]
    exact q
/-- what the ways told so far bring -/
def pN (W : Wys) (S r : List Nat) (L : Nat) : Nat := if L = 0 then 0 else cN W S r (L - 1)
def wsm (W : Wys) (S : List Nat) (V : Wys) (j L : Nat) : Nat := ((V.filter fun w => decide (w.1.1 = j)).map fun w => pN W S w.2 L).sum
theorem wsm_snoc {W : Wys} {S : List Nat} {V : Wys} {w : Kd × List Nat} {j L : Nat} : wsm W S (V ++ [w]) j L = wsm W S V j L + if w.1.1 = j then pN W S w.2 L else 0 := by
  unfold wsm
  rw [List.filter_append, List.map_append, List.sum_append, List.filter_cons]
  by_cases e : w.1.1 = j
  · rw [if_pos e, decide_eq_true e, if_pos rfl]
    simp
  · rw [if_neg e, decide_eq_false e]
    simp
theorem perm_of {V W : Wys} (nv : (V.map (·.1)).Nodup) (nw : (W.map (·.1)).Nodup) (e : ∀ w, w ∈ V ↔ w ∈ W) : V.Perm W := by
  have f : ∀ {U : Wys}, (U.map (·.1)).Nodup → U.Nodup := fun {U} h => by
    unfold List.Nodup at h ⊢
    rw [List.pairwise_map] at h
    exact h.imp fun h z => h (by rw [z])
  exact (List.perm_ext_iff_of_nodup (f nv) (f nw)).mpr e
theorem wsm_all {W V : Wys} {S : List Nat} {j L : Nat} (nv : (V.map (·.1)).Nodup) (nw : (W.map (·.1)).Nodup) (e : ∀ w, w ∈ V ↔ w ∈ W) (sg : ∀ w ∈ W, w.1.2 ∈ S) (hS : S.Nodup) : wsm W S V j L = cN W S [j] L := by
  cases L with
  | zero =>
    rw [cN_zero]
    unfold wsm
    exact sum_zero fun w _ => rfl
  | succ L =>
    rw [cN_kind nw sg hS]
    unfold wsm
    have p := ((perm_of nv nw e).filter fun w => decide (w.1.1 = j)).map fun w => pN W S w.2 (L + 1)
    rw [p.sum_nat]
    rfl
structure RI (H : Hp) (rp : Addr) (bs : List Addr) (ts : List (List Nat)) (ks : List Addr) (E : List Nat → Option Addr) : Prop where
  hr : H rp = some (.lst (bs.map V.ref))
  pt : Paired (fun (t : List Nat) b => H b = some (.tup (rI t))) ts bs
  nk : rp ∉ ks
  nE : ∀ t a, E t = some a → a ≠ rp
theorem RI.same {H H' : Hp} {rp : Addr} {bs : List Addr} {ts : List (List Nat)} {ks : List Addr} {E : List Nat → Option Addr} (h : RI H rp bs ts ks E) (e : Same H H') : RI H' rp bs ts ks E := ⟨e _ _ h.hr, Paired.mapP h.pt fun _ _ q => e _ _ q, h.nk, h.nE⟩
theorem RI.upd {H : Hp} {rp a : Addr} {bs : List Addr} {ts : List (List Nat)} {ks : List Addr} {E : List Nat → Option Addr} {o u : HO} (h : RI H rp bs ts ks E) (ea : H a = some o) (ne : ∀ xs, o ≠ .tup xs) (nr : a ≠ rp) : RI (L2.upd H a u) rp bs ts ks E :=
  ⟨by rw [upd_ne (Ne.symm nr)]; exact h.hr, Paired.mapP h.pt fun t b q => (by rw [upd_ne (fun z => by rw [z, ea] at q; exact ne _ (Option.some.inj q))]; exact q), h.nk, h.nE⟩
theorem nd_cs {S : Str} {m : Nat} {W : Wys} {F : Nat → List Nat} (w : WfC S m W F) : (cs S).Nodup := by
  have h1 := w.sg
  unfold isSigns at h1
  simp only [Bool.and_eq_true, decide_eq_true_eq] at h1
  exact h1.2
theorem pure_kind_counts {K : PySem.W.Frag} (vs : List V) (H : Hp) (Q : VK) (E : XK) (h : sp_kind_counts K vs H Q E) : t_kind_counts K { nx := fun _ H' => Q .non H', rt := Q } (start n_kind_counts vs) H := by
  obtain ⟨x, S, m, W, F, z, rfl, c, hok, hz, q⟩ := h
  have sl : 1000000 ≤ sizeLine := by decide
  obtain ⟨d, kvs, V', fro, hd, lkv, wr, nv, mem⟩ := c.c.ro
  have m12 := c.w.m12
  have l6 : (cs S).length ≤ 6 := by have := c.w.len; rw [size_cs] at this; exact this
  unfold t_kind_counts
  walk_at "gw"
  refine FldAt.read c.c.wd (by simp) ?_
  refine e_rng (by omega) (by omega) ?_
  rw [show ((m : Nat) : Int).toNat = m by omega]
  refine lc_pure (walk_range (lo := 0) (n := m)) [] (fun i acc G => ∃ rs : List Addr, acc = rs.map V.ref ∧ rs.length = i ∧ rs.Nodup ∧ ∀ a ∈ rs, H a = none ∧ G a = some (.lst [V.int 0])) InH.nil (fun G _ => ⟨[], rfl, rfl, List.nodup_nil, fun _ h => by cases h⟩) (fun i acc G G' e ⟨rs, h1, h2, h3, h4⟩ => ⟨rs, h1, h2, h3, fun a ha => ⟨(h4 a ha).1, e _ _ (h4 a ha).2⟩⟩) (fun _ _ => True.intro) (by omega) ?_ ?_
  · rintro D i acc y H1 H2 Nx hD hi s1 kn inn hd' ⟨rs, rfl, h2, h3, h4⟩ ⟨rfl, rfl⟩ kY kN
    walk_at "gw"
    refine ⟨rfl, ?_⟩
    walk_at "gw"
    refine w_iteT rfl ?_
    walk_at "gw"
    refine ⟨by show 1 ≤ sizeLine; omega, fun l hl => ?_⟩
    have n1 := same_new (o := .lst [V.int 0]) hl
    have lD : l ≠ D := fun e => by rw [e, hd'] at hl; cases hl
    refine kY _ _ n1 ⟨rs ++ [l], by simp, by simp [h2], ?_, fun a ha => ?_⟩
    · refine List.nodup_append.mpr ⟨h3, by simp, fun a ha b hb e => ?_⟩
      rw [List.mem_singleton.mp hb] at e
      have := hid_sub _ _ (h4 a ha).2
      rw [e, hl] at this
      cases this
    · rcases List.mem_append.mp ha with w | w
      · exact ⟨(h4 a w).1, hid_same n1 _ _ (h4 a w).2⟩
      · rw [List.mem_singleton.mp w]
        refine ⟨same_free s1 hl, ?_⟩
        rw [hid_at (by simpa using lD)]
        exact upd_same
  · rintro kp acc H1 hkp s1 inn kn hk1 ⟨ks, rfl, lks, ndk, hks⟩ _
    walk_at "gw"
    intro tl htl
    have n2 := same_new (o := .dT []) htl
    have e2 : upd H1 tl (.dT []) tl = some (.dT []) := upd_same
    have tk : tl ≠ kp := fun e => by rw [e, hk1] at htl; cases htl
    replace hk1 := n2 _ _ hk1
    have htlH : H tl = none := same_free s1 htl
    replace s1 : Same H (upd H1 tl (.dT [])) := fun b o e => n2 b o (s1 b o e)
    replace hks : ∀ a ∈ ks, H a = none ∧ upd H1 tl (.dT []) a = some (.lst [V.int 0]) := fun a ha => ⟨(hks a ha).1, n2 _ _ (hid_sub _ _ (hks a ha).2)⟩
    have kpk : kp ∉ ks := fun hm => by
      have := (hks kp hm).2
      rw [hk1] at this
      have e := HO.lst.inj (Option.some.inj this)
      cases ks with
      | nil => cases hm
      | cons a r => cases e
    clear kn inn
    generalize upd H1 tl (.dT []) = H2 at e2 hk1 s1 hks
    clear n2 htl H1
    walk_at "gw"
    refine ⟨Nat.zero_le _, fun p hp => ?_⟩
    have n3 := same_new (o := .tup []) hp
    have e3 : upd H2 p (.tup []) p = some (.tup ((kR []).map kV)) := upd_same
    replace e2 := n3 _ _ e2
    replace hk1 := n3 _ _ hk1
    replace s1 : Same H (upd H2 p (.tup [])) := fun b o e => n3 b o (s1 b o e)
    replace hks : ∀ a ∈ ks, H a = none ∧ upd H2 p (.tup []) a = some (.lst [V.int 0]) := fun a ha => ⟨(hks a ha).1, n3 _ _ (hks a ha).2⟩
    generalize upd H2 p (.tup []) = H3 at e2 hk1 s1 hks e3
    clear n3 hp H2
    walk_at "gw"
    refine ⟨by show 1 ≤ sizeLine; omega, fun l1 hl1 => ?_⟩
    have n4 := same_new (o := .lst [V.int 1]) hl1
    walk_at "gw"
    refine ⟨by show 1 ≤ sizeLine; omega, fun l2 hl2 => ?_⟩
    have n5 := same_new (o := .lst [V.int 0]) hl2
    walk_at "gw"
    refine .inr (.inr ⟨l2, _, _, rfl, rfl, upd_same, by omega, by omega, ?_, fun l3 hl3 => ?_⟩)
    · rw [show ((z : Nat) : Int).toNat = z by omega]
      show 1 * z ≤ _
      omega
    rw [show ((z : Nat) : Int).toNat = z by omega] at *
    have n6 := same_new (o := .lst (List.replicate z [V.int 0]).flatten) hl3
    refine plus_l (n6 _ _ (n5 _ _ upd_same)) upd_same ?_ fun a0 ha0 => ?_
    · simp
      omega
    have n7 := same_new (o := .lst ([V.int 1] ++ (List.replicate z [V.int 0]).flatten)) ha0
    have s37 : Same H3 (upd (upd (upd (upd H3 l1 (.lst [V.int 1])) l2 (.lst [V.int 0])) l3 (.lst (List.replicate z [V.int 0]).flatten)) a0 (.lst ([V.int 1] ++ (List.replicate z [V.int 0]).flatten))) := fun b o e => n7 b o (n6 b o (n5 b o (n4 b o e)))
    have e7 : upd (upd (upd (upd H3 l1 (.lst [V.int 1])) l2 (.lst [V.int 0])) l3 (.lst (List.replicate z [V.int 0]).flatten)) a0 (.lst ([V.int 1] ++ (List.replicate z [V.int 0]).flatten)) a0 = some (.lst (cV W (cs S) [] (z + 1))) := by rw [upd_same, cV_nil]
    have a0N : H3 a0 = none := same_free (fun b o e => n6 b o (n5 b o (n4 b o e))) ha0
    generalize upd (upd (upd (upd H3 l1 (.lst [V.int 1])) l2 (.lst [V.int 0])) l3 (.lst (List.replicate z [V.int 0]).flatten)) a0 (.lst ([V.int 1] ++ (List.replicate z [V.int 0]).flatten)) = H4 at s37 e7
    clear n4 n5 n6 n7 hl1 hl2 hl3 ha0
    refine ⟨p, kR [], rfl, s37 _ _ e2, s37 _ _ e3, ?_⟩
    have a0k : a0 ∉ ks ∧ a0 ≠ kp := ⟨fun hm => (by rw [(hks a0 hm).2] at a0N; cases a0N), fun e => (by rw [e, hk1] at a0N; cases a0N)⟩
    have a0t : a0 ≠ tl := fun e => by rw [e, e2] at a0N; cases a0N
    have st0 : KSt H (upd H4 tl (.dT [(kR [], V.ref a0)])) kp tl ks (fun t => if t = [] then some a0 else none) 1 (fun j => cV W (cs S) [j] 0 ++ [V.int 0]) (fun t => if t = [] then cV W (cs S) [] (z + 1) else cV W (cs S) t 0) := by
      have ss : Same H (upd H4 tl (.dT [(kR [], V.ref a0)])) := same_updN htlH fun b o e => s37 b o (s1 b o e)
      have tks : tl ∉ ks := fun hm => by rw [(hks tl hm).2] at e2; cases e2
      refine ⟨ss, hkp, htlH, fun a ha => (hks a ha).1, fun t a e => ?_, by rw [upd_ne (Ne.symm tk)]; exact s37 _ _ hk1, fun j a e => ?_, ⟨_, upd_same, by simp, fun t => ?_⟩, fun t a e => ?_, ndk, fun t a e => ?_, fun t t' a e e' => ?_, kpk⟩
      · by_cases w : t = []
        · rw [if_pos w] at e; cases e; exact same_free s1 a0N
        · rw [if_neg w] at e; cases e
      · have hm := List.mem_of_getElem? e
        rw [upd_ne (fun q => tks (by rw [← q]; exact hm))]
        exact s37 _ _ (hks a hm).2
      · by_cases w : t = []
        · rw [if_pos w, w]
          exact valV_pos rfl
        · rw [if_neg w]
          exact valV_neg (fun e => w (kR_inj e.symm))
      · by_cases w : t = []
        · rw [if_pos w] at e ⊢; cases e
          rw [upd_ne a0t]
          exact e7
        · rw [if_neg w] at e; cases e
      · by_cases w : t = []
        · rw [if_pos w] at e; cases e; exact a0k
        · rw [if_neg w] at e; cases e
      · by_cases w : t = []
        · by_cases w' : t' = []
          · rw [w, w']
          · rw [if_neg w'] at e'; cases e'
        · rw [if_neg w] at e; cases e
    generalize upd H4 tl (.dT [(kR [], V.ref a0)]) = H5 at st0
    clear e7 s37 e2 e3 a0N hk1 s1 hks a0t H4 H3
    walk_at "gw"
    refine ⟨by show 2 ≤ sizeLine; omega, fun p2 hp2 => ?_⟩
    have st1 := st0.same (same_new (o := .tup [V.ref kp, V.ref tl]) hp2)
    refine w_gtup (sqt_of upd_same) rfl ?_
    generalize upd H5 p2 (.tup [V.ref kp, V.ref tl]) = H6 at st1
    clear st0 hp2
    walk_at "gw"
    refine ⟨x, S, m, W, F, rfl, c.same st1.sm, hok, fun ts bs rp H7 s7 hrp er pr nd lts so mts => ?_⟩
    have st7 := st1.same s7
    have okt : ∀ t ∈ ts, t ≠ [] ∧ t.length ≤ 60 ∧ InC m t ∧ ∀ k r, t = k :: r → r = [] ∨ r ∈ ts := fun t ht => by
      obtain ⟨w, hw, h1⟩ := (mts t).mp ht
      obtain ⟨j, hj, rfl⟩ := List.mem_map.mp h1
      have hj2 := List.mem_range.mp hj
      obtain ⟨_, _, w3, w4⟩ := c.w.ok w hw
      refine ⟨fun e => ?_, by rw [List.length_drop]; omega, fun k hk => w4 k (List.mem_of_mem_drop hk), fun k r e => ?_⟩
      · have := congrArg List.length e
        rw [List.length_drop] at this
        simp at this
        omega
      · have e2 : w.2.drop (j + 1) = r := by
          rw [← List.drop_drop, e]
          rfl
        by_cases hl : j + 1 < w.2.length
        · exact .inr ((mts r).mpr ⟨w, hw, List.mem_map.mpr ⟨j + 1, List.mem_range.mpr hl, e2⟩⟩)
        · refine .inl ?_
          rw [← e2]
          exact List.drop_of_length_le (by omega)
    have lbs : ts.length = bs.length := paired_len pr
    have ri7 : RI H7 rp bs ts ks (fun t => if t = [] then some a0 else none) := ⟨er, pr, fun hm => (by
      have := hrp
      obtain ⟨j, hj⟩ := List.mem_iff_getElem?.mp hm
      rw [st1.ka j rp hj] at this
      cases this), fun t a e => fun w => (by
      have h1 := st1.ta t a e
      rw [w, hrp] at h1
      cases h1)⟩
    have nrk : rp ≠ kp := fun e => by have h1 := st1.hk; rw [← e, hrp] at h1; cases h1
    have nrt : rp ≠ tl := fun e => by obtain ⟨_, h1, _⟩ := st1.te; rw [← e, hrp] at h1; cases h1
    clear st1 hrp er pr s7 H6
    walk_at "gw"
    refine e_rng (by omega) (by omega) ?_
    rw [show ((z : Nat) : Int) + 1 = ((z + 1 : Nat) : Int) by omega, show ((z + 1 : Nat) : Int).toNat = z + 1 by omega]
    refine for_it (walk_range (lo := 0) (n := z + 1)) (fun L σ H' => ∃ o5 o6 o7 o8 o9 o10 o11 E, σ = [some (.ref x), some (.int (z : Nat)), some (.ref kp), some (.ref tl), some (.ref rp), o5, o6, o7, o8, o9, o10, o11] ∧
      KSt H H' kp tl ks E (1 + if L = 0 then 0 else ts.length) (fun j => cV W (cs S) [j] L ++ [V.int 0]) (fun t => if t = [] then cV W (cs S) [] (z + 1) else cV W (cs S) t L) ∧ RI H' rp bs ts ks E ∧ (∀ t, (E t).isSome = true ↔ t = [] ∨ (t ∈ ts ∧ 0 < L)))
      ⟨_, _, _, _, _, _, _, _, rfl, { st7 with te := (by obtain ⟨kv, h1, h2, h3⟩ := st7.te; exact ⟨kv, h1, by simpa using h2, h3⟩) }, ri7, fun t => ?_⟩ (fun _ _ _ _ _ => True.intro) ?_ ?_
    · by_cases w : t = []
      · rw [if_pos w]; simp [w]
      · rw [if_neg w]; simp [w]
    · rintro L y σ H8 H9 hL ⟨o5, o6, o7, o8, o9, o10, o11, E, rfl, st, ri, hE⟩ ⟨rfl, rfl⟩
      have hLz : L ≤ z := by omega
      walk_at "gw"
      have hd8 := st.sm _ _ hd
      refine ⟨d, _, hd8, True.intro, fun od => ?_⟩
      have fz : upd H9 d (.frz od (.dT kvs)) d = some (.frz od (.dT kvs)) := upd_same
      have ncd : x ≠ d := fun e => by
        obtain ⟨_, _, _, h1, _⟩ := fro
        rw [e, hd] at h1; cases h1
      have stl := st.lock (d := d) (v := .frz od (.dT kvs)) hd
      obtain ⟨nkd, ntd, _, _⟩ := st.ne hd
      have nrd : d ≠ rp := fun e => by rw [e, ri.hr] at hd8; cases hd8
      have ril := ri.upd (u := .frz od (.dT kvs)) hd8 (fun _ e => nomatch e) nrd
      have wrl := wr.imp fun v r h => RowT.rds (rdsT_frz (o := od) hd8) (h.same st.sm)
      have frl := (fro.same st.sm).upd (o := .frz od (.dT kvs)) ncd
      generalize upd H9 d (.frz od (.dT kvs)) = G at fz stl ril wrl frl
      walk_at "gw"
      refine .inl ?_
      show tFld K (tVar 0) "rows" _ _ _
      walk_at "gw"
      refine FldAt.read frl (by simp) ?_
      refine ⟨d, od, kvs, rfl, fz, ?_⟩
      refine for_it walk_itx (fun i σ H' => (∃ o6 o7 o8 o9 o10 o11, σ = [some (.ref x), some (.int (z : Nat)), some (.ref kp), some (.ref tl), some (.ref rp), some (.int (L : Nat)), o6, o7, o8, o9, o10, o11]) ∧
        KSt (upd H d (.frz od (.dT kvs))) H' kp tl ks E (1 + if L = 0 then 0 else ts.length) (fun j => cV W (cs S) [j] L ++ [V.int ((wsm W (cs S) (V'.take i) j L : Nat) : Int)]) (fun t => if t = [] then cV W (cs S) [] (z + 1) else cV W (cs S) t L) ∧ RI H' rp bs ts ks E ∧ H' d = some (.frz od (.dT kvs)) ∧ Same (hid (kp :: tl :: ks) G) (hid (kp :: tl :: ks) H'))
        ⟨⟨o6, o7, o8, o9, o10, o11, by simp⟩, stl.ext (fun j _ => by simp [wsm]) (fun _ _ _ => rfl), ril, fz, Same.refl _⟩ (fun i σ' H' _ e => e.2.2.2.1) ?_ ?_
      · rintro i y σ H10 H11 hi ⟨⟨o6, o7, o8, o9, o10, o11, rfl⟩, st10, ri10, fz10, hs10⟩ ⟨T, k, v, q', hkv, rfl, hT, rfl, hq'⟩
        obtain ⟨⟨⟨kd, s⟩, row⟩, hw, rfl, a, rfl, ha⟩ := wrl.get hkv
        have hwW : ((kd, s), row) ∈ W := (mem _).mp (List.mem_of_getElem? hw)
        obtain ⟨k1, k2, k3, k4⟩ := c.w.ok _ hwW
        simp only at k1 k3 k4
        have tkV : V'.take (i + 1) = V'.take i ++ [((kd, s), row)] := by rw [List.take_add_one, hw]; rfl
        have s3 := same_new (o := .tup [V.ref q', .ref a]) hT
        have ha10 : H10 a = some (.tup (rI row)) := by
          have hn : a ∉ kp :: tl :: ks := fun w => by
            have ha' : G a = some (.tup (rI row)) := ha
            rcases List.mem_cons.mp w with w | w
            · rw [w, stl.hk] at ha'; cases ha'
            · rcases List.mem_cons.mp w with w | w
              · obtain ⟨_, h1, _⟩ := stl.te
                rw [w, h1] at ha'; cases ha'
              · obtain ⟨j, hj⟩ := List.mem_iff_getElem?.mp w
                rw [stl.ka j a hj] at ha'; cases ha'
          have h1 := hs10 a _ (by rw [hid_at hn]; exact ha)
          exact hid_sub _ _ h1
        have hT2 : upd H10 T (.tup [V.ref q', .ref a]) T = some (.tup [V.ref q', .ref a]) := upd_same
        replace ha10 := s3 _ _ ha10
        replace hq' := s3 _ _ hq'
        replace st10 := st10.same s3
        replace ri10 := ri10.same s3
        replace fz10 := s3 _ _ fz10
        replace hs10 : Same (hid (kp :: tl :: ks) G) (hid (kp :: tl :: ks) (upd H10 T (.tup [V.ref q', .ref a]))) := fun b o e => hid_same s3 b o (hs10 b o e)
        generalize upd H10 T (.tup [V.ref q', .ref a]) = H11 at ha10 hq' hT2 st10 ri10 fz10 hs10
        clear s3 hT hkv H10
        refine w_gtup (sqt_of hT2) rfl ?_
        walk_at "gw"
        refine w_gtup (sqt_of hq') rfl ?_
        show gCons (gName 6) (gCons (gName 7) gNil) [V.int (kd : Nat), V.str (sgS s)] _ _ _
        walk_at "gw"
        obtain ⟨kdA, hkA⟩ : ∃ b, ks[kd]? = some b := ⟨ks[kd]'(by omega), List.getElem?_eq_getElem _⟩
        refine w_ite (fun e => ?_) (fun e => ?_)
        · have L0 := of_decide_eq_true e
          have eS : (E row).isSome = true := by
            rw [hE row]
            cases row with
            | nil => exact .inl rfl
            | cons k r => exact .inr ⟨(mts _).mpr ⟨_, hwW, List.mem_map.mpr ⟨0, List.mem_range.mpr (by simp), rfl⟩⟩, by omega⟩
          obtain ⟨b, hb⟩ := Option.isSome_iff_exists.mp eS
          obtain ⟨kv10, t1, t2, t3⟩ := st10.te
          have tb := st10.ta row b hb
          have bget : (if row = [] then cV W (cs S) [] (z + 1) else cV W (cs S) row L)[L - 1]? = some (V.int ((pN W (cs S) row L : Nat) : Int)) := by
            unfold pN
            rw [if_neg (show ¬ L = 0 by omega)]
            by_cases w : row = []
            · rw [if_pos w, w]; exact cV_get (by omega)
            · rw [if_neg w]; exact cV_get (by omega)
          walk_at "gw"
          refine ix_l (v := .ref kdA) (sql_of st10.hk) (atI_nat (j := kd) (by rw [List.getElem?_map, hkA]; rfl)) ?_
          walk_at "gw"
          refine ⟨kdA, _, L, V.int ((wsm W (cs S) (V'.take i) kd L : Nat) : Int), rfl, rfl, sql_of (st10.ka kd kdA hkA), by rw [List.getElem?_append_right (by rw [cV_len]; exact Nat.le_refl _), cV_len]; simp, ?_⟩
          walk_at "gw"
          refine ix_d (v := .ref b) (.inr ⟨kv10, kR row, a, .inl t1, rfl, by rw [kR_rI]; exact ha10, by rw [t3 row, hb]; rfl⟩) ?_
          walk_at "gw"
          refine ix_l (v := V.int ((pN W (cs S) row L : Nat) : Int)) (sql_of tb) ?_ ?_
          · rw [show ((L : Nat) : Int) - 1 = ((L - 1 : Nat) : Int) by omega]
            exact atI_nat (j := L - 1) bget
          refine ⟨_, _, rfl, rfl, ?_⟩
          refine set_l (k := L) (st10.ka kd kdA hkA) ?_ ?_
          · rw [List.length_append, cV_len]
            unfold ixN
            rw [if_pos (by simp)]
            simp
            omega
          have setE : (cV W (cs S) [kd] L ++ [V.int ((wsm W (cs S) (V'.take i) kd L : Nat) : Int)]).set L (V.int (((wsm W (cs S) (V'.take i) kd L : Nat) : Int) + ((pN W (cs S) row L : Nat) : Int))) = cV W (cs S) [kd] L ++ [V.int ((wsm W (cs S) (V'.take (i + 1)) kd L : Nat) : Int)] := by
            rw [List.set_append_right _ _ (by rw [cV_len]; exact Nat.le_refl _), cV_len, Nat.sub_self, tkV, wsm_snoc, if_pos rfl]
            simp
          rw [setE]
          have st11 := st10.setk (ys := cV W (cs S) [kd] L ++ [V.int ((wsm W (cs S) (V'.take (i + 1)) kd L : Nat) : Int)]) hkA
          have nkr : kdA ≠ rp := fun e => ri10.nk (by rw [← e]; exact List.mem_of_getElem? hkA)
          have nkdd : kdA ≠ d := fun e => by have h1 := st10.ka kd kdA hkA; rw [e, fz10] at h1; cases h1
          refine ⟨⟨_, _, _, _, _, _, rfl⟩, st11.ext (fun j hj => ?_) (fun _ _ _ => rfl), ri10.upd (st10.ka kd kdA hkA) (fun _ e => nomatch e) nkr, by rw [upd_ne (Ne.symm nkdd)]; exact fz10, fun b o e => hid_upd (by simp [List.mem_of_getElem? hkA]) b o (hs10 b o e)⟩
          by_cases w : j = kd
          · rw [if_pos w, w]
          · rw [if_neg w, tkV, wsm_snoc, if_neg (fun q => w q.symm), Nat.add_zero]
        · have L0 : L = 0 := by have := of_decide_eq_false e; omega
          walk_at "gw"
          refine ⟨⟨_, _, _, _, _, _, rfl⟩, st10.ext (fun j hj => ?_) (fun _ _ _ => rfl), ri10, fz10, hs10⟩
          rw [tkV, wsm_snoc]
          have : pN W (cs S) row L = 0 := by unfold pN; rw [if_pos L0]
          simp [this]
      · rintro σ H10 ⟨⟨o6, o7, o8, o9, o10, o11, rfl⟩, st10, ri10, fz10, hs10⟩
        refine ⟨fz10, ?_⟩
        have st11 := KSt.unlock hd st10
        have ri11 := ri10.upd (u := .dT kvs) fz10 (fun _ e => nomatch e) nrd
        generalize upd H10 d (.dT kvs) = H11 at st11 ri11
        have st12 := st11.ext (A' := fun j => cV W (cs S) [j] (L + 1)) (B' := fun t => if t = [] then cV W (cs S) [] (z + 1) else cV W (cs S) t L) (fun j hj => by
          rw [List.take_of_length_le (by rw [wr.len]; exact Nat.le_refl _), wsm_all nv c.w.nd mem (fun w hw => (c.w.ok w hw).2.1) (nd_cs c.w), cV_snoc]) (fun _ _ _ => rfl)
        clear st10 ri10 fz10 hs10 st11 H10
        unfold t_kind_counts_p2
        walk_at "gw"
        refine w_iseqL ?_
        walk_at "gw"
        refine e_ilist (sql_of ri11.hr) ?_
        have lbr : (bs.map V.ref).length = ts.length := by rw [List.length_map]; exact lbs.symm
        refine for_it walk_list (fun i σ H' => ∃ o6 o7 o8 o9 o10 o11 E', σ = [some (.ref x), some (.int (z : Nat)), some (.ref kp), some (.ref tl), some (.ref rp), some (.int (L : Nat)), o6, o7, o8, o9, o10, o11] ∧
          KSt H H' kp tl ks E' (1 + if L = 0 then i else ts.length) (fun j => cV W (cs S) [j] (L + 1)) (fun t => if t = [] then cV W (cs S) [] (z + 1) else if t ∈ ts.take i then cV W (cs S) t (L + 1) else cV W (cs S) t L) ∧ RI H' rp bs ts ks E' ∧ ∀ t, (E' t).isSome = true ↔ t = [] ∨ (t ∈ ts ∧ 0 < L) ∨ t ∈ ts.take i)
          ⟨_, _, _, _, _, _, E, rfl, st12.ext (fun _ _ => rfl) (fun t a _ => by simp), ri11, fun t => by rw [hE t]; simp⟩ (fun i σ H' _ e => (by obtain ⟨_, _, _, _, _, _, _, _, _, e, _⟩ := e; exact sql_of e.hr)) ?_ ?_
        · rintro i y σ H10 H12 hi ⟨o6, o7, o8, o9, o10, o11, E', rfl, st10, ri10, hE10⟩ ⟨rfl, hy⟩
          rw [lbr] at hi
          obtain ⟨b, hb, rfl⟩ : ∃ b, bs[i]? = some b ∧ y = .ref b := by
            rw [List.getElem?_map] at hy
            obtain ⟨b, h1, h2⟩ := Option.map_eq_some_iff.mp hy
            exact ⟨b, h1, h2.symm⟩
          obtain ⟨t, ht, hbt⟩ := paired_at ri10.pt hb
          have htm := List.mem_of_getElem? ht
          obtain ⟨t1, t2, t3, t4⟩ := okt t htm
          cases t with
          | nil => exact absurd rfl t1
          | cons k r =>
            have hkm : k < m := t3 k (by simp)
            obtain ⟨kA, hkA⟩ : ∃ b, ks[k]? = some b := ⟨ks[k]'(by omega), List.getElem?_eq_getElem _⟩
            -- what the rest has
            have rin : r = [] ∨ r ∈ ts.take i := by
              rcases t4 k r rfl with w | w
              · exact .inl w
              · refine .inr ?_
                obtain ⟨j, hj⟩ := List.mem_iff_getElem?.mp w
                by_cases hji : j < i
                · exact List.mem_of_getElem? (i := j) (by rw [List.getElem?_take, if_pos hji]; exact hj)
                · exfalso
                  obtain ⟨j1, j2⟩ := List.getElem?_eq_some_iff.mp hj
                  obtain ⟨i1, i2⟩ := List.getElem?_eq_some_iff.mp ht
                  by_cases q : i = j
                  · subst q
                    rw [i2] at j2
                    exact absurd j2 (by simp)
                  · have := List.pairwise_iff_getElem.mp so i j i1 j1 (by omega)
                    rw [i2, j2] at this
                    simp at this
                    omega
            have eR : (E' r).isSome = true := by
              rw [hE10 r]
              rcases rin with w | w
              · exact .inl w
              · exact .inr (.inr w)
            obtain ⟨c0, hc0⟩ := Option.isSome_iff_exists.mp eR
            have tkT : ts.take (i + 1) = ts.take i ++ [k :: r] := by rw [List.take_add_one, ht]; rfl
            have tnI : (k :: r) ∉ ts.take i := fun w => by
              obtain ⟨j, hj⟩ := List.mem_iff_getElem?.mp w
              rw [List.getElem?_take] at hj
              by_cases q : j < i
              · rw [if_pos q] at hj
                obtain ⟨j1, j2⟩ := List.getElem?_eq_some_iff.mp hj
                obtain ⟨i1, i2⟩ := List.getElem?_eq_some_iff.mp ht
                have := (List.getElem_inj nd).mp (j2.trans i2.symm)
                omega
              · rw [if_neg q] at hj; cases hj
            have bstep : ∀ u : List Nat, (if u = k :: r then cV W (cs S) (k :: r) (L + 1) else if u = [] then cV W (cs S) [] (z + 1) else if u ∈ ts.take i then cV W (cs S) u (L + 1) else cV W (cs S) u L) = (if u = [] then cV W (cs S) [] (z + 1) else if u ∈ ts.take (i + 1) then cV W (cs S) u (L + 1) else cV W (cs S) u L) := fun u => by
              have hm : u ∈ ts.take (i + 1) ↔ u ∈ ts.take i ∨ u = k :: r := by rw [tkT, List.mem_append, List.mem_singleton]
              by_cases w : u = k :: r
              · rw [if_pos w, if_neg (by rw [w]; exact List.cons_ne_nil _ _), if_pos (hm.mpr (.inr w)), w]
              · rw [if_neg w]
                by_cases w' : u ∈ ts.take i
                · rw [if_pos w', if_pos (hm.mpr (.inl w'))]
                · rw [if_neg w', if_neg (fun h => (hm.mp h).elim w' w)]
            have rget : ∀ j, j ≤ L → (if r = [] then cV W (cs S) [] (z + 1) else if r ∈ ts.take i then cV W (cs S) r (L + 1) else cV W (cs S) r L)[j]? = some (V.int ((cN W (cs S) r j : Nat) : Int)) := fun j hj => by
              by_cases w : r = []
              · rw [if_pos w, w]; exact cV_get (by omega)
              · rw [if_neg w, if_pos (rin.resolve_left w)]; exact cV_get (by omega)
            walk_at "gw"
            refine sl_from1 hbt fun p H11 s11 hp => ?_
            have hp2 : H11 p = some (.tup (rI r)) := hp
            replace st10 := st10.same s11
            replace ri10 := ri10.same s11
            replace hbt := s11 _ _ hbt
            clear s11 hp
            obtain ⟨kv10, g1, g2, g3⟩ := st10.te
            walk_at "gw"
            refine ix_d (v := .ref c0) (.inr ⟨kv10, kR r, p, .inl g1, rfl, by rw [kR_rI]; exact hp2, by rw [g3 r, hc0]; rfl⟩) ?_
            walk_at "gw"
            refine e_rng (by omega) (by omega) ?_
            rw [show ((L : Nat) : Int) + 1 = ((L + 1 : Nat) : Int) by omega, show ((L + 1 : Nat) : Int).toNat = L + 1 by omega]
            refine lc_im (walk_range (lo := 0) (n := L + 1)) (fun _ => true) (fun j => .int (((cN W (cs S) [k] j * cN W (cs S) r (L - j)) : Nat) : Int)) (by omega) (fun _ _ _ _ => True.intro) ?_ ?_
            · rintro j y H12 H13 KY KN hj s12 ⟨rfl, rfl⟩ kY kN
              have st13 := st10.same s12
              walk_at "gw"
              refine ⟨rfl, ?_⟩
              walk_at "gw"
              refine w_iteT rfl ?_
              walk_at "gw"
              refine ix_t (v := .int (k : Nat)) (s12 _ _ hbt) (atI_nat (j := 0) rfl) ?_
              refine ix_l (v := .ref kA) (sql_of st13.hk) (atI_nat (j := k) (by rw [List.getElem?_map, hkA]; rfl)) ?_
              walk_at "gw"
              refine ix_l (v := .int ((cN W (cs S) [k] j : Nat) : Int)) (sql_of (st13.ka k kA hkA)) (by rw [Int.zero_add]; exact atI_nat (j := j) (cV_get hj)) ?_
              walk_at "gw"
              refine ix_l (v := .int ((cN W (cs S) r (L - j) : Nat) : Int)) (sql_of (st13.ta r c0 hc0)) (by rw [show ((L : Nat) : Int) - (0 + ((j : Nat) : Int)) = ((L - j : Nat) : Int) by omega]; exact atI_nat (j := L - j) (rget (L - j) (by omega))) ?_
              exact times_w (cN_lt l6 (by omega)) (cN_lt l6 (by omega)) (kY rfl _ (Same.refl _))
            · intro D H12 hD s12 h5
              have st13 := st10.same s12
              have ri13 := ri10.same s12
              have hbt13 := s12 _ _ hbt
              have g13 := s12 _ _ g1
              have eSum : (((List.range (L + 1)).map fun j => ((((cN W (cs S) [k] j * cN W (cs S) r (L - j)) : Nat) : Int))).sum) = ((cN W (cs S) (k :: r) L : Nat) : Int) := by
                rw [sum_cast (f := fun j => cN W (cs S) [k] j * cN W (cs S) r (L - j)), cN_cons]
                rfl
              walk_at "gw"
              refine ⟨D, (List.range (L + 1)).map fun j => ((((cN W (cs S) [k] j * cN W (cs S) r (L - j)) : Nat) : Int)), rfl, sql_of (h5.trans ?_), ?_⟩
              · unfold given
                rw [List.filter_eq_self.mpr (fun _ _ => rfl), List.map_map]
                rfl
              rw [eSum]
              walk_at "gw"
              refine ⟨tl, rfl, .inr ⟨_, .inl g13⟩, ?_⟩
              walk_at "gw"
              refine ⟨Nat.zero_le _, fun z0 hz0 => ?_⟩
              have n1 := same_new (o := .lst []) hz0
              refine ⟨kv10, kR (k :: r), b, n1 _ _ g13, rfl, by rw [kR_rI]; exact n1 _ _ hbt13, ?_, fun v hv => ?_, fun hn => ?_⟩
              · have : (1 + if L = 0 then i else ts.length) ≤ 60001 := by split <;> omega
                omega
              · have et : ∃ a, E' (k :: r) = some a ∧ v = .ref a := by
                  rw [g3] at hv
                  cases e : E' (k :: r) with
                  | none => rw [e] at hv; cases hv
                  | some a => rw [e] at hv; exact ⟨a, rfl, (Option.some.inj hv).symm⟩
                obtain ⟨a, hE1, rfl⟩ := et
                have st14 := st13.same n1
                have ri14 := ri13.same n1
                have L0 : 0 < L := by
                  have h1 : (E' (k :: r)).isSome = true := by rw [hE1]; rfl
                  rcases (hE10 _).mp h1 with w | w | w
                  · cases w
                  · exact w.2
                  · exact absurd w tnI
                have bold := st14.ta _ _ hE1
                rw [if_neg (List.cons_ne_nil _ _), if_neg tnI] at bold
                have nar := ri14.nE _ _ hE1
                walk_at "gw"
                refine ⟨a, _, _, rfl, rfl, bold, by rw [cV_len]; omega, ?_⟩
                walk_at "gw"
                rw [← cV_snoc]
                have st15 := st14.sett (ys := cV W (cs S) (k :: r) (L + 1)) hE1
                refine ⟨_, _, _, _, _, _, E', rfl, (st15.capL (by rw [if_neg (by omega), if_neg (by omega)]; exact Nat.le_refl _)).ext (fun _ _ => rfl) (fun u b hu => ?_), ri14.upd bold (fun _ e => nomatch e) nar, fun u => ?_⟩
                · exact bstep u
                · rw [hE10 u, tkT, List.mem_append, List.mem_singleton]
                  constructor
                  · rintro (w | w | w)
                    · exact .inl w
                    · exact .inr (.inl w)
                    · exact .inr (.inr (.inl w))
                  · rintro (w | w | w | w)
                    · exact .inl w
                    · exact .inr (.inl w)
                    · exact .inr (.inr w)
                    · exact .inr (.inl ⟨by rw [w]; exact htm, L0⟩)
              · have eN : E' (k :: r) = none := by
                  rw [g3] at hn
                  cases e : E' (k :: r) with
                  | none => rfl
                  | some a => rw [e] at hn; cases hn
                have L0 : L = 0 := by
                  by_cases w : L = 0
                  · exact w
                  · exfalso
                    have := (hE10 (k :: r)).mpr (.inr (.inl ⟨htm, by omega⟩))
                    rw [eN] at this
                    cases this
                have st14 := st13.new hz0 eN g13
                have ri14 := ri13.same n1
                have z0r : z0 ≠ rp := fun e => by rw [e, ri13.hr] at hz0; cases hz0
                have tlr : tl ≠ rp := fun e => by rw [e, ri13.hr] at g13; cases g13
                have ri15 := ri14.upd (u := .dT (L2.putK kv10 (kR (k :: r)) (V.ref z0))) (n1 _ _ g13) (fun _ e => nomatch e) tlr
                have ez : (upd (upd H12 z0 (.lst [])) tl (.dT (L2.putK kv10 (kR (k :: r)) (V.ref z0)))) z0 = some (.lst []) := by
                  have h1 := st14.ta (k :: r) z0 (by rw [if_pos rfl])
                  rw [if_pos rfl] at h1
                  exact h1
                clear n1
                generalize upd (upd H12 z0 (.lst [])) tl (.dT (L2.putK kv10 (kR (k :: r)) (V.ref z0))) = H14 at st14 ri14 ri15 ez
                walk_at "gw"
                refine ⟨z0, _, _, rfl, rfl, ez, by show 0 < sizeLine; omega, ?_⟩
                walk_at "gw"
                have e1 : ([] : List V) ++ [V.int ((cN W (cs S) (k :: r) L : Nat) : Int)] = cV W (cs S) (k :: r) (L + 1) := by
                  rw [cV_snoc, L0]
                  rfl
                rw [e1]
                have st15 := st14.sett (t := k :: r) (ys := cV W (cs S) (k :: r) (L + 1)) (by rw [if_pos rfl])
                have ri16 := ri15.upd (u := .lst (cV W (cs S) (k :: r) (L + 1))) ez (fun _ e => nomatch e) z0r
                refine ⟨_, _, _, _, _, _, _, rfl, (st15.capL (by rw [if_pos L0, if_pos L0]; omega)).ext (fun _ _ => rfl) (fun u b hu => ?_), ⟨ri16.hr, ri16.pt, ri16.nk, fun u b hu => ?_⟩, fun u => ?_⟩
                · by_cases w : u = k :: r
                  · rw [if_pos w]
                    have := bstep u
                    rw [if_pos w] at this
                    exact this
                  · rw [if_neg w, if_neg w]
                    have := bstep u
                    rw [if_neg w] at this
                    exact this
                · by_cases w : u = k :: r
                  · rw [if_pos w] at hu
                    cases hu
                    exact z0r
                  · rw [if_neg w] at hu
                    exact ri13.nE u b hu
                · rw [tkT, List.mem_append, List.mem_singleton]
                  by_cases w : u = k :: r
                  · rw [if_pos w]
                    exact ⟨fun _ => .inr (.inr (.inr w)), fun _ => rfl⟩
                  · rw [if_neg w, hE10 u]
                    constructor
                    · rintro (w' | w' | w')
                      · exact .inl w'
                      · exact .inr (.inl w')
                      · exact .inr (.inr (.inl w'))
                    · rintro (w' | w' | w' | w')
                      · exact .inl w'
                      · exact .inr (.inl w')
                      · exact .inr (.inr w')
                      · exact absurd w' w
        · rintro σ H10 ⟨o6, o7, o8, o9, o10, o11, E', rfl, st10, ri10, hE10⟩
          unfold t_kind_counts_p1
          rw [lbr] at st10 hE10
          walk_at "gw"
          refine w_iseqL ?_
          walk_at "gw"
          refine e_ilist (sql_of st10.hk) ?_
          refine for_it walk_list (fun i σ H' => ∃ o6 o7 o8 o9 o10 o11, σ = [some (.ref x), some (.int (z : Nat)), some (.ref kp), some (.ref tl), some (.ref rp), some (.int (L : Nat)), o6, o7, o8, o9, o10, o11] ∧
            KSt H H' kp tl ks E' (1 + ts.length) (fun j => if j < i then cV W (cs S) [j] (L + 1) ++ [V.int 0] else cV W (cs S) [j] (L + 1)) (fun t => if t = [] then cV W (cs S) [] (z + 1) else cV W (cs S) t (L + 1)) ∧ RI H' rp bs ts ks E')
            ⟨_, _, _, _, _, _, rfl, (st10.capL (by split <;> omega)).ext (fun _ _ => by rw [if_neg (by omega)]) (fun t b hb => ?_), ri10⟩ (fun i σ H' _ e => (by obtain ⟨_, _, _, _, _, _, _, e, _⟩ := e; exact sql_of e.hk)) ?_ ?_
          · by_cases w : t = []
            · rw [if_pos w, if_pos w]
            · rw [if_neg w, if_neg w]
              have h1 : (E' t).isSome = true := by rw [hb]; rfl
              rw [List.take_length] at hE10
              rw [List.take_length]
              rcases (hE10 t).mp h1 with w' | w' | w'
              · exact absurd w' w
              · rw [if_pos w'.1]
              · rw [if_pos w']
          · rintro i y σ H11 H12 hi ⟨o6, o7, o8, o9, o10, o11, rfl, st11, ri11⟩ ⟨rfl, hy⟩
            obtain ⟨b, hb, rfl⟩ : ∃ b, ks[i]? = some b ∧ y = .ref b := by
              rw [List.getElem?_map] at hy
              obtain ⟨b, h1, h2⟩ := Option.map_eq_some_iff.mp hy
              exact ⟨b, h1, h2.symm⟩
            have bold := st11.ka i b hb
            rw [if_neg (Nat.lt_irrefl _)] at bold
            walk_at "gw"
            refine ⟨b, _, _, rfl, rfl, bold, by rw [cV_len]; omega, ?_⟩
            walk_at "gw"
            have nbr : b ≠ rp := fun e => ri11.nk (by rw [← e]; exact List.mem_of_getElem? hb)
            refine ⟨_, _, _, _, _, _, rfl, (st11.setk hb).ext (fun j hj => ?_) (fun _ _ _ => rfl), ri11.upd bold (fun _ e => nomatch e) nbr⟩
            by_cases w : j = i
            · rw [if_pos w, if_pos (by omega), w]
            · rw [if_neg w]
              by_cases w' : j < i
              · rw [if_pos w', if_pos (by omega)]
              · rw [if_neg w', if_neg (by omega)]
          · rintro σ H11 ⟨o6, o7, o8, o9, o10, o11, rfl, st11, ri11⟩
            refine ⟨_, _, _, _, _, _, _, E', rfl, (st11.capL (by rw [if_neg (by omega)]; exact Nat.le_refl _)).ext (fun j hj => ?_) (fun _ _ _ => rfl), ri11, fun t => ?_⟩
            · rw [List.length_map, if_pos hj]
            · rw [hE10 t, List.take_length]
              constructor
              · rintro (w | w | w)
                · exact .inl w
                · exact .inr ⟨w.1, by omega⟩
                · exact .inr ⟨w, by omega⟩
              · rintro (w | w)
                · exact .inl w
                · exact .inr (.inr w.1)
    · rintro σ H8 ⟨o5, o6, o7, o8, o9, o10, o11, E, rfl, st, ri, hE⟩
      unfold t_kind_counts_p3
      walk_at "gw"
      refine iseq_a rfl (.inl (sql_of st.hk)) fun J Gw wk hG => ?_
      rw [List.length_map, lks] at wk
      refine lc_pure wk [] (fun i acc G => ∃ rs : List Addr, acc = rs.map V.ref ∧ rs.length = i ∧ ∀ (j : Nat) a, rs[j]? = some a → H a = none ∧ G a = some (.lst (cV W (cs S) [j] (z + 1)))) InH.nil (fun G _ => ⟨[], rfl, rfl, fun _ _ h => by simp at h⟩) (fun i acc G G' e ⟨rs, h1, h2, h4⟩ => ⟨rs, h1, h2, fun j a ha => ⟨(h4 j a ha).1, e _ _ (h4 j a ha).2⟩⟩) (fun H' e => hG H' (Same.rds e)) (by omega) ?_ ?_
      · rintro D i acc y G1 G2 Nx hD hi s1 kn inn hd' ⟨rs, rfl, h2, h4⟩ ⟨rfl, hy⟩ kY kN
        obtain ⟨b, hb, rfl⟩ : ∃ b, ks[i]? = some b ∧ y = .ref b := by
          rw [List.getElem?_map] at hy
          obtain ⟨b, h1, h2⟩ := Option.map_eq_some_iff.mp hy
          exact ⟨b, h1, h2.symm⟩
        have st' := st.same s1
        walk_at "gw"
        refine ⟨rfl, ?_⟩
        walk_at "gw"
        refine w_iteT rfl ?_
        walk_at "gw"
        refine sl_l (sql_of (st'.ka i b hb)) fun l hl => ?_
        rw [show ((z : Nat) : Int) + 1 = ((z + 1 : Nat) : Int) by omega, cutV_take, List.take_left' cV_len]
        have n1 := same_new (o := .lst (cV W (cs S) [i] (z + 1))) hl
        have lD : l ≠ D := fun e => by rw [e, hd'] at hl; cases hl
        refine kY _ _ n1 ⟨rs ++ [l], by simp, by simp [h2], fun j a ha => ?_⟩
        rw [List.getElem?_append] at ha
        by_cases hj : j < rs.length
        · rw [if_pos hj] at ha
          exact ⟨(h4 j a ha).1, hid_same n1 _ _ (h4 j a ha).2⟩
        · rw [if_neg hj] at ha
          have ej : j = rs.length := by
            have := (List.getElem?_eq_some_iff.mp ha).1
            simp at this
            omega
          rw [ej, Nat.sub_self] at ha
          cases ha
          rw [ej, h2]
          refine ⟨same_free (fun b o e => s1 b o (st.sm b o e)) hl, ?_⟩
          rw [hid_at (by simpa using lD)]
          exact upd_same
      · rintro D acc G1 hD s1 inn kn hd' ⟨rs, rfl, h2, h4⟩ _
        refine q D rs _ (fun b o e => s1 b o (st.sm b o e)) (same_free st.sm hD) hd' h2 fun j a ha => ⟨(h4 j a ha).1, hid_sub _ _ (h4 j a ha).2⟩
end Pt.Re
namespace Pt.Re
/-! ### a counted core -/
structure CountedF (K : PySem.W.Frag) : Prop where
  c : ClsF K "Counted"
  na : ∀ f, f ∈ (["size", "kinds", "known"] : List Str) → NoAttr K (He.ga K "Counted") f
/-- x the counted core, kp its lists ks, d what is known -/
structure CnAt (K : PySem.W.Frag) (H : Hp) (x d kp : Addr) (ks : List Addr) (m : Nat) (W : Wys) (S : List Nat) (z cap : Nat) : Prop where
  F : CountedF K
  ins : ∃ dx fs, H x = some (.ins (He.ga K "Counted") dx fs) ∧ fs.lookup (Str.ofString "size") = some (.int (z : Nat)) ∧ fs.lookup (Str.ofString "kinds") = some (.ref kp) ∧ fs.lookup (Str.ofString "known") = some (.ref d) ∧ fs.lookup (Str.ofString "row") = none
  hk : H kp = some (.lst (ks.map V.ref))
  lk : ks.length = m
  ka : ∀ (j : Nat) a, ks[j]? = some a → H a = some (.lst (cV W S [j] (z + 1)))
  kn : ∃ kvs, H d = some (.dT kvs) ∧ kvs.length ≤ cap ∧ (∃ v, valV kvs (kR []) = some v) ∧ ∀ t v, valV kvs (kR t) = some v → ∃ a, v = .ref a ∧ H a = some (.lst (cV W S t (z + 1)))
  l6 : S.length ≤ 6
  z60 : z ≤ 60
theorem CnAt.same {K : PySem.W.Frag} {H H' : Hp} {x d kp : Addr} {ks : List Addr} {m : Nat} {W : Wys} {S : List Nat} {z cap : Nat} (h : CnAt K H x d kp ks m W S z cap) (e : Same H H') : CnAt K H' x d kp ks m W S z cap :=
  { h with
    ins := let ⟨dx, fs, h1, h2⟩ := h.ins; ⟨dx, fs, e _ _ h1, h2⟩
    hk := e _ _ h.hk
    ka := fun j a q => e _ _ (h.ka j a q)
    kn := let ⟨kvs, h1, h2, h3, h4⟩ := h.kn; ⟨kvs, e _ _ h1, h2, h3, fun t v q => let ⟨a, e1, e2⟩ := h4 t v q; ⟨a, e1, e _ _ e2⟩⟩ }
theorem CnAt.capL {K : PySem.W.Frag} {H : Hp} {x d kp : Addr} {ks : List Addr} {m : Nat} {W : Wys} {S : List Nat} {z cap cap' : Nat} (h : CnAt K H x d kp ks m W S z cap) (e : cap ≤ cap') : CnAt K H x d kp ks m W S z cap' :=
  { h with kn := let ⟨kvs, h1, h2, h3⟩ := h.kn; ⟨kvs, h1, Nat.le_trans h2 e, h3⟩ }
theorem CnAt.put {K : PySem.W.Frag} {H : Hp} {x d kp : Addr} {ks : List Addr} {m : Nat} {W : Wys} {S : List Nat} {z cap : Nat} {kvs : List (List L2.Key × V)} {t : List Nat} {b : Addr} (h : CnAt K H x d kp ks m W S z cap)
    (hd : H d = some (.dT kvs)) (hb : H b = some (.lst (cV W S t (z + 1)))) : CnAt K (upd H d (.dT (L2.putK kvs (kR t) (.ref b)))) x d kp ks m W S z (cap + 1) := by
  have nl : ∀ (a : Addr) (o : HO), H a = some o → (∀ q, o ≠ .dT q) → upd H d (.dT (L2.putK kvs (kR t) (.ref b))) a = some o := fun a o e n => by
    rw [upd_ne (fun q => by rw [q, hd] at e; exact n _ (Option.some.inj e).symm)]
    exact e
  refine { h with ins := ?_, hk := nl _ _ h.hk (fun _ e => nomatch e), ka := fun j a q => nl _ _ (h.ka j a q) (fun _ e => nomatch e), kn := ?_ }
  · obtain ⟨dx, fs, h1, h2⟩ := h.ins
    exact ⟨dx, fs, nl _ _ h1 (fun _ e => nomatch e), h2⟩
  · obtain ⟨kvs', h1, h2, ⟨v0, h3⟩, h4⟩ := h.kn
    rw [hd] at h1
    cases h1
    refine ⟨_, upd_same, ?_, ?_, fun u v e => ?_⟩
    · have := length_putK kvs (kR t) (V.ref b)
      omega
    · rw [valV_put]
      split
      · exact ⟨_, rfl⟩
      · exact ⟨v0, h3⟩
    · rw [valV_put] at e
      by_cases w : u = t
      · rw [if_pos (by rw [w])] at e
        cases e
        exact ⟨b, rfl, nl _ _ (by rw [w]; exact hb) (fun _ e => nomatch e)⟩
      · rw [if_neg (fun e => w (kR_inj e))] at e
        obtain ⟨a, e1, e2⟩ := h4 u v e
        exact ⟨a, e1, nl _ _ e2 (fun _ e => nomatch e)⟩
section
variable {K : PySem.W.Frag} {H : Hp} {x d kp : Addr} {ks : List Addr} {m : Nat} {W : Wys} {S : List Nat} {z cap : Nat} {P : V → Prop}
theorem CnAt.size (h : CnAt K H x d kp ks m W S z cap) (q : P (.int (z : Nat))) : ∃ b C dx fs v, V.ref x = .ref b ∧ H b = some (.ins C dx fs) ∧ Cls K C ∧ NoAttr K C "size" ∧ fs.lookup (Str.ofString "size") = some v ∧ P v := by
  obtain ⟨dx, fs, h1, h2, h3, h4, _⟩ := h.ins
  exact e_fld h1 h.F.c.cls (h.F.na _ (by simp)) h2 q
theorem CnAt.kinds (h : CnAt K H x d kp ks m W S z cap) (q : P (.ref kp)) : ∃ b C dx fs v, V.ref x = .ref b ∧ H b = some (.ins C dx fs) ∧ Cls K C ∧ NoAttr K C "kinds" ∧ fs.lookup (Str.ofString "kinds") = some v ∧ P v := by
  obtain ⟨dx, fs, h1, h2, h3, h4, _⟩ := h.ins
  exact e_fld h1 h.F.c.cls (h.F.na _ (by simp)) h3 q
theorem CnAt.known (h : CnAt K H x d kp ks m W S z cap) (q : P (.ref d)) : ∃ b C dx fs v, V.ref x = .ref b ∧ H b = some (.ins C dx fs) ∧ Cls K C ∧ NoAttr K C "known" ∧ fs.lookup (Str.ofString "known") = some v ∧ P v := by
  obtain ⟨dx, fs, h1, h2, h3, h4, _⟩ := h.ins
  exact e_fld h1 h.F.c.cls (h.F.na _ (by simp)) h4 q
end
def sp_Counted_init__ (K : PySem.W.Frag) : Sp := fun vs H Q _ => ∃ x dx c G S m W F, ∃ (z : Nat), vs = [.ref x, .ref c, .int (z : Nat)] ∧ CountedF K ∧ CW K G c S m W F ∧ HOK W ∧ z ≤ 60 ∧ Same G H ∧ G x = none ∧ H x = some (.ins (He.ga K "Counted") dx []) ∧
  ∀ H' d kp ks, Same G H' → G d = none → CnAt K H' x d kp ks m W (cs S) z 1 → Q .non H'
def sp_Counted_row (K : PySem.W.Frag) : Sp := fun vs H Q _ => ∃ x d kp ks m W S a r, ∃ (z cap : Nat), vs = [.ref x, .ref a] ∧ CnAt K H x d kp ks m W S z cap ∧ cap ≤ 900000 ∧ SqT K H a (rI r) ∧ r.length ≤ 100000 ∧ InC m r ∧
  ∀ p H', Frm [d] H H' → CnAt K H' x d kp ks m W S z (cap + 60) → H' p = some (.lst (cV W S r (z + 1))) → Q (.ref p) H'
def sp_count (K : PySem.W.Frag) : Sp := fun vs H Q _ => ∃ c S m W F a r, ∃ (L : Nat), vs = [.ref c, .ref a, .int (L : Nat)] ∧ CountedF K ∧ CW K H c S m W F ∧ HOK W ∧ SqA K H a (rI r) ∧ r.length ≤ 60 ∧ InC m r ∧ L ≤ 60 ∧
  ∀ H', Same H H' → Q (.int (cN W (cs S) r L : Nat)) H'
abbrev n_Counted_init__ : List Str := ["self", "core", "size"]
def t_Counted_init__ (K : PySem.W.Frag) : TS :=
  tSeq (sFld K (tVar 0) (tVar 2) "size") (tSeq (sFld K (tVar 0) (tOwn (sp_kind_counts K) (tCons (tVar 1) (tCons (tVar 2) (tNil)))) "kinds") (sFld K (tVar 0) (tDisp1T (tTup (tNil)) (tOp (rPlus K) (tLst (tCons (tC (.int 1)) (tNil))) (tOp rTimes (tLst (tCons (tC (.int 0)) (tNil))) (tVar 2)))) "known"))
abbrev n_Counted_row : List Str := ["self", "row", "at", "one", "rest", "n", "k"]
def t_Counted_row_p1 (K : PySem.W.Frag) : TS :=
  tRet (tOp (rIxU K) (tFld K (tVar 0) "known") (tVar 1))
def t_Counted_row (K : PySem.W.Frag) : TS :=
  tSeq (tIfS (tTest (tOp rGtI (tCB (cLen K) (tCons (tVar 1) (tNil))) (tFld K (tVar 0) "size"))) (tRet (tOp rTimes (tLst (tCons (tC (.int 0)) (tNil))) (tOp (rPlus K) (tFld K (tVar 0) "size") (tC (.int 1))))) (tNext)) (tSeq (tFor (iSeq K (tRev K (tLstRg (tRg1 (tCB (cLen K) (tCons (tVar 1) (tNil))))))) (gName 2) (tIfS (tTest (tOp (rNotInU K) (tSl (rSlU K) (tVar 1) (tPart (tVar 2)) (tNoPart)) (tFld K (tVar 0) "known"))) (tSeq (tAsg (tTup (tCons (tOp (rIxU K) (tFld K (tVar 0) "kinds") (tOp (rIxU K) (tVar 1) (tVar 2))) (tCons (tOp (rIxU K) (tFld K (tVar 0) "known") (tSl (rSlU K) (tVar 1) (tPart (tOp (rPlus K) (tVar 2) (tC (.int 1)))) (tNoPart))) (tNil)))) (gTup K 2 (gCons (gName 3) (gCons (gName 4) (gNil))))) (tAsg (tLc (iRng1 (tCons (tOp (rPlus K) (tFld K (tVar 0) "size") (tC (.int 1))) (tNil))) (gName 5) (tYes) (tCB (rSum K) (tCons (tLc (iRng1 (tCons (tOp (rPlus K) (tVar 5) (tC (.int 1))) (tNil))) (gName 6) (tYes) (tOp rTimes (tOp (rIxU K) (tVar 3) (tVar 6)) (tOp (rIxU K) (tVar 4) (tOp rMinus (tVar 5) (tVar 6)))) [6]) (tNil))) [5]) (gSub (tFld K (tVar 0) "known") (tSl (rSlU K) (tVar 1) (tPart (tVar 2)) (tNoPart)) rSetU))) (tNext))) (t_Counted_row_p1 K))
abbrev n_count : List Str := ["core", "row", "length", "plain"]
def t_count (K : PySem.W.Frag) : TS :=
  tSeq (tAsg (tOwn (sp_need_row K) (tCons (tVar 0) (tCons (tVar 1) (tNil)))) (gName 3)) (tRet (tOp (rIxU K) (tMeO (He.ga K "Counted") "row" (sp_Counted_row K) (tMk (He.ga K "Counted") (sp_Counted_init__ K) (tCons (tVar 0) (tCons (tOwn (sp_need_length K) (tCons (tVar 2) (tCons (tC (.int 60)) (tNil)))) (tNil)))) (tCons (tVar 3) (tNil))) (tVar 2)))
theorem cN_short {W : Wys} {S : List Nat} : ∀ {r : List Nat} {n : Nat}, n < r.length → cN W S r n = 0
  | [], n, h => absurd h (by simp)
  | k :: r, n, h => by
    rw [cN_cons]
    unfold cnv
    refine sum_zero fun a ha => ?_
    have h1 := List.mem_range.mp ha
    cases a with
    | zero => rw [cN_zero, Nat.zero_mul]
    | succ a =>
      rw [cN_short (r := r) (n := n - (a + 1)) (by simp at h; omega), Nat.mul_zero]
theorem cV_short {W : Wys} {S : List Nat} {r : List Nat} {z : Nat} (h : z < r.length) : cV W S r (z + 1) = (List.replicate (z + 1) [V.int 0]).flatten := by
  have h1 : cV W S r (z + 1) = (List.range (z + 1)).map fun _ => V.int 0 := List.map_congr_left fun i hi => by
    have := List.mem_range.mp hi
    rw [cN_short (by omega)]
    rfl
  rw [h1]
  generalize z + 1 = n
  have h2 : ∀ l : List Nat, l.map (fun _ => V.int 0) = (List.replicate l.length [V.int 0]).flatten := by
    intro l
    induction l with
    | nil => rfl
    | cons x l ih =>
      rw [List.map_cons, ih, List.length_cons, List.replicate_succ, List.flatten_cons]
      rfl
  have h3 := h2 (List.range n)
  rw [List.length_range] at h3
  exact h3
theorem pure_Counted_init__ {K : PySem.W.Frag} (vs : List V) (H : Hp) (Q : VK) (E : XK) (h : sp_Counted_init__ K vs H Q E) : t_Counted_init__ K { nx := fun _ H' => Q .non H', rt := Q } (start n_Counted_init__ vs) H := by
  obtain ⟨x, dx, c, G, S, m, W, F, z, rfl, CF, cw, hok, hz, sG, gx, hx, q⟩ := h
  have sl : 1000000 ≤ sizeLine := by decide
  have l6 : (cs S).length ≤ 6 := by have := cw.w.len; rw [size_cs] at this; exact this
  unfold t_Counted_init__
  walk_at "gw"
  refine ⟨x, _, dx, [], rfl, hx, CF.c.cls, CF.na _ (by simp), by show 0 < 1000; decide, ?_⟩
  obtain ⟨fs1, ef1⟩ : ∃ w, w = putF "size" (.int (z : Nat)) [] := ⟨_, rfl⟩
  have ls1 : fs1.lookup (Str.ofString "size") = some (.int (z : Nat)) := by rw [ef1, lookup_putF, if_pos rfl]
  have lr1 : fs1.lookup (Str.ofString "row") = none := by rw [ef1, lookup_putF, if_neg (by decide)]; rfl
  have ln1 : fs1.length ≤ 1 := by rw [ef1]; exact length_putF _ _ _
  rw [← ef1]
  clear ef1
  have s4 : Same G (upd H x (.ins (He.ga K "Counted") dx fs1)) := same_updN gx sG
  have h4 : upd H x (.ins (He.ga K "Counted") dx fs1) x = some (.ins (He.ga K "Counted") dx fs1) := upd_same
  generalize upd H x (.ins (He.ga K "Counted") dx fs1) = H4 at s4 h4
  walk_at "gw"
  refine ⟨c, S, m, W, F, z, rfl, cw.same s4, hok, hz, fun p rs H5 s5 hp hp5 lrs hrs => ?_⟩
  walk_at "gw"
  refine ⟨x, _, dx, fs1, rfl, s5 _ _ h4, CF.c.cls, CF.na _ (by simp), by omega, ?_⟩
  have px : p ≠ x := fun e => by rw [e, h4] at hp; cases hp
  have rx : ∀ (j : Nat) a, rs[j]? = some a → a ≠ x := fun j a ha e => by have := (hrs j a ha).1; rw [e, h4] at this; cases this
  obtain ⟨fs2, ef2⟩ : ∃ w, w = putF "kinds" (.ref p) fs1 := ⟨_, rfl⟩
  have ls2 : fs2.lookup (Str.ofString "size") = some (.int (z : Nat)) := by rw [ef2, lookup_putF, if_neg (by decide)]; exact ls1
  have lr2 : fs2.lookup (Str.ofString "row") = none := by rw [ef2, lookup_putF, if_neg (by decide)]; exact lr1
  have lk2 : fs2.lookup (Str.ofString "kinds") = some (.ref p) := by rw [ef2, lookup_putF, if_pos rfl]
  have ln2 : fs2.length ≤ 2 := by have := length_putF "kinds" (.ref p) fs1; rw [ef2]; omega
  rw [← ef2]
  clear ef2
  have s6 : Same G (upd H5 x (.ins (He.ga K "Counted") dx fs2)) := same_updN gx fun b o e => s5 b o (s4 b o e)
  have h6 : upd H5 x (.ins (He.ga K "Counted") dx fs2) x = some (.ins (He.ga K "Counted") dx fs2) := upd_same
  have hp6 : upd H5 x (.ins (He.ga K "Counted") dx fs2) p = some (.lst (rs.map V.ref)) := by rw [upd_ne px]; exact hp5
  have hr6 : ∀ (j : Nat) a, rs[j]? = some a → upd H5 x (.ins (He.ga K "Counted") dx fs2) a = some (.lst (cV W (cs S) [j] (z + 1))) := fun j a ha => by rw [upd_ne (rx j a ha)]; exact (hrs j a ha).2
  generalize upd H5 x (.ins (He.ga K "Counted") dx fs2) = H6 at s6 h6 hp6 hr6
  clear s5 hp hp5 hrs h4 s4 H4 H5
  walk_at "gw"
  intro tl htl
  have e2 : upd H6 tl (.dT []) tl = some (.dT []) := upd_same
  have n2 := same_new (o := .dT []) htl
  have tx : tl ≠ x := fun e => by rw [e, h6] at htl; cases htl
  have tp : tl ≠ p := fun e => by rw [e, hp6] at htl; cases htl
  have tr : ∀ (j : Nat) a, rs[j]? = some a → a ≠ tl := fun j a ha e => by have := hr6 j a ha; rw [e, htl] at this; cases this
  have tG : G tl = none := same_free s6 htl
  replace s6 : Same G (upd H6 tl (.dT [])) := fun b o e => n2 b o (s6 b o e)
  replace h6 := n2 _ _ h6
  replace hp6 := n2 _ _ hp6
  replace hr6 : ∀ (j : Nat) a, rs[j]? = some a → upd H6 tl (.dT []) a = some (.lst (cV W (cs S) [j] (z + 1))) := fun j a ha => n2 _ _ (hr6 j a ha)
  generalize upd H6 tl (.dT []) = H7 at e2 s6 h6 hp6 hr6
  clear n2 htl
  walk_at "gw"
  refine ⟨Nat.zero_le _, fun p0 hp0 => ?_⟩
  have n3 := same_new (o := .tup []) hp0
  have e3 : upd H7 p0 (.tup []) p0 = some (.tup ((kR []).map kV)) := upd_same
  replace e2 := n3 _ _ e2
  replace s6 : Same G (upd H7 p0 (.tup [])) := fun b o e => n3 b o (s6 b o e)
  replace h6 := n3 _ _ h6
  replace hp6 := n3 _ _ hp6
  replace hr6 : ∀ (j : Nat) a, rs[j]? = some a → upd H7 p0 (.tup []) a = some (.lst (cV W (cs S) [j] (z + 1))) := fun j a ha => n3 _ _ (hr6 j a ha)
  generalize upd H7 p0 (.tup []) = H8 at e2 s6 h6 hp6 hr6 e3
  clear n3 hp0
  walk_at "gw"
  refine ⟨by show 1 ≤ sizeLine; omega, fun l1 hl1 => ?_⟩
  have n4 := same_new (o := .lst [V.int 1]) hl1
  walk_at "gw"
  refine ⟨by show 1 ≤ sizeLine; omega, fun l2 hl2 => ?_⟩
  have n5 := same_new (o := .lst [V.int 0]) hl2
  walk_at "gw"
  refine .inr (.inr ⟨l2, _, _, rfl, rfl, upd_same, by omega, by omega, ?_, fun l3 hl3 => ?_⟩)
  · rw [show ((z : Nat) : Int).toNat = z by omega]
    show 1 * z ≤ _
    omega
  rw [show ((z : Nat) : Int).toNat = z by omega] at *
  have n6 := same_new (o := .lst (List.replicate z [V.int 0]).flatten) hl3
  refine plus_l (n6 _ _ (n5 _ _ upd_same)) upd_same ?_ fun a0 ha0 => ?_
  · simp
    omega
  have n7 := same_new (o := .lst ([V.int 1] ++ (List.replicate z [V.int 0]).flatten)) ha0
  have s37 : Same H8 (upd (upd (upd (upd H8 l1 (.lst [V.int 1])) l2 (.lst [V.int 0])) l3 (.lst (List.replicate z [V.int 0]).flatten)) a0 (.lst ([V.int 1] ++ (List.replicate z [V.int 0]).flatten))) := fun b o e => n7 b o (n6 b o (n5 b o (n4 b o e)))
  have e7 : upd (upd (upd (upd H8 l1 (.lst [V.int 1])) l2 (.lst [V.int 0])) l3 (.lst (List.replicate z [V.int 0]).flatten)) a0 (.lst ([V.int 1] ++ (List.replicate z [V.int 0]).flatten)) a0 = some (.lst (cV W (cs S) [] (z + 1))) := by rw [upd_same, cV_nil]
  have a0N : H8 a0 = none := same_free (fun b o e => n6 b o (n5 b o (n4 b o e))) ha0
  generalize upd (upd (upd (upd H8 l1 (.lst [V.int 1])) l2 (.lst [V.int 0])) l3 (.lst (List.replicate z [V.int 0]).flatten)) a0 (.lst ([V.int 1] ++ (List.replicate z [V.int 0]).flatten)) = H9 at s37 e7
  clear n4 n5 n6 n7 hl1 hl2 hl3 ha0
  refine ⟨p0, kR [], rfl, s37 _ _ e2, s37 _ _ e3, ?_⟩
  have a0t : a0 ≠ tl := fun e => by rw [e, e2] at a0N; cases a0N
  have sX : Same G (upd H9 tl (.dT [(kR [], V.ref a0)])) := same_updN tG fun b o e => s37 b o (s6 b o e)
  have hxX : upd H9 tl (.dT [(kR [], V.ref a0)]) x = some (.ins (He.ga K "Counted") dx fs2) := by rw [upd_ne (Ne.symm tx)]; exact s37 _ _ h6
  have hpX : upd H9 tl (.dT [(kR [], V.ref a0)]) p = some (.lst (rs.map V.ref)) := by rw [upd_ne (Ne.symm tp)]; exact s37 _ _ hp6
  have hrX : ∀ (j : Nat) a, rs[j]? = some a → upd H9 tl (.dT [(kR [], V.ref a0)]) a = some (.lst (cV W (cs S) [j] (z + 1))) := fun j a ha => by rw [upd_ne (tr j a ha)]; exact s37 _ _ (hr6 j a ha)
  have htX : upd H9 tl (.dT [(kR [], V.ref a0)]) tl = some (.dT [(kR [], V.ref a0)]) := upd_same
  have haX : upd H9 tl (.dT [(kR [], V.ref a0)]) a0 = some (.lst (cV W (cs S) [] (z + 1))) := by rw [upd_ne a0t]; exact e7
  generalize upd H9 tl (.dT [(kR [], V.ref a0)]) = H10 at sX hxX hpX hrX htX haX
  walk_at "gw"
  refine ⟨x, _, dx, fs2, rfl, hxX, CF.c.cls, CF.na _ (by simp), by omega, ?_⟩
  have kx : ∀ {b : Addr} {o : HO}, H10 b = some o → (∀ C dx fs, o ≠ .ins C dx fs) → upd H10 x (.ins (He.ga K "Counted") dx (putF "known" (.ref tl) fs2)) b = some o := fun {b o} e n => by
    rw [upd_ne (fun w => by rw [w, hxX] at e; exact n _ _ _ (Option.some.inj e).symm)]
    exact e
  refine q _ tl p rs (same_updN gx sX) tG ⟨CF, ⟨dx, _, upd_same, ?_, ?_, ?_, ?_⟩, kx hpX (fun _ _ _ e => nomatch e), lrs, fun j a ha => kx (hrX j a ha) (fun _ _ _ e => nomatch e), ⟨_, kx htX (fun _ _ _ e => nomatch e), by simp, ⟨_, valV_pos rfl⟩, fun t v e => ?_⟩, l6, hz⟩
  · rw [lookup_putF, if_neg (by decide)]; exact ls2
  · rw [lookup_putF, if_neg (by decide)]; exact lk2
  · rw [lookup_putF, if_pos rfl]
  · rw [lookup_putF, if_neg (by decide)]; exact lr2
  · by_cases w : t = []
    · rw [w] at e ⊢
      rw [valV_pos rfl] at e
      cases e
      exact ⟨a0, rfl, kx haX (fun _ _ _ e => nomatch e)⟩
    · rw [valV_neg (fun e => w (kR_inj e.symm))] at e
      cases e
theorem pure_count {K : PySem.W.Frag} (vs : List V) (H : Hp) (Q : VK) (E : XK) (h : sp_count K vs H Q E) : t_count K { nx := fun _ H' => Q .non H', rt := Q } (start n_count vs) H := by
  obtain ⟨c, S, m, W, F, a, r, L, rfl, CF, cw, hok, hs, hl, hk, hL, q⟩ := h
  unfold t_count
  walk_at "gw"
  refine ⟨c, S, m, W, F, a, r, rfl, cw, hs, hl, hk, fun p H1 s1 hp => ?_⟩
  walk_at "gw"
  refine ⟨L, 60, rfl, hL, fun H2 s2 => ?_⟩
  walk_at "gw"
  intro x dx hx hdx ndx
  have s02 : Same H H2 := fun b o e => s2 b o (s1 b o e)
  have n3 : Same H2 (upd (upd H2 dx (.own x)) x (.ins (He.ga K "Counted") dx [])) := fun b o e => by
    rw [upd_ne (ne_of_none e hx), upd_ne (ne_of_none e hdx)]
    exact e
  refine ⟨x, dx, c, H2, S, m, W, F, L, rfl, CF, cw.same s02, hok, hL, n3, hx, upd_same, fun H3 d kp ks s3 hd cn => ⟨rfl, ?_⟩⟩
  obtain ⟨dx3, fs3, i1, i2, i3, i4, i5⟩ := cn.ins
  refine ⟨x, dx3, fs3, rfl, i1, i5, ?_⟩
  walk_at "gw"
  have hp3 : SqT K H3 p (rI r) := s3 _ _ (s2 _ _ hp)
  refine ⟨x, d, kp, ks, m, W, cs S, p, r, L, 1, rfl, cn, by omega, hp3, by omega, hk, fun l H4 f4 cn4 hl4 => ?_⟩
  walk_at "gw"
  refine ix_l (v := .int (cN W (cs S) r L : Nat)) (sql_of hl4) (atI_nat (j := L) (cV_get (by omega))) ?_
  refine q H4 fun b o e => f4.at_ b o ?_ (s3 b o (s02 b o e))
  intro hm
  rw [List.mem_singleton.mp hm] at e
  have := s02 _ _ e
  rw [hd] at this
  cases this
end Pt.Re
namespace Pt.Re
def Kn (H : Hp) (d : Addr) (t : List Nat) : Prop := ∃ kvs v, H d = some (.dT kvs) ∧ valV kvs (kR t) = some v
theorem rI_drop (r : List Nat) (i : Nat) : (rI r).drop i = rI (r.drop i) := by
  unfold rI
  rw [List.map_drop]
theorem pure_Counted_row {K : PySem.W.Frag} (vs : List V) (H : Hp) (Q : VK) (E : XK) (h : sp_Counted_row K vs H Q E) : t_Counted_row K { nx := fun _ H' => Q .non H', rt := Q } (start n_Counted_row vs) H := by
  obtain ⟨x, d, kp, ks, m, W, S, a, r, z, cap, rfl, cn, hc, hs, hl, hk, q⟩ := h
  have sl : 1000000 ≤ sizeLine := by decide
  have z60 := cn.z60
  have hn0 : H d ≠ none := fun e => by
    obtain ⟨_, h1, _⟩ := cn.kn
    rw [e] at h1; cases h1
  unfold t_Counted_row
  walk_at "gw"
  rw [rI_len]
  refine cn.size ?_
  walk_at "gw"
  refine w_ite (fun e => ?_) (fun e => ?_)
  · have hz := of_decide_eq_true e
    walk_at "gw"
    refine ⟨by show 1 ≤ sizeLine; omega, fun l2 hl2 => ?_⟩
    have n5 := same_new (o := .lst [V.int 0]) hl2
    walk_at "gw"
    refine (cn.same n5).size ?_
    walk_at "gw"
    refine .inr (.inr ⟨l2, _, _, rfl, rfl, upd_same, by omega, by omega, ?_, fun l3 hl3 => ?_⟩)
    · rw [show (((z : Nat) : Int) + 1).toNat = z + 1 by omega]
      show 1 * (z + 1) ≤ _
      omega
    rw [show (((z : Nat) : Int) + 1).toNat = z + 1 by omega, ← cV_short (W := W) (S := S) (r := r) (by omega)]
    have n6 : Same H (upd (upd H l2 (.lst [V.int 0])) l3 (.lst (cV W S r (z + 1)))) := fun b o e => same_new hl3 b o (n5 b o e)
    exact q l3 _ (Same.frm n6) ((cn.same n6).capL (by omega)) upd_same
  · have hz : r.length ≤ z := by have := of_decide_eq_false e; omega
    walk_at "gw"
    refine w_iseqL ?_
    refine w_revL ?_
    walk_at "gw"
    rw [rI_len]
    refine ⟨⟨by omega, by omega, by omega, by omega, by omega⟩, fun l0 hl0 => ?_⟩
    refine ⟨l0, _, rfl, sql_of upd_same, fun l1 hl1 => ?_⟩
    have s0 := same_new (o := .lst (rgV 0 ((r.length : Nat) : Int))) hl0
    rw [rgV_rI, rI_rev]
    have s1 : Same H (upd (upd H l0 (.lst (rgV 0 ((r.length : Nat) : Int)))) l1 (.lst (rI (List.range r.length).reverse))) := fun b o e => same_new hl1 b o (s0 b o e)
    rw [rgV_rI] at s1
    have e1 : upd (upd H l0 (.lst (rI (List.range r.length)))) l1 (.lst (rI (List.range r.length).reverse)) l1 = some (.lst (rI (List.range r.length).reverse)) := upd_same
    rw [rgV_rI] at hl1
    have l1d : l1 ≠ d := fun e => hn0 (by rw [← e]; exact same_free (same_new hl0) hl1)
    generalize upd (upd H l0 (.lst (rI (List.range r.length)))) l1 (.lst (rI (List.range r.length).reverse)) = H1 at s1 e1
    clear s0 hl0 hl1
    have cn1 := cn.same s1
    refine e_ilist (sql_of e1) ?_
    refine for_it walk_list (fun i σ H' => ∃ o2 o3 o4 o5 o6, σ = [some (.ref x), some (.ref a), o2, o3, o4, o5, o6] ∧ Frm [d] H H' ∧ CnAt K H' x d kp ks m W S z (cap + i) ∧ H' l1 = some (.lst (rI (List.range r.length).reverse)) ∧ SqT K H' a (rI r) ∧ Kn H' d (r.drop (r.length - i)))
      ⟨_, _, _, _, _, rfl, Same.frm s1, cn1, e1, s1 _ _ hs, ?_⟩ (fun i σ H' _ e => (by obtain ⟨_, _, _, _, _, _, _, _, e, _⟩ := e; exact sql_of e)) ?_ ?_
    · obtain ⟨kvs, k1, k2, ⟨v, k3⟩, k4⟩ := cn1.kn
      exact ⟨kvs, v, k1, by rw [Nat.sub_zero, List.drop_length]; exact k3⟩
    · rintro i y σ H2 H3 hi ⟨o2, o3, o4, o5, o6, rfl, f2, cn2, e2, hs2, kn2⟩ ⟨rfl, hy⟩
      rw [rI_len, List.length_reverse, List.length_range] at hi
      obtain ⟨j, hj⟩ : ∃ j, j = r.length - 1 - i := ⟨_, rfl⟩
      have hy2 : y = .int (j : Nat) := by
        obtain ⟨k, k1, k2⟩ := rI_get hy
        rw [k2]
        rw [List.getElem?_reverse (by rw [List.length_range]; exact hi), List.length_range, List.getElem?_range (by omega)] at k1
        rw [← Option.some.inj k1, hj]
      subst hy2
      have jr : j < r.length := by omega
      have dj : r.drop j = r[j] :: r.drop (j + 1) := List.drop_eq_getElem_cons jr
      have dj1 : r.length - i = j + 1 := by omega
      have dj2 : r.length - (i + 1) = j := by omega
      rw [dj1] at kn2
      have kj : r[j] < m := hk _ (List.getElem_mem jr)
      walk_at "gw"
      refine sl_from hs2 fun p1 H4 s4 hp1 => ?_
      rw [rI_drop] at hp1
      replace cn2 := cn2.same s4
      replace f2 := f2.trans (Same.frm s4)
      replace e2 := s4 _ _ e2
      replace hs2 := s4 _ _ hs2
      replace kn2 : Kn H4 d (r.drop (j + 1)) := let ⟨kvs, v, k1, k2⟩ := kn2; ⟨kvs, v, s4 _ _ k1, k2⟩
      clear s4
      walk_at "gw"
      refine cn2.known ?_
      obtain ⟨kvs, k1, k2, k3, k4⟩ := cn2.kn
      refine notin_d (o := valV kvs (kR (r.drop j))) (.inr ⟨kvs, kR (r.drop j), p1, .inl k1, rfl, by rw [kR_rI]; exact hp1, rfl⟩) ?_
      walk_at "gw"
      cases ek : valV kvs (kR (r.drop j)) with
      | some v =>
        refine w_iteF rfl ?_
        walk_at "gw"
        exact ⟨_, _, _, _, _, rfl, f2, cn2.capL (by omega), e2, hs2, ⟨kvs, v, k1, by rw [dj2]; exact ek⟩⟩
      | none =>
        refine w_iteT rfl ?_
        walk_at "gw"
        refine cn2.kinds ?_
        walk_at "gw"
        refine ix_t (v := .int (r[j] : Nat)) hs2 (atI_nat (j := j) (by rw [rI, List.getElem?_map, List.getElem?_eq_getElem jr]; rfl)) ?_
        obtain ⟨kA, hkA⟩ : ∃ b, ks[r[j]]? = some b := ⟨ks[r[j]]'(by rw [cn2.lk]; exact kj), List.getElem?_eq_getElem _⟩
        refine ix_l (v := .ref kA) (sql_of cn2.hk) (atI_nat (j := r[j]) (by rw [List.getElem?_map, hkA]; rfl)) ?_
        walk_at "gw"
        refine cn2.known ?_
        walk_at "gw"
        rw [show ((j : Nat) : Int) + 1 = ((j + 1 : Nat) : Int) by omega]
        refine sl_from hs2 fun p2 H5 s5 hp2 => ?_
        rw [rI_drop] at hp2
        obtain ⟨kv2, v, g1, g2⟩ := kn2
        rw [k1] at g1
        cases g1
        obtain ⟨c0, rfl, hc0⟩ := k4 _ _ g2
        replace hc0 := s5 _ _ hc0
        replace cn2 := cn2.same s5
        replace f2 := f2.trans (Same.frm s5)
        replace e2 := s5 _ _ e2
        replace hs2 := s5 _ _ hs2
        replace k1 := s5 _ _ k1
        clear s5 hp1 k4
        refine ix_d (v := .ref c0) (.inr ⟨kvs, kR (r.drop (j + 1)), p2, .inl k1, rfl, by rw [kR_rI]; exact hp2, g2.symm⟩) ?_
        walk_at "gw"
        refine ⟨by show 2 ≤ sizeLine; omega, fun p3 hp3 => ?_⟩
        have s6 := same_new (o := .tup [V.ref kA, V.ref c0]) hp3
        refine w_gtup (sqt_of upd_same) rfl ?_
        replace hc0 := s6 _ _ hc0
        replace cn2 := cn2.same s6
        replace f2 := f2.trans (Same.frm s6)
        replace e2 := s6 _ _ e2
        replace hs2 := s6 _ _ hs2
        replace k1 := s6 _ _ k1
        generalize upd H5 p3 (.tup [V.ref kA, V.ref c0]) = H6 at hc0 cn2 f2 e2 hs2 k1
        clear s6 hp3 hp2 H5
        show gCons (gName 3) (gCons (gName 4) gNil) [V.ref kA, V.ref c0] _ _ _
        walk_at "gw"
        refine cn2.size ?_
        walk_at "gw"
        refine e_rng (by omega) (by omega) ?_
        rw [show ((z : Nat) : Int) + 1 = ((z + 1 : Nat) : Int) by omega, show ((z + 1 : Nat) : Int).toNat = z + 1 by omega]
        refine lc_im (walk_range (lo := 0) (n := z + 1)) (fun _ => true) (fun n => .int ((cN W S (r.drop j) n : Nat) : Int)) (by omega) (fun _ _ _ _ => True.intro) ?_ ?_
        · rintro n y H7 H8 KY KN hn s7 ⟨rfl, rfl⟩ kY kN
          have cn7 := cn2.same s7
          have hc7 := s7 _ _ hc0
          walk_at "gw"
          refine ⟨rfl, ?_⟩
          walk_at "gw"
          refine w_iteT rfl ?_
          walk_at "gw"
          refine e_rng (by omega) (by omega) ?_
          rw [show (0 : Int) + ((n : Nat) : Int) + 1 = ((n + 1 : Nat) : Int) by omega, show ((n + 1 : Nat) : Int).toNat = n + 1 by omega]
          refine lc_im (walk_range (lo := 0) (n := n + 1)) (fun _ => true) (fun k => .int (((cN W S [r[j]] k * cN W S (r.drop (j + 1)) (n - k)) : Nat) : Int)) (by omega) (fun _ _ _ _ => True.intro) ?_ ?_
          · rintro k y H9 H10 KY2 KN2 hk2 s9 ⟨rfl, rfl⟩ kY2 kN2
            have cn9 := cn7.same s9
            walk_at "gw"
            refine ⟨rfl, ?_⟩
            walk_at "gw"
            refine w_iteT rfl ?_
            walk_at "gw"
            refine ix_l (v := .int ((cN W S [r[j]] k : Nat) : Int)) (sql_of (cn9.ka _ kA hkA)) (by rw [Int.zero_add]; exact atI_nat (j := k) (cV_get (by omega))) ?_
            walk_at "gw"
            refine ix_l (v := .int ((cN W S (r.drop (j + 1)) (n - k) : Nat) : Int)) (sql_of (s9 _ _ hc7)) (by rw [show (0 : Int) + ((n : Nat) : Int) - (0 + ((k : Nat) : Int)) = ((n - k : Nat) : Int) by omega]; exact atI_nat (j := n - k) (cV_get (by omega))) ?_
            exact times_w (cN_lt cn2.l6 (by omega)) (cN_lt cn2.l6 (by omega)) (kY2 rfl _ (Same.refl _))
          · intro D H9 hD s9 h5
            have eSum : (((List.range (n + 1)).map fun k => ((((cN W S [r[j]] k * cN W S (r.drop (j + 1)) (n - k)) : Nat) : Int))).sum) = ((cN W S (r.drop j) n : Nat) : Int) := by
              rw [sum_cast (f := fun k => cN W S [r[j]] k * cN W S (r.drop (j + 1)) (n - k)), dj, cN_cons]
              rfl
            refine ⟨D, (List.range (n + 1)).map fun k => ((((cN W S [r[j]] k * cN W S (r.drop (j + 1)) (n - k)) : Nat) : Int)), rfl, sql_of (h5.trans ?_), ?_⟩
            · unfold given
              rw [List.filter_eq_self.mpr (fun _ _ => rfl), List.map_map]
              rfl
            rw [eSum]
            exact kY rfl _ s9
        · intro D H7 hD s7 h5
          have cn7 := cn2.same s7
          have hD6 : H7 D = some (.lst (cV W S (r.drop j) (z + 1))) := h5.trans (by
            unfold given cV
            rw [List.filter_eq_self.mpr (fun _ _ => rfl)])
          walk_at "gw"
          refine cn7.known ?_
          walk_at "gw"
          refine sl_from (s7 _ _ hs2) fun p4 H8 s8 hp4 => ?_
          rw [rI_drop] at hp4
          refine set_d (DPut.t (k := kR (r.drop j)) (s8 _ _ (s7 _ _ k1)) (by rw [kR_rI]; exact hp4) (by omega)) ?_
          walk_at "gw"
          have cn8 := (cn7.same s8).put (t := r.drop j) (b := D) (s8 _ _ (s7 _ _ k1)) (s8 _ _ hD6)
          have s78 : Same H6 H8 := fun b o e => s8 b o (s7 b o e)
          have ad : a ≠ d := fun e => by have := s78 _ _ hs2; rw [e, s78 _ _ k1] at this; cases this
          refine ⟨_, _, _, _, _, rfl, (f2.trans (Same.frm s78)).trans (frm_upd (by simp)), by rw [← Nat.add_assoc]; exact cn8, by rw [upd_ne l1d]; exact s78 _ _ e2, by unfold SqT; rw [upd_ne ad]; exact s78 _ _ hs2, ⟨_, _, upd_same, by rw [dj2, valV_put, if_pos rfl]⟩⟩
    · rintro σ H2 ⟨o2, o3, o4, o5, o6, rfl, f2, cn2, e2, hs2, kn2⟩
      rw [rI_len, List.length_reverse, List.length_range, Nat.sub_self] at kn2
      rw [rI_len, List.length_reverse, List.length_range] at cn2
      unfold t_Counted_row_p1
      walk_at "gw"
      refine cn2.known ?_
      obtain ⟨kvs, v, k1, k2⟩ := kn2
      obtain ⟨kvs', g1, g2, g3, g4⟩ := cn2.kn
      rw [k1] at g1
      cases g1
      obtain ⟨c0, rfl, hc0⟩ := g4 _ _ k2
      walk_at "gw"
      refine ix_d (v := .ref c0) (.inr ⟨kvs, kR r, a, .inl k1, rfl, by rw [kR_rI]; exact hs2, (by simpa using k2.symm)⟩) ?_
      exact q c0 H2 f2 (cn2.capL (by omega)) (by simpa using hc0)
end Pt.Re
namespace Pt.Re
/-! ### the law's counts -/
abbrev Lot := List (List Nat × Nat)
def lotV (ps : Lot) : List (List L2.Key × V) := ps.map fun p => (kR p.1, V.int ((p.2 : Nat) : Int))
def wt (f : List Nat → Nat) (ps : Lot) : Nat := (ps.map fun p => p.2 * f p.1).sum
def getP (ps : Lot) (r : List Nat) : Nat := ((ps.find? fun p => decide (p.1 = r)).map (·.2)).getD 0
theorem lot_val (r : List Nat) : ∀ ps : Lot, valV (lotV ps) (kR r) = (ps.find? fun p => decide (p.1 = r)).map fun p => V.int ((p.2 : Nat) : Int)
  | [] => rfl
  | p :: ps => by
    by_cases e : p.1 = r
    · rw [List.find?_cons, decide_eq_true e]
      exact valV_pos (by show kR p.1 = _; rw [e])
    · rw [List.find?_cons, decide_eq_false e]
      have := lot_val r ps
      rw [← this]
      exact valV_neg fun h => e (kR_inj h)
theorem lot_get (r : List Nat) (ps : Lot) : (valV (lotV ps) (kR r)).getD (V.int 0) = V.int ((getP ps r : Nat) : Int) := by
  rw [lot_val]
  unfold getP
  cases ps.find? fun p => decide (p.1 = r) with
  | none => rfl
  | some p => rfl
theorem wt_app {f : List Nat → Nat} {a b : Lot} : wt f (a ++ b) = wt f a + wt f b := by
  unfold wt
  rw [List.map_append, List.sum_append]
theorem wt_cons {f : List Nat → Nat} {p : List Nat × Nat} {b : Lot} : wt f (p :: b) = p.2 * f p.1 + wt f b := rfl
theorem lot_same {r : List Nat} {y : V} : ∀ {l : Lot}, r ∉ l.map (·.1) → (lotV l).map (fun kv => if kv.1 = kR r then (kv.1, y) else kv) = lotV l
  | [], _ => rfl
  | p :: l, h => by
    rw [List.map_cons, List.mem_cons, not_or] at h
    show (if kR p.1 = kR r then _ else _) :: _ = _ :: _
    rw [if_neg (fun e => h.1 (kR_inj e).symm)]
    congr 1
    exact lot_same h.2
theorem find_no {r : List Nat} : ∀ {l : Lot}, r ∉ l.map (·.1) → (l.find? fun p => decide (p.1 = r)) = none
  | [], _ => rfl
  | p :: l, h => by
    rw [List.map_cons, List.mem_cons, not_or] at h
    rw [List.find?_cons, decide_eq_false (fun e => h.1 e.symm)]
    exact find_no h.2
theorem lot_put {ps : Lot} (nd : (ps.map (·.1)).Nodup) (r : List Nat) (n : Nat) : ∃ qs : Lot, L2.putK (lotV ps) (kR r) (V.int ((getP ps r + n : Nat) : Int)) = lotV qs ∧ (qs.map (·.1)).Nodup ∧ (∀ f, wt f qs = wt f ps + n * f r) ∧ qs.length ≤ ps.length + 1 ∧ ∀ q ∈ qs, q.1 = r ∨ ∃ p ∈ ps, p.1 = q.1 := by
  by_cases h : r ∈ ps.map (·.1)
  · obtain ⟨p, hp, rfl⟩ := List.mem_map.mp h
    obtain ⟨l1, l2, rfl⟩ := List.append_of_mem hp
    have nd0 := nd
    rw [List.map_append, List.map_cons, List.nodup_append, List.nodup_cons] at nd
    have n1 : p.1 ∉ l1.map (·.1) := fun m => nd.2.2 _ m _ (List.mem_cons_self ..) rfl
    have n2 := nd.2.1.1
    have eg : getP (l1 ++ p :: l2) p.1 = p.2 := by
      unfold getP
      rw [List.find?_append, find_no n1, List.find?_cons, decide_eq_true rfl]
      rfl
    refine ⟨l1 ++ (p.1, p.2 + n) :: l2, ?_, ?_, fun f => ?_, by simp, fun q hq => ?_⟩
    · unfold L2.putK
      have hmem : (kR p.1, V.int (p.2 : Nat)) ∈ lotV (l1 ++ p :: l2) := List.mem_map.mpr ⟨p, hp, rfl⟩
      have ha : ((lotV (l1 ++ p :: l2)).any fun kv => decide (kv.1 = kR p.1)) = true := List.any_eq_true.mpr ⟨_, hmem, decide_eq_true rfl⟩
      rw [if_pos ha, eg]
      have e1 : lotV (l1 ++ p :: l2) = lotV l1 ++ (kR p.1, V.int (p.2 : Nat)) :: lotV l2 := by simp [lotV]
      have e2 : lotV (l1 ++ (p.1, p.2 + n) :: l2) = lotV l1 ++ (kR p.1, V.int ((p.2 + n : Nat) : Int)) :: lotV l2 := by simp [lotV]
      rw [e1, e2, List.map_append, List.map_cons, lot_same n1, lot_same n2, if_pos rfl]
    · rw [List.map_append, List.map_cons] at nd0 ⊢
      exact nd0
    · rw [wt_app, wt_app, wt_cons, wt_cons]
      simp only [Nat.add_mul]
      omega
    · rcases List.mem_append.mp hq with m | m
      · exact .inr ⟨q, List.mem_append.mpr (.inl m), rfl⟩
      · rcases List.mem_cons.mp m with m | m
        · exact .inl (by rw [m])
        · exact .inr ⟨q, List.mem_append.mpr (.inr (List.mem_cons_of_mem _ m)), rfl⟩
  · have nm : kR r ∉ (lotV ps).map (·.1) := fun m => by
      obtain ⟨y, hy, e⟩ := List.mem_map.mp m
      obtain ⟨p, hp, rfl⟩ := List.mem_map.mp hy
      exact h (List.mem_map.mpr ⟨p, hp, kR_inj e⟩)
    have eg : getP ps r = 0 := by
      unfold getP
      rw [find_no h]
      rfl
    refine ⟨ps ++ [(r, n)], ?_, ?_, fun f => ?_, by simp, fun q hq => ?_⟩
    · rw [putK_new nm, eg, Nat.zero_add]
      simp [lotV]
    · rw [List.map_append]
      exact List.nodup_append.mpr ⟨nd, by simp, fun x hx y hy e => h (by rw [List.map_cons, List.map_nil, List.mem_singleton] at hy; have e2 : x = r := e.trans hy; rw [← e2]; exact hx)⟩
    · rw [wt_app]
      simp [wt]
    · rcases List.mem_append.mp hq with m | m
      · exact .inr ⟨q, m, rfl⟩
      · exact .inl (by rw [List.mem_singleton.mp m])
theorem wt_zero {f : List Nat → Nat} : ∀ {ps : Lot}, (∀ p ∈ ps, f p.1 = 0) → wt f ps = 0
  | [], _ => rfl
  | p :: ps, h => by rw [wt_cons, h p (List.mem_cons_self ..), wt_zero fun q hq => h q (List.mem_cons_of_mem _ hq)]; rfl
theorem wt_end {f : List Nat → Nat} (f1 : f [] = 1) (f0 : ∀ t, t ≠ [] → f t = 0) : ∀ {ps : Lot}, (ps.map (·.1)).Nodup → wt f ps = getP ps []
  | [], _ => rfl
  | p :: ps, nd => by
    rw [List.map_cons, List.nodup_cons] at nd
    rw [wt_cons]
    by_cases e : p.1 = []
    · rw [e, f1, wt_zero fun q hq => f0 _ fun z => nd.1 (by rw [e, ← z]; exact List.mem_map.mpr ⟨q, hq, rfl⟩)]
      unfold getP
      rw [List.find?_cons, decide_eq_true e]
      simp
    · rw [f0 _ e, wt_end f1 f0 nd.2]
      unfold getP
      rw [List.find?_cons, decide_eq_false e]
      simp
theorem wt_take {f : List Nat → Nat} {ps : Lot} {j : Nat} {p : List Nat × Nat} (h : ps[j]? = some p) : wt f (ps.take (j + 1)) = wt f (ps.take j) + p.2 * f p.1 := by
  rw [List.take_add_one, h, wt_app]
  rfl
def sgS2 (W : Wys) (S : List Nat) (r : List Nat) (n k : Nat) : Nat := ((S.take k).map fun s => cO W S (bhd W r s) n).sum
theorem sgS2_succ {W : Wys} {S : List Nat} {r : List Nat} {n k s : Nat} (h : S[k]? = some s) : sgS2 W S r n (k + 1) = sgS2 W S r n k + cO W S (bhd W r s) n := by
  unfold sgS2
  rw [List.take_add_one, h, List.map_append, List.sum_append]
  simp
theorem sgS2_all {W : Wys} {S : List Nat} {r : List Nat} {n : Nat} : sgS2 W S r n S.length = cN W S r (n + 1) := by
  unfold sgS2
  rw [List.take_length, cN_succ]
def sp_law_bcounts (K : PySem.W.Frag) : Sp := fun vs H Q _ => ∃ a S m W F p r, ∃ (mo : Nat), vs = [.ref a, .ref p, .int (mo : Nat)] ∧ LC K H a S m W F ∧ SqT K H p (rI r) ∧ r.length ≤ 60 ∧ InC m r ∧ mo ≤ 9 ∧ m ≤ 8 ∧ (∀ w ∈ W, w.2.length ≤ 3) ∧
  ∀ l H', Same H H' → H l = none → H' l = some (.lst (cV W (cs S) r (mo + 1))) → Q (.ref l) H'
abbrev n_law_bcounts : List Str := ["core", "row", "most", "firsts", "counts", "length", "lot", "turn", "after", "left", "sign", "more"]
def t_law_bcounts_p1 (K : PySem.W.Frag) : TS :=
  tAsg (tVar 8) (gName 6)
def t_law_bcounts_p2 (K : PySem.W.Frag) : TS :=
  tDrop (tBM K "list" rAppend (tVar 4) (tCons (tDGet2 (tVar 6) (tTup (tNil)) (tC (.int 0))) (tNil)))
def t_law_bcounts_p3 (K : PySem.W.Frag) : TS :=
  tRet (tVar 4)
def t_law_bcounts (K : PySem.W.Frag) : TS :=
  tSeq (tPar 3 4 (tCons (tOwn (sp_law_bfirsts K) (tCons (tVar 0) (tNil))) (tCons (tLst (tNil)) (tNil)))) (tSeq (tFor (iRng1 (tCons (tOp (rPlus K) (tVar 2) (tC (.int 1))) (tNil))) (gName 5) (tSeq (tAsg (tIf (tTest (tOp rLeI (tOwn (sp_law_bnorm K) (tCons (tVar 3) (tCons (tVar 1) (tNil)))) (tVar 5))) (tDisp1T (tCB (cTuple K) (tCons (tVar 1) (tNil))) (tC (.int 1))) (tDNew)) (gName 6)) (tSeq (tFor (iRng1 (tCons (tVar 5) (tNil))) (gName 7) (tSeq (tAsg (tDNew) (gName 8)) (tSeq (tLock (tFor (iKeys (tVar 6)) (gName 9) (tFor (iStr (tOp (rIxU K) (tVar 0) (tC (.int 0)))) (gName 10) (tSeq (tAsg (tOwn (sp_law_bbehind K) (tCons (tVar 0) (tCons (tVar 9) (tCons (tVar 10) (tNil))))) (gName 11)) (tIfS (tAnd (tTest (tOp rIsNotU (tVar 11) (tC .non))) (tTest (tOp rLeI (tOwn (sp_law_bnorm K) (tCons (tVar 3) (tCons (tVar 11) (tNil)))) (tOp rMinus (tOp rMinus (tVar 5) (tVar 7)) (tC (.int 1)))))) (tAsg (tOp (rPlus K) (tDGet2 (tVar 8) (tVar 11) (tC (.int 0))) (tOp (rIxU K) (tVar 6) (tVar 9))) (gSub (tVar 8) (tVar 11) rSetU)) (tNext)))))) (t_law_bcounts_p1 K)))) (t_law_bcounts_p2 K)))) (t_law_bcounts_p3 K))
def t_bc_signs (K : PySem.W.Frag) : TS :=
  tFor (iStr (tOp (rIxU K) (tVar 0) (tC (.int 0)))) (gName 10) (tSeq (tAsg (tOwn (sp_law_bbehind K) (tCons (tVar 0) (tCons (tVar 9) (tCons (tVar 10) (tNil))))) (gName 11)) (tIfS (tAnd (tTest (tOp rIsNotU (tVar 11) (tC .non))) (tTest (tOp rLeI (tOwn (sp_law_bnorm K) (tCons (tVar 3) (tCons (tVar 11) (tNil)))) (tOp rMinus (tOp rMinus (tVar 5) (tVar 7)) (tC (.int 1)))))) (tAsg (tOp (rPlus K) (tDGet2 (tVar 8) (tVar 11) (tC (.int 0))) (tOp (rIxU K) (tVar 6) (tVar 9))) (gSub (tVar 8) (tVar 11) rSetU)) (tNext)))
def t_bc_turns (K : PySem.W.Frag) : TS :=
  tSeq (tFor (iRng1 (tCons (tVar 5) (tNil))) (gName 7) (tSeq (tAsg (tDNew) (gName 8)) (tSeq (tLock (tFor (iKeys (tVar 6)) (gName 9) (tFor (iStr (tOp (rIxU K) (tVar 0) (tC (.int 0)))) (gName 10) (tSeq (tAsg (tOwn (sp_law_bbehind K) (tCons (tVar 0) (tCons (tVar 9) (tCons (tVar 10) (tNil))))) (gName 11)) (tIfS (tAnd (tTest (tOp rIsNotU (tVar 11) (tC .non))) (tTest (tOp rLeI (tOwn (sp_law_bnorm K) (tCons (tVar 3) (tCons (tVar 11) (tNil)))) (tOp rMinus (tOp rMinus (tVar 5) (tVar 7)) (tC (.int 1)))))) (tAsg (tOp (rPlus K) (tDGet2 (tVar 8) (tVar 11) (tC (.int 0))) (tOp (rIxU K) (tVar 6) (tVar 9))) (gSub (tVar 8) (tVar 11) rSetU)) (tNext)))))) (t_law_bcounts_p1 K)))) (t_law_bcounts_p2 K)
/-- a lot on the heap -/
structure LotAt (m : Nat) (W : Wys) (S : List Nat) (n tot : Nat) (ps : Lot) (len rl : Nat) : Prop where
  nd : (ps.map (·.1)).Nodup
  w : wt (fun t => cN W S t n) ps = tot
  len : ps.length ≤ len
  ok : ∀ q ∈ ps, InC m q.1 ∧ q.1.length ≤ rl
theorem lot_mem {pp : List Nat × Nat} : ∀ {ps : Lot}, (ps.map (·.1)).Nodup → pp ∈ ps → valV (lotV ps) (kR pp.1) = some (V.int ((pp.2 : Nat) : Int))
  | [], _, h => by cases h
  | q :: ps, nd, h => by
    rw [List.map_cons, List.nodup_cons] at nd
    rcases List.mem_cons.mp h with e | e
    · rw [e]
      exact valV_pos rfl
    · have ne : q.1 ≠ pp.1 := fun z => nd.1 (by rw [z]; exact List.mem_map.mpr ⟨pp, e, rfl⟩)
      rw [← lot_mem nd.2 e]
      exact valV_neg fun z => ne (kR_inj z)
/-- one row's signs -/
theorem bc_signs {K : PySem.W.Frag} {D : Ends} {H G : Hp} {od : Obj} {a p f cp lp g lf : Addr} {mo L i n j rl : Nat} {S : Str} {m : Nat} {W : Wys} {F : Nat → List Nat} {kv : List (L2.Key × V)} {ps qs : Lot} {pp : List Nat × Nat} {tot : Nat} {o10 o11 : Option V}
    (c : LC K H a S m W F) (hF : FDk kv m F) (hn : n + i + 1 = L) (hL : L ≤ 9) (hp : pp ∈ ps) (hpn : (ps.map (·.1)).Nodup) (ok1 : InC m pp.1) (okl : pp.1.length ≤ rl) (rl600 : rl ≤ 600) (jl : j ≤ 1679616)
    (sG : Same H G) (gH : H g = none) (fG : G f = some (.dK kv)) (lG : G lp = some (.frz od (.dT (lotV ps)))) (kG : G lf = some (.tup (rI pp.1))) (gG : G g = some (.dT (lotV qs))) (st : LotAt m W (cs S) n tot qs (j * 6) (rl + 60))
    (k : ∀ o10 o11 H' qs', Frm [g] G H' → Same H H' → H' g = some (.dT (lotV qs')) → LotAt m W (cs S) n (tot + pp.2 * cN W (cs S) pp.1 (n + 1)) qs' ((j + 1) * 6) (rl + 60) →
      D.nx [some (.ref a), some (.ref p), some (.int (mo : Nat)), some (.ref f), some (.ref cp), some (.int (L : Nat)), some (.ref lp), some (.int (i : Nat)), some (.ref g), some (.ref lf), o10, o11] H') :
    t_bc_signs K D [some (.ref a), some (.ref p), some (.int (mo : Nat)), some (.ref f), some (.ref cp), some (.int (L : Nat)), some (.ref lp), some (.int (i : Nat)), some (.ref g), some (.ref lf), o10, o11] G := by
  have sl : 16000000 ≤ sizeLine := by decide
  have okW : ∀ w ∈ W, w.2.length ≤ 60 ∧ ∀ k ∈ w.2, k < m := fun w hw => (c.w.ok w hw).2.2
  have l6 : (cs S).length ≤ 6 := by have := c.w.len; rw [size_cs] at this; exact this
  have fg : f ≠ g := fun e => by rw [e, gG] at fG; cases fG
  have lg : lp ≠ g := fun e => by rw [e, gG] at lG; cases lG
  have kg : lf ≠ g := fun e => by rw [e, gG] at kG; cases kG
  unfold t_bc_signs
  walk_at "gw"
  obtain ⟨d0, kvs0, ha0, _, _⟩ := (c.same sG).ex
  refine ix_l (v := .str S) (sql_of ha0) (atI_nat (j := 0) rfl) ?_
  walk_at "gw"
  refine for_it walk_str (fun x σ H' => (∃ o10 o11, σ = [some (.ref a), some (.ref p), some (.int (mo : Nat)), some (.ref f), some (.ref cp), some (.int (L : Nat)), some (.ref lp), some (.int (i : Nat)), some (.ref g), some (.ref lf), o10, o11]) ∧ Frm [g] G H' ∧ Same H H' ∧
    ∃ qs', H' g = some (.dT (lotV qs')) ∧ LotAt m W (cs S) n (tot + pp.2 * sgS2 W (cs S) pp.1 n x) qs' (j * 6 + x) (rl + 60))
    ⟨⟨_, _, rfl⟩, Same.frm (Same.refl _), sG, qs, gG, by simpa [sgS2] using st⟩ (fun _ _ _ _ _ => True.intro) ?_ ?_
  · rintro x y σ G3 G4 hx3 ⟨⟨o10, o11, rfl⟩, f3, s3, qs3, g3, st3⟩ ⟨rfl, ch, hch, rfl⟩
    have hch2 : (cs S)[x]? = some ch := get_cps hch
    have hx6 : x < (cs S).length := (List.getElem?_eq_some_iff.mp hch2).1
    have k4 := f3.at_ _ _ (by simpa using kg) kG
    walk_at "gw"
    refine ⟨a, S, m, W, F, lf, pp.1, ch, rfl, c.same s3, k4, by omega, fun v G5 s5 hv => ?_⟩
    have f5 := f3.trans (Same.frm s5)
    have s35 : Same H G5 := fun b o e => s5 b o (s3 b o e)
    have g5 := s5 _ _ g3
    have tk := sgS2_succ (W := W) (r := pp.1) (n := n) hch2
    cases eb : bhd W pp.1 ch with
    | none =>
      rw [eb] at hv tk
      cases (show v = .non from hv)
      walk_at "gw"
      refine w_iteF rfl ?_
      refine w_iteF rfl ?_
      walk_at "gw"
      refine ⟨⟨_, _, rfl⟩, f5, s35, qs3, g5, ?_⟩
      rw [tk]
      exact { st3 with len := by have := st3.len; omega }
    | some r1 =>
      rw [eb] at hv tk
      obtain ⟨a1, rfl, h5⟩ := hv
      obtain ⟨k1, k2⟩ := bhd_ok okW eb ok1
      walk_at "gw"
      refine w_iteT rfl ?_
      walk_at "gw"
      refine ⟨f, kv, m, F, a1, r1, rfl, f5.at_ _ _ (by simpa using fg) fG, hF, c.w.sz, h5, by omega, k1, fun G6 s6 => ?_⟩
      replace h5 := s6 _ _ h5
      replace f5 := f5.trans (Same.frm s6)
      replace s35 : Same H G6 := fun b o e => s6 b o (s35 b o e)
      replace g5 := s6 _ _ g5
      clear s6 s5 G5
      walk_at "gw"
      refine w_ite (fun e => ?_) (fun e => ?_)
      · walk_at "gw"
        refine ⟨g, rfl, .inr ⟨_, .inl g5⟩, ?_⟩
        walk_at "gw"
        refine ⟨_, .inr ⟨lotV qs3, kR r1, a1, .inl g5, rfl, by rw [kR_rI]; exact h5, rfl⟩, ?_⟩
        rw [lot_get]
        walk_at "gw"
        have l5 := f5.at_ _ _ (by simpa using lg) lG
        have k5 := f5.at_ _ _ (by simpa using kg) kG
        refine ix_d (v := .int (pp.2 : Nat)) (.inr ⟨lotV ps, kR pp.1, lf, .inr ⟨od, l5⟩, rfl, by rw [kR_rI]; exact k5, ?_⟩) ?_
        · exact (lot_mem hpn hp).symm
        refine plus_i ?_
        walk_at "gw"
        obtain ⟨qs4, e4, nd4, w4, len4, ok4⟩ := lot_put st3.nd r1 pp.2
        refine set_d (DPut.t (k := kR r1) g5 (by rw [kR_rI]; exact h5) (by have := st3.len; rw [show (lotV qs3).length = qs3.length by simp [lotV]]; omega)) ?_
        walk_at "gw"
        rw [show (((getP qs3 r1 : Nat) : Int) + ((pp.2 : Nat) : Int)) = ((getP qs3 r1 + pp.2 : Nat) : Int) by omega, e4]
        refine ⟨⟨_, _, rfl⟩, f5.trans (frm_upd (by simp)), same_updN gH s35, qs4, upd_same, nd4, ?_, ?_, fun q hq => ?_⟩
        · rw [w4, st3.w, tk, Nat.mul_add, Nat.add_assoc]
          rfl
        · have := st3.len
          omega
        · rcases ok4 q hq with w | ⟨q', m', e'⟩
          · rw [w]
            exact ⟨k1, by omega⟩
          · rw [← e']
            exact st3.ok q' m'
      · walk_at "gw"
        refine ⟨⟨_, _, rfl⟩, f5, s35, qs3, g5, ?_⟩
        have z : cO W (cs S) (some r1) n = 0 := by
          have h1 := lts_norm (S := cs S) (L := n) okW c.w.fst k1 (by have := of_decide_eq_false e; omega)
          show (lts W (cs S) n r1).length = 0
          rw [h1]
          rfl
        rw [tk, z]
        exact { st3 with len := by have := st3.len; omega }
  · rintro σ G3 ⟨⟨o10, o11, rfl⟩, f3, s3, qs3, g3, st3⟩
    rw [size_cs, sgS2_all] at st3
    exact k _ _ _ _ f3 s3 g3 { st3 with len := by have := st3.len; omega }

/-- one length's turns -/
theorem bc_turns {K : PySem.W.Frag} {D : Ends} {H G : Hp} {a p f cp lp : Addr} {mo L : Nat} {S : Str} {m : Nat} {W : Wys} {F : Nat → List Nat} {kv : List (L2.Key × V)} {ps : Lot} {r : List Nat} {o7 o8 o9 o10 o11 : Option V}
    (c : LC K H a S m W F) (hF : FDk kv m F) (hL : L ≤ 9) (sG : Same H G) (lH : H lp = none) (cH : H cp = none) (fG : G f = some (.dK kv)) (fN : H f = none) (cG : G cp = some (.lst (cV W (cs S) r L))) (lG : G lp = some (.dT (lotV ps)))
    (st : LotAt m W (cs S) L (cN W (cs S) r L) ps 1 60)
    (k : ∀ o6 o7 o8 o9 o10 o11 H', Same H H' → H' f = some (.dK kv) → H' cp = some (.lst (cV W (cs S) r (L + 1))) →
      D.nx [some (.ref a), some (.ref p), some (.int (mo : Nat)), some (.ref f), some (.ref cp), some (.int (L : Nat)), o6, o7, o8, o9, o10, o11] H') :
    t_bc_turns K D [some (.ref a), some (.ref p), some (.int (mo : Nat)), some (.ref f), some (.ref cp), some (.int (L : Nat)), some (.ref lp), o7, o8, o9, o10, o11] G := by
  have sl : 16000000 ≤ sizeLine := by decide
  have fc : f ≠ cp := fun e => by rw [e, cG] at fG; cases fG
  unfold t_bc_turns
  walk_at "gw"
  refine e_rng (by omega) (by omega) ?_
  rw [show ((L : Nat) : Int).toNat = L by omega]
  refine for_it (walk_range (lo := 0) (n := L)) (fun i σ H' => ∃ (lp : Addr) (ps : Lot) (o7 o8 o9 o10 o11 : Option V), σ = [some (.ref a), some (.ref p), some (.int (mo : Nat)), some (.ref f), some (.ref cp), some (.int (L : Nat)), some (.ref lp), o7, o8, o9, o10, o11] ∧ Same H H' ∧ H lp = none ∧ H' f = some (.dK kv) ∧
    H' cp = some (.lst (cV W (cs S) r L)) ∧ H' lp = some (.dT (lotV ps)) ∧ LotAt m W (cs S) (L - i) (cN W (cs S) r L) ps (6 ^ i) (60 + 60 * i)) ⟨lp, ps, _, _, _, _, _, rfl, sG, lH, fG, cG, lG, st⟩ (fun _ _ _ _ _ => True.intro) ?_ ?_
  · clear lH lG st lp ps sG fG cG
    rintro i y σ G1 G2 hi ⟨lp, ps, o7, o8, o9, o10, o11, rfl, sG, lH, fG, cG, lG, st⟩ ⟨rfl, rfl⟩
    walk_at "gw"
    refine .inr fun g hg => ?_
    have lg : lp ≠ g := fun e => by rw [e, hg] at lG; cases lG
    have n2 := same_new (o := .dT []) hg
    have gH : H g = none := same_free sG hg
    have eg : upd G2 g (.dT []) g = some (.dT []) := upd_same
    replace sG : Same H (upd G2 g (.dT [])) := fun b o e => n2 b o (sG b o e)
    replace fG := n2 _ _ fG
    replace cG := n2 _ _ cG
    replace lG := n2 _ _ lG
    generalize upd G2 g (.dT []) = G3 at eg sG fG cG lG
    clear n2 hg G2
    walk_at "gw"
    try simp only [Int.zero_add]
    refine ⟨lp, _, lG, True.intro, fun od => ?_⟩
    have lf : lp ≠ f := fun e => by rw [e, fG] at lG; cases lG
    have lc : lp ≠ cp := fun e => by rw [e, cG] at lG; cases lG
    have fz : upd G3 lp (.frz od (.dT (lotV ps))) lp = some (.frz od (.dT (lotV ps))) := upd_same
    have sz : Same H (upd G3 lp (.frz od (.dT (lotV ps)))) := same_updN lH sG
    have fz1 : upd G3 lp (.frz od (.dT (lotV ps))) f = some (.dK kv) := by rw [upd_ne (Ne.symm lf)]; exact fG
    have cz : upd G3 lp (.frz od (.dT (lotV ps))) cp = some (.lst (cV W (cs S) r L)) := by rw [upd_ne (Ne.symm lc)]; exact cG
    have gz : upd G3 lp (.frz od (.dT (lotV ps))) g = some (.dT []) := by rw [upd_ne (Ne.symm lg)]; exact eg
    generalize upd G3 lp (.frz od (.dT (lotV ps))) = G4 at fz sz fz1 cz gz
    walk_at "gw"
    refine ⟨lp, od, rfl, .inr ⟨_, fz, ?_⟩⟩
    obtain ⟨n, hn⟩ : ∃ n, n + i + 1 = L := ⟨L - i - 1, by omega⟩
    have p6 : (6 : Nat) ^ i ≤ 6 ^ 8 := Nat.pow_le_pow_right (by decide) (by omega)
    have p6' : (6 : Nat) ^ 8 = 1679616 := by decide
    have lps : (lotV ps).length = ps.length := by simp [lotV]
    refine for_it walk_keysT (fun j σ H' => (∃ o9 o10 o11, σ = [some (.ref a), some (.ref p), some (.int (mo : Nat)), some (.ref f), some (.ref cp), some (.int (L : Nat)), some (.ref lp), some (.int (i : Nat)), some (.ref g), o9, o10, o11]) ∧ Frm [g] G4 H' ∧ Same H H' ∧
      ∃ qs, H' g = some (.dT (lotV qs)) ∧ LotAt m W (cs S) n (wt (fun t => cN W (cs S) t (n + 1)) (ps.take j)) qs (j * 6) (60 + 60 * i + 60))
      ⟨⟨_, _, _, rfl⟩, Same.frm (Same.refl _), sz, [], gz, ⟨by simp, rfl, by simp, fun _ h => by cases h⟩⟩ (fun j σ H' _ e => e.2.1.at_ _ _ (by simpa using lg) fz) ?_ ?_
    · rintro j y σ G5 G6 hj ⟨⟨o9, o10, o11, rfl⟩, f5, s5, qs, g5, st5⟩ ⟨rfl, kk, vv, lf2, hkv, rfl, hlf⟩
      rw [lps] at hj
      obtain ⟨pp, hpp⟩ : ∃ pp, ps[j]? = some pp := ⟨ps[j], List.getElem?_eq_getElem hj⟩
      have hk2 : kk = kR pp.1 := by
        unfold lotV at hkv
        rw [List.getElem?_map, hpp] at hkv
        cases hkv
        rfl
      subst hk2
      rw [kR_rI] at hlf
      have hm := List.mem_of_getElem? hpp
      obtain ⟨ok1, ok2⟩ := st.ok pp hm
      have lps2 := st.len
      refine w_gn ?_
      show t_bc_signs K _ _ _
      refine bc_signs (kv := kv) (F := F) (od := od) (ps := ps) (qs := qs) (j := j) (rl := 60 + 60 * i) c hF hn hL hm st.nd ok1 ok2 (by omega) (by omega) s5 gH (f5.at_ _ _ (by simp; exact fun e => by rw [e, gz] at fz1; cases fz1) fz1) (f5.at_ _ _ (by simpa using lg) fz) hlf g5 st5 fun o10 o11 H' qs' f' s' g' st' => ?_
      refine ⟨⟨_, _, _, rfl⟩, f5.trans f', s', qs', g', ?_⟩
      rw [wt_take hpp]
      exact st'
    · rintro σ G5 ⟨⟨o9, o10, o11, rfl⟩, f5, s5, qs, g5, st5⟩
      have fz5 := f5.at_ _ _ (by simpa using lg) fz
      refine ⟨fz5, ?_⟩
      unfold t_law_bcounts_p1
      walk_at "gw"
      have s6 : Same H (upd G5 lp (.dT (lotV ps))) := same_updN lH s5
      refine ⟨g, qs, _, _, _, _, _, rfl, s6, gH, by rw [upd_ne (Ne.symm lf)]; exact f5.at_ _ _ (by simp; exact fun e => by rw [e, gz] at fz1; cases fz1) fz1, by rw [upd_ne (Ne.symm lc)]; exact f5.at_ _ _ (by simp; exact fun e => by rw [e, gz] at cz; cases cz) cz, by rw [upd_ne (Ne.symm lg)]; exact g5, ?_⟩
      rw [lps, List.take_length] at st5
      have lps2 := st.len
      have e1 := st.w
      rw [show L - i = n + 1 by omega] at e1
      rw [e1] at st5
      rw [show L - (i + 1) = n by omega]
      refine { st5 with len := ?_, ok := fun q hq => ⟨(st5.ok q hq).1, by have := (st5.ok q hq).2; omega⟩ }
      have := st5.len
      rw [Nat.pow_succ]
      omega
  · clear lH lG st lp ps sG fG cG
    rintro σ G1 ⟨lp, ps, o7, o8, o9, o10, o11, rfl, sG, lH, fG, cG, lG, st⟩
    unfold t_law_bcounts_p2
    walk_at "gw"
    refine ⟨lp, rfl, .inr ⟨_, .inl lG⟩, ?_⟩
    walk_at "gw"
    refine ⟨Nat.zero_le _, fun e0 he0 => ?_⟩
    have n2 := same_new (o := .tup []) he0
    have ee : upd G1 e0 (.tup []) e0 = some (.tup ((kR []).map kV)) := upd_same
    walk_at "gw"
    refine ⟨_, .inr ⟨lotV ps, kR [], e0, .inl (n2 _ _ lG), rfl, ee, rfl⟩, ?_⟩
    rw [lot_get]
    walk_at "gw"
    refine ⟨cp, _, _, rfl, rfl, n2 _ _ cG, by rw [cV_len]; omega, ?_⟩
    walk_at "gw"
    have e1 : getP ps [] = cN W (cs S) r L := by
      have h1 := st.w
      rw [Nat.sub_self] at h1
      rw [← h1]
      refine (wt_end (f := fun t => cN W (cs S) t 0) ?_ (fun t ht => ?_) st.nd).symm
      · show cN W (cs S) [] 0 = 1
        rw [cN_nil]
        rfl
      · cases t with
        | nil => exact absurd rfl ht
        | cons k t => exact cN_zero
    rw [e1, ← cV_snoc]
    exact k _ _ _ _ _ _ _ (same_updN cH fun b o e => n2 b o (sG b o e)) (by rw [upd_ne fc]; exact n2 _ _ fG) upd_same

theorem pure_law_bcounts {K : PySem.W.Frag} (vs : List V) (H : Hp) (Q : VK) (E : XK) (h : sp_law_bcounts K vs H Q E) : t_law_bcounts K { nx := fun _ H' => Q .non H', rt := Q } (start n_law_bcounts vs) H := by
  obtain ⟨a, S, m, W, F, p, r, mo, rfl, c, hs, hl, hk, hmo, m8, r3, q⟩ := h
  have sl : 16000000 ≤ sizeLine := by decide
  have okW : ∀ w ∈ W, w.2.length ≤ 60 ∧ ∀ k ∈ w.2, k < m := fun w hw => (c.w.ok w hw).2.2
  unfold t_law_bcounts
  walk_at "gw"
  refine ⟨a, S, m, W, F, rfl, c, m8, r3, fun f kv H1 s1 hfN hf hF => ?_⟩
  walk_at "gw"
  refine ⟨Nat.zero_le _, fun cp hcp => ?_⟩
  have n1 := same_new (o := .lst []) hcp
  have cpH : H cp = none := same_free s1 hcp
  have e1 : upd H1 cp (.lst []) cp = some (.lst (cV W (cs S) r 0)) := upd_same
  replace s1 : Same H (upd H1 cp (.lst [])) := fun b o e => n1 b o (s1 b o e)
  replace hf := n1 _ _ hf
  generalize upd H1 cp (.lst []) = H2 at e1 s1 hf
  clear n1 hcp H1
  walk_at "gw"
  refine e_rng (by omega) (by omega) ?_
  rw [show ((mo : Nat) : Int) + 1 = ((mo + 1 : Nat) : Int) by omega, show ((mo + 1 : Nat) : Int).toNat = mo + 1 by omega]
  refine for_it (walk_range (lo := 0) (n := mo + 1)) (fun i σ H' => (∃ o5 o6 o7 o8 o9 o10 o11, σ = [some (.ref a), some (.ref p), some (.int (mo : Nat)), some (.ref f), some (.ref cp), o5, o6, o7, o8, o9, o10, o11]) ∧ Same H H' ∧ H' f = some (.dK kv) ∧ H' cp = some (.lst (cV W (cs S) r i)))
    ⟨⟨_, _, _, _, _, _, _, rfl⟩, s1, hf, e1⟩ (fun _ _ _ _ _ => True.intro) ?_ ?_
  · rintro L y σ G G' hL ⟨⟨o5, o6, o7, o8, o9, o10, o11, rfl⟩, sG, fG, cG⟩ ⟨rfl, rfl⟩
    walk_at "gw"
    try simp only [Int.zero_add]
    refine ⟨f, kv, m, F, p, r, rfl, fG, hF, c.w.sz, sqt_same sG hs, by omega, hk, fun H3 s3 => ?_⟩
    replace sG : Same H H3 := fun b o e => s3 b o (sG b o e)
    replace fG := s3 _ _ fG
    replace cG := s3 _ _ cG
    clear s3
    walk_at "gw"
    refine w_ite (fun e => ?_) (fun e => ?_)
    · walk_at "gw"
      intro tl htl
      have e2 : upd H3 tl (.dT []) tl = some (.dT []) := upd_same
      have n2 := same_new (o := .dT []) htl
      have tH : H tl = none := same_free sG htl
      have tf : f ≠ tl := fun e => by rw [e, htl] at fG; cases fG
      have tc : cp ≠ tl := fun e => by rw [e, htl] at cG; cases cG
      replace sG : Same H (upd H3 tl (.dT [])) := fun b o e => n2 b o (sG b o e)
      replace fG := n2 _ _ fG
      replace cG := n2 _ _ cG
      generalize upd H3 tl (.dT []) = H4 at e2 sG fG cG
      clear n2 htl H3
      walk_at "gw"
      have hp4 := sqt_same sG hs
      refine tuple_t hp4 ?_
      walk_at "gw"
      refine ⟨p, kR r, rfl, e2, by rw [kR_rI]; exact hp4, ?_⟩
      refine w_gn ?_
      show t_bc_turns K _ _ _
      refine bc_turns (H := H) (F := F) (ps := [(r, 1)]) (r := r) c hF (by omega) (same_updN tH sG) tH cpH (by rw [upd_ne tf]; exact fG) hfN (by rw [upd_ne tc]; exact cG) upd_same ⟨by simp, by simp [wt], by simp, fun q hq => ?_⟩ fun o6 o7 o8 o9 o10 o11 H' s' f' c' => ⟨⟨_, _, _, _, _, _, _, rfl⟩, s', f', c'⟩
      rw [List.mem_singleton.mp hq]
      exact ⟨hk, hl⟩
    · walk_at "gw"
      refine .inr fun tl htl => ?_
      have n2 := same_new (o := .dT []) htl
      have tH : H tl = none := same_free sG htl
      refine w_gn ?_
      show t_bc_turns K _ _ _
      have z : cN W (cs S) r L = 0 := by
        have h1 := lts_norm (S := cs S) (L := L) okW c.w.fst hk (by have := of_decide_eq_false e; omega)
        show (lts W (cs S) L r).length = 0
        rw [h1]
        rfl
      exact bc_turns (H := H) (F := F) (ps := []) (r := r) c hF (by omega) (fun b o e => n2 b o (sG b o e)) tH cpH (n2 _ _ fG) hfN (n2 _ _ cG) upd_same ⟨by simp, by rw [z]; rfl, by simp, fun q hq => by cases hq⟩ fun o6 o7 o8 o9 o10 o11 H' s' f' c' => ⟨⟨_, _, _, _, _, _, _, rfl⟩, s', f', c'⟩
  · rintro σ H3 ⟨⟨o5, o6, o7, o8, o9, o10, o11, rfl⟩, s3, f3, e3⟩
    unfold t_law_bcounts_p3
    walk_at "gw"
    exact q cp H3 s3 cpH e3
end Pt.Re
namespace Pt.Re
abbrev n_law : List Str := ["script", "stream", "turn", "core", "made", "row", "more", "due", "found", "both", "second", "norm", "length", "at", "one"]
def t_law_p1 (K : PySem.W.Frag) : TS :=
  tSeq (tAsg (tOwn (sp_law_bcore K) (tCons (tVar 1) (tCons (tOwn (sp_law_bsigns K) (tCons (tVar 1) (tCons (tOp (rPlus K) (tC (.int 1)) (tOwn (sp_law_below K) (tCons (tVar 1) (tCons (tC (.int 4)) (tNil))))) (tNil)))) (tCons (tOp (rPlus K) (tC (.int 1)) (tOwn (sp_law_below K) (tCons (tVar 1) (tCons (tC (.int 8)) (tNil))))) (tCons (tOwn (sp_law_pick K) (tCons (tVar 1) (tCons (tLst (tCons (tC (.int 1)) (tCons (tC (.int 2)) (tCons (tC (.int 3)) (tNil))))) (tNil)))) (tNil)))))) (gName 3)) (tSeq (tAsg (tOwn (sp_law_bmade K) (tCons (tVar 1) (tCons (tVar 3) (tNil)))) (gName 4)) (tSeq (tAsg (tTup (tCons (tOwn (sp_law_brow K) (tCons (tVar 1) (tCons (tVar 3) (tCons (tC (.int 3)) (tNil))))) (tCons (tOwn (sp_law_brow K) (tCons (tVar 1) (tCons (tVar 3) (tCons (tC (.int 2)) (tNil))))) (tNil)))) (gTup K 2 (gCons (gName 5) (gCons (gName 6) (gNil))))) (tSeq (tAsg (tOwn (sp_law_bcounts K) (tCons (tVar 3) (tCons (tVar 5) (tCons (tC (.int 9)) (tNil))))) (gName 7)) (tSeq (tAsg (tLc (iRng1 (tCons (tC (.int 10)) (tNil))) (gName 12) (tYes) (tOwn (sp_count K) (tCons (tVar 4) (tCons (tOwn (sp_law_loose K 3) (tCons (tVar 1) (tCons (tVar 5) (tNil)))) (tCons (tVar 12) (tNil))))) [12]) (gName 8)) (tSeq (tIfS (tNot (tTru K (tOwn (sp_law_same K 5) (tCons (tVar 8) (tCons (tVar 7) (tNil)))))) (tRet (tC (.bl false))) (tNext)) (tSeq (tIfS (tNot (tTru K (tOwn (sp_law_same K 5) (tCons (tLc (iRng1 (tCons (tC (.int 5)) (tNil))) (gName 12) (tYes) (tCB (cLen K) (tCons (tOwn (sp_texts_of K) (tCons (tVar 4) (tCons (tVar 5) (tCons (tVar 12) (tNil))))) (tNil))) [12]) (tCons (tSl (rSlU K) (tVar 7) (tNoPart) (tPart (tC (.int 5)))) (tNil)))))) (tRet (tC (.bl false))) (tNext)) (tSeq (tAsg (tTup (tCons (tLc (iRng1 (tCons (tC (.int 10)) (tNil))) (gName 12) (tYes) (tOwn (sp_count K) (tCons (tVar 4) (tCons (tOp (rPlus K) (tVar 5) (tVar 6)) (tCons (tVar 12) (tNil))))) [12]) (tCons (tLc (iRng1 (tCons (tC (.int 10)) (tNil))) (gName 12) (tYes) (tOwn (sp_count K) (tCons (tVar 4) (tCons (tVar 6) (tCons (tVar 12) (tNil))))) [12]) (tNil)))) (gTup K 2 (gCons (gName 9) (gCons (gName 10) (gNil))))) (tSeq (tIfS (tNot (tTru K (tOwn (sp_law_same K 5) (tCons (tVar 9) (tCons (tLc (iRng1 (tCons (tC (.int 10)) (tNil))) (gName 12) (tYes) (tCB (rSum K) (tCons (tLc (iRng1 (tCons (tOp (rPlus K) (tVar 12) (tC (.int 1))) (tNil))) (gName 13) (tYes) (tOp rTimes (tOp (rIxU K) (tVar 7) (tVar 13)) (tOp (rIxU K) (tVar 10) (tOp rMinus (tVar 12) (tVar 13)))) [13]) (tNil))) [12]) (tNil)))))) (tRet (tC (.bl false))) (tNext)) (tSeq (tAsg (tOwn (sp_norm_of K) (tCons (tVar 4) (tCons (tVar 5) (tNil)))) (gName 11)) (tIfS (tOr (tTest (tOp (rNeU K) (tLc (iSeq K (tSl (rSlU K) (tVar 7) (tNoPart) (tPart (tVar 11)))) (gName 14) (tTest (tOp (rNeU K) (tVar 14) (tC (.int 0)))) (tVar 14) [14]) (tLst (tNil)))) (tAnd (tTest (tOp rLtI (tVar 11) (tC (.int 10)))) (tTest (tOp (rEqU K) (tOp (rIxU K) (tVar 7) (tVar 11)) (tC (.int 0)))))) (tRet (tC (.bl false))) (tNext)))))))))))
def t_law_p2 (K : PySem.W.Frag) : TS :=
  tRet (tC (.bl true))
def t_law (K : PySem.W.Frag) : TS :=
  tSeq (tAsg (tOwn (sp_law_start K) (tCons (tVar 0) (tNil))) (gName 1)) (tSeq (tFor (iRng1 (tCons (tC (.int 5)) (tNil))) (gName 2) (t_law_p1 K)) (t_law_p2 K))
def t_law_u9 (K : PySem.W.Frag) : TS :=
  tSeq (tAsg (tOwn (sp_norm_of K) (tCons (tVar 4) (tCons (tVar 5) (tNil)))) (gName 11)) (tIfS (tOr (tTest (tOp (rNeU K) (tLc (iSeq K (tSl (rSlU K) (tVar 7) (tNoPart) (tPart (tVar 11)))) (gName 14) (tTest (tOp (rNeU K) (tVar 14) (tC (.int 0)))) (tVar 14) [14]) (tLst (tNil)))) (tAnd (tTest (tOp rLtI (tVar 11) (tC (.int 10)))) (tTest (tOp (rEqU K) (tOp (rIxU K) (tVar 7) (tVar 11)) (tC (.int 0)))))) (tRet (tC (.bl false))) (tNext))
def t_law_u8 (K : PySem.W.Frag) : TS :=
  tSeq (tIfS (tNot (tTru K (tOwn (sp_law_same K 5) (tCons (tVar 9) (tCons (tLc (iRng1 (tCons (tC (.int 10)) (tNil))) (gName 12) (tYes) (tCB (rSum K) (tCons (tLc (iRng1 (tCons (tOp (rPlus K) (tVar 12) (tC (.int 1))) (tNil))) (gName 13) (tYes) (tOp rTimes (tOp (rIxU K) (tVar 7) (tVar 13)) (tOp (rIxU K) (tVar 10) (tOp rMinus (tVar 12) (tVar 13)))) [13]) (tNil))) [12]) (tNil)))))) (tRet (tC (.bl false))) (tNext)) (t_law_u9 K)
def t_law_u7 (K : PySem.W.Frag) : TS :=
  tSeq (tAsg (tTup (tCons (tLc (iRng1 (tCons (tC (.int 10)) (tNil))) (gName 12) (tYes) (tOwn (sp_count K) (tCons (tVar 4) (tCons (tOp (rPlus K) (tVar 5) (tVar 6)) (tCons (tVar 12) (tNil))))) [12]) (tCons (tLc (iRng1 (tCons (tC (.int 10)) (tNil))) (gName 12) (tYes) (tOwn (sp_count K) (tCons (tVar 4) (tCons (tVar 6) (tCons (tVar 12) (tNil))))) [12]) (tNil)))) (gTup K 2 (gCons (gName 9) (gCons (gName 10) (gNil))))) (t_law_u8 K)
def t_law_u6 (K : PySem.W.Frag) : TS :=
  tSeq (tIfS (tNot (tTru K (tOwn (sp_law_same K 5) (tCons (tLc (iRng1 (tCons (tC (.int 5)) (tNil))) (gName 12) (tYes) (tCB (cLen K) (tCons (tOwn (sp_texts_of K) (tCons (tVar 4) (tCons (tVar 5) (tCons (tVar 12) (tNil))))) (tNil))) [12]) (tCons (tSl (rSlU K) (tVar 7) (tNoPart) (tPart (tC (.int 5)))) (tNil)))))) (tRet (tC (.bl false))) (tNext)) (t_law_u7 K)
def t_law_u5 (K : PySem.W.Frag) : TS :=
  tSeq (tIfS (tNot (tTru K (tOwn (sp_law_same K 5) (tCons (tVar 8) (tCons (tVar 7) (tNil)))))) (tRet (tC (.bl false))) (tNext)) (t_law_u6 K)
def t_law_u4 (K : PySem.W.Frag) : TS :=
  tSeq (tAsg (tLc (iRng1 (tCons (tC (.int 10)) (tNil))) (gName 12) (tYes) (tOwn (sp_count K) (tCons (tVar 4) (tCons (tOwn (sp_law_loose K 3) (tCons (tVar 1) (tCons (tVar 5) (tNil)))) (tCons (tVar 12) (tNil))))) [12]) (gName 8)) (t_law_u5 K)
def t_law_u3 (K : PySem.W.Frag) : TS :=
  tSeq (tAsg (tOwn (sp_law_bcounts K) (tCons (tVar 3) (tCons (tVar 5) (tCons (tC (.int 9)) (tNil))))) (gName 7)) (t_law_u4 K)
def t_law_u2 (K : PySem.W.Frag) : TS :=
  tSeq (tAsg (tTup (tCons (tOwn (sp_law_brow K) (tCons (tVar 1) (tCons (tVar 3) (tCons (tC (.int 3)) (tNil))))) (tCons (tOwn (sp_law_brow K) (tCons (tVar 1) (tCons (tVar 3) (tCons (tC (.int 2)) (tNil))))) (tNil)))) (gTup K 2 (gCons (gName 5) (gCons (gName 6) (gNil))))) (t_law_u3 K)
def t_law_u1 (K : PySem.W.Frag) : TS :=
  tSeq (tAsg (tOwn (sp_law_bmade K) (tCons (tVar 1) (tCons (tVar 3) (tNil)))) (gName 4)) (t_law_u2 K)
def t_law_u0 (K : PySem.W.Frag) : TS :=
  tSeq (tAsg (tOwn (sp_law_bcore K) (tCons (tVar 1) (tCons (tOwn (sp_law_bsigns K) (tCons (tVar 1) (tCons (tOp (rPlus K) (tC (.int 1)) (tOwn (sp_law_below K) (tCons (tVar 1) (tCons (tC (.int 4)) (tNil))))) (tNil)))) (tCons (tOp (rPlus K) (tC (.int 1)) (tOwn (sp_law_below K) (tCons (tVar 1) (tCons (tC (.int 8)) (tNil))))) (tCons (tOwn (sp_law_pick K) (tCons (tVar 1) (tCons (tLst (tCons (tC (.int 1)) (tCons (tC (.int 2)) (tCons (tC (.int 3)) (tNil))))) (tNil)))) (tNil)))))) (gName 3)) (t_law_u1 K)
/-- a core, told twice -/
structure Sit (K : PySem.W.Frag) (H : Hp) (s c : Addr) (n : Nat) (a x : Addr) (S : Str) (m : Nat) (W : Wys) (F : Nat → List Nat) : Prop where
  st : Strm s c n H
  lc : LC K (hid [s, c] H) a S m W F
  cw : CW K (hid [s, c] H) x S m W F
  m8 : m ≤ 8
  r3 : ∀ w ∈ W, w.2.length ≤ 3
  cf : CountedF K
theorem Sit.frm {K : PySem.W.Frag} {H H' : Hp} {s c a x : Addr} {n n' : Nat} {S : Str} {m : Nat} {W : Wys} {F : Nat → List Nat} (h : Sit K H s c n a x S m W F) (f : Frm [s, c] H H') (st : Strm s c n' H') : Sit K H' s c n' a x S m W F :=
  ⟨st, h.lc.same (hid_frm f fun _ h => h), h.cw.same (hid_frm f fun _ h => h), h.m8, h.r3, h.cf⟩
/-- a row -/
structure Rw (K : PySem.W.Frag) (H : Hp) (s c p : Addr) (r : List Nat) (m : Nat) : Prop where
  sr : SqT K (hid [s, c] H) p (rI r)
  l3 : r.length ≤ 3
  ic : InC m r
theorem Rw.frm {K : PySem.W.Frag} {H H' : Hp} {s c p : Addr} {r : List Nat} {m : Nat} (h : Rw K H s c p r m) (f : Frm [s, c] H H') : Rw K H' s c p r m := ⟨sqt_same (hid_frm f fun _ h => h) h.sr, h.l3, h.ic⟩
/-- a list of values on the heap -/
structure Nl (H : Hp) (s c q : Addr) (vs : List V) : Prop where
  no : q ∉ [s, c]
  at_ : H q = some (.lst vs)
theorem Nl.frm {H H' : Hp} {s c q : Addr} {vs : List V} (h : Nl H s c q vs) (f : Frm [s, c] H H') : Nl H' s c q vs := ⟨h.no, f.at_ _ _ h.no h.at_⟩
theorem wf_l6 {S : Str} {m : Nat} {W : Wys} {F : Nat → List Nat} (w : WfC S m W F) : (cs S).length ≤ 6 := by have := w.len; rw [size_cs] at this; exact this
theorem wfps {S : Str} {m : Nat} {W : Wys} {F : Nat → List Nat} (w : WfC S m W F) : ∀ e ∈ W, e.2.length ≤ 60 ∧ ∀ k ∈ e.2, k < m := fun e he => (w.ok e he).2.2
theorem hok_dec : (∀ a, a < 8 → ∀ b, b < 8 → ((tls [a, b]).map hashR).Nodup) ∧ ∀ a, a < 8 → ∀ b, b < 8 → ∀ c, c < 8 → ((tls [a, b, c]).map hashR).Nodup := by decide +kernel
theorem hok_of {W : Wys} {m : Nat} (m8 : m ≤ 8) (r3 : ∀ w ∈ W, w.2.length ≤ 3) (ok : ∀ w ∈ W, ∀ k ∈ w.2, k < m) : HOK W := fun w hw => by
  have h3 := r3 w hw
  have h8 : ∀ k ∈ w.2, k < 8 := fun k hk => Nat.lt_of_lt_of_le (ok w hw k hk) m8
  generalize w.2 = r at h3 h8
  match r, h3, h8 with
  | [], _, _ => exact List.nodup_nil
  | [a], _, _ => simp [tls]
  | [a, b], _, h => exact hok_dec.1 a (h a (by simp)) b (h b (by simp))
  | [a, b, c], _, h => exact hok_dec.2 a (h a (by simp)) b (h b (by simp)) c (h c (by simp))
  | _ :: _ :: _ :: _ :: _, h, _ => simp at h
theorem cN_norm {S : Str} {m : Nat} {W : Wys} {F : Nat → List Nat} {r : List Nat} (w : WfC S m W F) (ic : InC m r) : cN W (cs S) r (sumN (fun k => (F k).length) r) ≠ 0 := by
  have h1 := rdt_first w.nd (fun e he => (w.ok e he).2.2.2) w.fst _ r [] (Nat.le_refl _) ic
  rw [List.append_nil] at h1
  have h2 : cat F r ∈ lts W (cs S) (sumN (fun k => (F k).length) r) r := lts_mem.mpr ⟨cat_len _, rdt_sg (fun e he => (w.ok e he).2.1) h1, h1⟩
  intro h0
  have h3 := List.length_eq_zero_iff.mp (show (lts W (cs S) (sumN (fun k => (F k).length) r) r).length = 0 from h0)
  rw [h3] at h2
  cases h2
theorem dqa_cV {K : PySem.W.Frag} {H : Hp} {W : Wys} {S r : List Nat} : ∀ l : List Nat, DqAll K H (l.map fun i => V.int ((cN W S r i : Nat) : Int)) (l.map fun i => PyData.int ((cN W S r i : Nat) : Int))
  | [] => .nil
  | k :: l => .cons (.int _) (dqa_cV l)
theorem rk_int : ∀ {l : List Nat} {f : Nat → Int}, rkAll (l.map fun i => PyData.int (f i)) = 0
  | [], _ => rfl
  | t :: r, f => by
    show max 0 (rkAll _) = 0
    rw [rk_int (l := r)]
    rfl
/-- the norm -/
theorem law_end {K : PySem.W.Frag} {D : Ends} {H : Hp} {o0 o2 o6 o8 o9 o10 o11 o12 o13 o14 : Option V} {s c a x p q : Addr} {n : Nat} {S : Str} {m : Nat} {W : Wys} {F : Nat → List Nat} {r : List Nat} (h : Sit K H s c n a x S m W F) (hr : Rw K H s c p r m) (hq : Nl H s c q (cV W (cs S) r 10))
    (k : ∀ o11 o14 H', Same H H' → D.nx [o0, some (.ref s), o2, some (.ref a), some (.ref x), some (.ref p), o6, some (.ref q), o8, o9, o10, o11, o12, o13, o14] H') :
    t_law_u9 K D [o0, some (.ref s), o2, some (.ref a), some (.ref x), some (.ref p), o6, some (.ref q), o8, o9, o10, o11, o12, o13, o14] H := by
  have sl : 1000000 ≤ sizeLine := by decide
  have hr3 := hr.l3
  have nz := cN_norm h.lc.w hr.ic
  have zr : ∀ L, L < sumN (fun k => (F k).length) r → cN W (cs S) r L = 0 := fun L hL => by
    have h1 := lts_norm (S := cs S) (L := L) (wfps h.lc.w) h.lc.w.fst hr.ic hL
    show (lts W (cs S) L r).length = 0
    rw [h1]
    rfl
  unfold t_law_u9
  walk_at "gw"
  refine ⟨x, S, m, W, F, p, r, rfl, h.cw.same hid_sub, .inr (sqt_same hid_sub hr.sr), by omega, hr.ic, fun H1 s1 => ?_⟩
  generalize sumN (fun k => (F k).length) r = N at nz zr
  walk_at "gw"
  refine w_iseqL ?_
  walk_at "gw"
  have hq1 : H1 q = some (.lst (cV W (cs S) r 10)) := s1 _ _ hq.at_
  refine sl_l (sql_of hq1) fun l hl => ?_
  rw [cutV_take]
  have n2 := same_new (o := .lst ((cV W (cs S) r 10).take N)) hl
  have el : upd H1 l (.lst ((cV W (cs S) r 10).take N)) l = some (.lst ((cV W (cs S) r 10).take N)) := upd_same
  have s2 : Same H (upd H1 l (.lst ((cV W (cs S) r 10).take N))) := fun b o e => n2 b o (s1 b o e)
  have hq2 := n2 _ _ hq1
  generalize upd H1 l (.lst ((cV W (cs S) r 10).take N)) = H2 at el s2 hq2
  have ll : ((cV W (cs S) r 10).take N).length ≤ 10 := by rw [List.length_take, cV_len]; omega
  refine e_ilist (sql_of el) ?_
  refine lc_im walk_list (fun _ => false) (fun _ => .non) (Nat.le_trans ll (by decide)) (fun _ H' _ e => sql_of (e _ _ el)) ?_ ?_
  · rintro j y H4 H5 KY KN hj s4 ⟨rfl, hy⟩ kY kN
    have hj2 : j < N ∧ j < 10 := by rw [List.length_take, cV_len] at hj; omega
    rw [List.getElem?_take, if_pos hj2.1, cV_get hj2.2, zr j hj2.1] at hy
    cases hy
    walk_at "gw"
    refine ⟨rfl, ?_⟩
    walk_at "gw"
    refine w_iteF (by decide) ?_
    exact kN rfl _ (Same.refl _)
  · intro D1 G1 hD s8 h5
    rw [given_off] at h5
    walk_at "gw"
    refine ⟨Nat.zero_le _, fun q0 hq0 => ?_⟩
    have n4 := same_new (o := .lst []) hq0
    refine ne_D (d := .list []) (.lst (sql_of (n4 _ _ h5)) .nil) (.lst (sql_of upd_same) .nil) ((sh_list (n := 0) fun d hd => by cases hd).ok (by decide)) ((sh_list (n := 0) fun d hd => by cases hd).ok (by decide)) ?_
    have hq4 := n4 _ _ (s8 _ _ hq2)
    have s9 : Same H (upd G1 q0 (.lst [])) := fun b o e => n4 b o (s8 b o (s2 b o e))
    walk_at "gw"
    refine w_iteF rfl ?_
    walk_at "gw"
    refine w_ite (fun e => ?_) (fun e => ?_)
    · have N10 : N < 10 := by have := of_decide_eq_true e; omega
      walk_at "gw"
      refine ix_l (v := .int ((cN W (cs S) r N : Nat) : Int)) (sql_of hq4) (atI_nat (j := N) (cV_get N10)) ?_
      walk_at "gw"
      refine w_iteF (decide_eq_false (by omega)) ?_
      walk_at "gw"
      exact k _ _ _ s9
    · refine w_iteF rfl ?_
      walk_at "gw"
      exact k _ _ _ s9
/-- the product rule -/
theorem law_prod {K : PySem.W.Frag} {D : Ends} {H : Hp} {o0 o2 o6 o8 o11 o12 o13 o14 : Option V} {s c a x p q bo se : Addr} {n : Nat} {S : Str} {m : Nat} {W : Wys} {F : Nat → List Nat} {r r2 : List Nat} (h : Sit K H s c n a x S m W F) (hr : Rw K H s c p r m) (hq : Nl H s c q (cV W (cs S) r 10))
    (hb : Nl H s c bo (cV W (cs S) (r ++ r2) 10)) (he : Nl H s c se (cV W (cs S) r2 10))
    (k : ∀ o11 o14 H', Same H H' → D.nx [o0, some (.ref s), o2, some (.ref a), some (.ref x), some (.ref p), o6, some (.ref q), o8, some (.ref bo), some (.ref se), o11, o12, o13, o14] H') :
    t_law_u8 K D [o0, some (.ref s), o2, some (.ref a), some (.ref x), some (.ref p), o6, some (.ref q), o8, some (.ref bo), some (.ref se), o11, o12, o13, o14] H := by
  have sl : 1000000 ≤ sizeLine := by decide
  have l6 := wf_l6 h.lc.w
  unfold t_law_u8
  walk_at "gw"
  refine e_rng (by decide) (by decide) ?_
  refine lc_im (walk_range (lo := 0) (n := 10)) (fun _ => true) (fun L => .int ((cN W (cs S) (r ++ r2) L : Nat) : Int)) (by decide) (fun _ _ _ _ => True.intro) ?_ ?_
  · rintro L y H7 H8 KY KN hn s7 ⟨rfl, rfl⟩ kY kN
    walk_at "gw"
    refine ⟨rfl, ?_⟩
    walk_at "gw"
    refine w_iteT rfl ?_
    walk_at "gw"
    refine e_rng (by omega) (by omega) ?_
    rw [show (0 : Int) + ((L : Nat) : Int) + 1 = ((L + 1 : Nat) : Int) by omega, show ((L + 1 : Nat) : Int).toNat = L + 1 by omega]
    refine lc_im (walk_range (lo := 0) (n := L + 1)) (fun _ => true) (fun k => .int (((cN W (cs S) r k * cN W (cs S) r2 (L - k)) : Nat) : Int)) (by omega) (fun _ _ _ _ => True.intro) ?_ ?_
    · rintro j y H9 H10 KY2 KN2 hk2 s9 ⟨rfl, rfl⟩ kY2 kN2
      walk_at "gw"
      refine ⟨rfl, ?_⟩
      walk_at "gw"
      refine w_iteT rfl ?_
      walk_at "gw"
      refine ix_l (v := .int ((cN W (cs S) r j : Nat) : Int)) (sql_of (s9 _ _ (s7 _ _ hq.at_))) (by rw [Int.zero_add]; exact atI_nat (j := j) (cV_get (by omega))) ?_
      walk_at "gw"
      refine ix_l (v := .int ((cN W (cs S) r2 (L - j) : Nat) : Int)) (sql_of (s9 _ _ (s7 _ _ he.at_))) (by rw [show (0 : Int) + ((L : Nat) : Int) - (0 + ((j : Nat) : Int)) = ((L - j : Nat) : Int) by omega]; exact atI_nat (j := L - j) (cV_get (by omega))) ?_
      exact times_w (cN_lt l6 (by omega)) (cN_lt l6 (by omega)) (kY2 rfl _ (Same.refl _))
    · intro D1 H9 hD s9 h5
      have eSum : (((List.range (L + 1)).map fun k => ((((cN W (cs S) r k * cN W (cs S) r2 (L - k)) : Nat) : Int))).sum) = ((cN W (cs S) (r ++ r2) L : Nat) : Int) := by
        rw [sum_cast (f := fun k => cN W (cs S) r k * cN W (cs S) r2 (L - k)), cN_app]
        rfl
      refine ⟨D1, (List.range (L + 1)).map fun k => ((((cN W (cs S) r k * cN W (cs S) r2 (L - k)) : Nat) : Int)), rfl, sql_of (h5.trans ?_), ?_⟩
      · unfold given
        rw [List.filter_eq_self.mpr (fun _ _ => rfl), List.map_map]
        rfl
      rw [eSum]
      exact kY rfl _ s9
  · intro D1 H7 hD s7 h5
    have hD6 : H7 D1 = some (.lst (cV W (cs S) (r ++ r2) 10)) := h5.trans (by
      unfold given cV
      rw [List.filter_eq_self.mpr (fun _ _ => rfl)])
    walk_at "gw"
    refine ⟨.ref bo, .ref D1, .list ((List.range 10).map fun i => PyData.int ((cN W (cs S) (r ++ r2) i : Nat) : Int)), rfl, .lst (sql_of (s7 _ _ hb.at_)) (by rw [cV_len]; omega) (dqa_cV _), .lst (sql_of hD6) (by rw [cV_len]; omega) (dqa_cV _), ?_, fun H8 s8 => ?_⟩
    · show rkAll _ + 1 ≤ 4
      rw [rk_int]
      decide
    walk_at "gw"
    refine w_iteF rfl ?_
    walk_at "gw"
    have s78 : Same H H8 := fun b o e => s8 b o (s7 b o e)
    have f8 : Frm [s, c] H H8 := Same.frm s78
    show t_law_u9 K _ _ _
    refine law_end (h.frm f8 (h.st.same s78)) (hr.frm f8) (hq.frm f8) fun o11 o14 H9 s9 => k _ _ _ fun b o e => s9 b o (s78 b o e)
theorem rI_app2 {a b : List Nat} : rI (a ++ b) = rI a ++ rI b := by unfold rI; rw [List.map_append]
theorem lc_cV {K : PySem.W.Frag} {H H7 : Hp} {D : Addr} {W : Wys} {S r : List Nat} {n : Nat} (h5 : H7 D = some (.lst (given n (fun _ => true) (fun L => V.int ((cN W S r L : Nat) : Int))))) : H7 D = some (.lst (cV W S r n)) := h5.trans (by
  unfold given cV
  rw [List.filter_eq_self.mpr (fun _ _ => rfl)])
theorem inC_app {m : Nat} {a b : List Nat} (ha : InC m a) (hb : InC m b) : InC m (a ++ b) := fun k hk => (List.mem_append.mp hk).elim (ha k) (hb k)
/-- both rows -/
theorem law_both {K : PySem.W.Frag} {D : Ends} {H : Hp} {o0 o2 o8 o9 o10 o11 o12 o13 o14 : Option V} {s c a x p p2 q : Addr} {n : Nat} {S : Str} {m : Nat} {W : Wys} {F : Nat → List Nat} {r r2 : List Nat} (h : Sit K H s c n a x S m W F) (hr : Rw K H s c p r m) (hr2 : Rw K H s c p2 r2 m) (hq : Nl H s c q (cV W (cs S) r 10))
    (k : ∀ o9 o10 o11 o14 H', Same H H' → D.nx [o0, some (.ref s), o2, some (.ref a), some (.ref x), some (.ref p), some (.ref p2), some (.ref q), o8, o9, o10, o11, o12, o13, o14] H') :
    t_law_u7 K D [o0, some (.ref s), o2, some (.ref a), some (.ref x), some (.ref p), some (.ref p2), some (.ref q), o8, o9, o10, o11, o12, o13, o14] H := by
  have sl : 1000000 ≤ sizeLine := by decide
  have hr3 := hr.l3
  have hr23 := hr2.l3
  have hok : HOK W := hok_of h.m8 h.r3 fun e he => (wfps h.lc.w e he).2
  unfold t_law_u7
  walk_at "gw"
  refine e_rng (by decide) (by decide) ?_
  refine lc_im (walk_range (lo := 0) (n := 10)) (fun _ => true) (fun L => .int ((cN W (cs S) (r ++ r2) L : Nat) : Int)) (by decide) (fun _ _ _ _ => True.intro) ?_ ?_
  · rintro L y H7 H8 KY KN hn s7 ⟨rfl, rfl⟩ kY kN
    walk_at "gw"
    refine ⟨rfl, ?_⟩
    walk_at "gw"
    refine w_iteT rfl ?_
    walk_at "gw"
    refine plus_t (s7 _ _ (sqt_same hid_sub hr.sr)) (s7 _ _ (sqt_same hid_sub hr2.sr)) (by rw [rI_len, rI_len]; omega) fun pp H9 s9 hpp => ?_
    rw [← rI_app2] at hpp
    walk_at "gw"
    have s79 : Same H H9 := fun b o e => s9 b o (s7 b o e)
    refine ⟨x, S, m, W, F, pp, r ++ r2, L, by simp only [Int.zero_add], h.cf, (h.cw.same hid_sub).same s79, hok, .inr hpp, by rw [List.length_append]; omega, inC_app hr.ic hr2.ic, by omega, fun H10 s10 => kY rfl _ fun b o e => s10 b o (s9 b o e)⟩
  · intro D1 H7 hD s7 h5
    have e1 := lc_cV (K := K) (H := H) h5
    have d1n : D1 ∉ [s, c] := h.st.inH.ne hD
    walk_at "gw"
    refine e_rng (by decide) (by decide) ?_
    refine lc_im (walk_range (lo := 0) (n := 10)) (fun _ => true) (fun L => .int ((cN W (cs S) r2 L : Nat) : Int)) (by decide) (fun _ _ _ _ => True.intro) ?_ ?_
    · rintro L y H8 H9 KY KN hn s8 ⟨rfl, rfl⟩ kY kN
      walk_at "gw"
      refine ⟨rfl, ?_⟩
      walk_at "gw"
      refine w_iteT rfl ?_
      walk_at "gw"
      have s78 : Same H H9 := fun b o e => s8 b o (s7 b o e)
      refine ⟨x, S, m, W, F, p2, r2, L, by simp only [Int.zero_add], h.cf, (h.cw.same hid_sub).same s78, hok, .inr (s78 _ _ (sqt_same hid_sub hr2.sr)), by omega, hr2.ic, by omega, fun H10 s10 => kY rfl _ s10⟩
    · intro D2 H8 hD2 s8 h52
      have e2 := lc_cV (K := K) (H := H) h52
      have s08 : Same H H8 := fun b o e => s8 b o (s7 b o e)
      have d2n : D2 ∉ [s, c] := h.st.inH.ne (same_free s7 hD2)
      walk_at "gw"
      refine ⟨by show 2 ≤ sizeLine; omega, fun p3 hp3 => ?_⟩
      have n9 := same_new (o := .tup [V.ref D1, V.ref D2]) hp3
      refine w_gtup (sqt_of upd_same) rfl ?_
      have e19 := n9 _ _ (s8 _ _ e1)
      have e29 := n9 _ _ e2
      have s09 : Same H (upd H8 p3 (.tup [V.ref D1, V.ref D2])) := fun b o e => n9 b o (s08 b o e)
      generalize upd H8 p3 (.tup [V.ref D1, V.ref D2]) = H9 at e19 e29 s09
      show gCons (gName 9) (gCons (gName 10) gNil) [V.ref D1, V.ref D2] _ _ _
      walk_at "gw"
      have f9 : Frm [s, c] H H9 := Same.frm s09
      refine law_prod (h.frm f9 (h.st.same s09)) (hr.frm f9) (hq.frm f9) ⟨d1n, e19⟩ ⟨d2n, e29⟩ fun o11 o14 H10 s10 => k _ _ _ _ _ fun b o e => s10 b o (s09 b o e)
/-- the listed texts' number -/
theorem law_lens {K : PySem.W.Frag} {D : Ends} {H : Hp} {o0 o2 o8 o9 o10 o11 o12 o13 o14 : Option V} {s c a x p p2 q : Addr} {n : Nat} {S : Str} {m : Nat} {W : Wys} {F : Nat → List Nat} {r r2 : List Nat} (h : Sit K H s c n a x S m W F) (hr : Rw K H s c p r m) (hr2 : Rw K H s c p2 r2 m) (hq : Nl H s c q (cV W (cs S) r 10))
    (k : ∀ o9 o10 o11 o14 H', Same H H' → D.nx [o0, some (.ref s), o2, some (.ref a), some (.ref x), some (.ref p), some (.ref p2), some (.ref q), o8, o9, o10, o11, o12, o13, o14] H') :
    t_law_u6 K D [o0, some (.ref s), o2, some (.ref a), some (.ref x), some (.ref p), some (.ref p2), some (.ref q), o8, o9, o10, o11, o12, o13, o14] H := by
  have sl : 1000000 ≤ sizeLine := by decide
  have hr3 := hr.l3
  unfold t_law_u6
  walk_at "gw"
  refine e_rng (by decide) (by decide) ?_
  refine lc_im (walk_range (lo := 0) (n := 5)) (fun _ => true) (fun L => .int ((cN W (cs S) r L : Nat) : Int)) (by decide) (fun _ _ _ _ => True.intro) ?_ ?_
  · rintro L y H7 H8 KY KN hn s7 ⟨rfl, rfl⟩ kY kN
    walk_at "gw"
    refine ⟨rfl, ?_⟩
    walk_at "gw"
    refine w_iteT rfl ?_
    walk_at "gw"
    refine ⟨x, S, m, W, F, p, r, L, by simp only [Int.zero_add], (h.cw.same hid_sub).same s7, .inr (s7 _ _ (sqt_same hid_sub hr.sr)), by omega, hr.ic, by omega, fun l H9 s9 hl e9 => ?_⟩
    have el : (txV (lts W (cs S) L r)).length = cN W (cs S) r L := by simp [txV, cN]
    walk_at "gw"
    rw [el]
    exact kY rfl _ s9
  · intro D1 H7 hD s7 h5
    have e1 := lc_cV (K := K) (H := H) h5
    have hq7 := s7 _ _ hq.at_
    walk_at "gw"
    refine sl_l (sql_of hq7) fun l hl => ?_
    have n8 := same_new (o := .lst (cutV (cV W (cs S) r 10) none (some 5))) hl
    have e8 : upd H7 l (.lst (cutV (cV W (cs S) r 10) none (some 5))) l = some (.lst (cV W (cs S) r 5)) := by
      rw [upd_same, show (5 : Int) = ((5 : Nat) : Int) from rfl, cutV_take]
      unfold cV
      rw [← List.map_take, List.take_range]
      rfl
    walk_at "gw"
    refine ⟨.ref D1, .ref l, .list ((List.range 5).map fun i => PyData.int ((cN W (cs S) r i : Nat) : Int)), rfl, .lst (sql_of (n8 _ _ e1)) (by rw [cV_len]; omega) (dqa_cV _), .lst (sql_of e8) (by rw [cV_len]; omega) (dqa_cV _), ?_, fun H8 s8 => ?_⟩
    · show rkAll _ + 1 ≤ 4
      rw [rk_int]
      decide
    walk_at "gw"
    refine w_iteF rfl ?_
    walk_at "gw"
    have s78 : Same H H8 := fun b o e => s8 b o (n8 b o (s7 b o e))
    have f8 : Frm [s, c] H H8 := Same.frm s78
    refine law_both (h.frm f8 (h.st.same s78)) (hr.frm f8) (hr2.frm f8) (hq.frm f8) fun o9 o10 o11 o14 H9 s9 => k _ _ _ _ _ fun b o e => s9 b o (s78 b o e)
/-- the counts -/
theorem law_found {K : PySem.W.Frag} {D : Ends} {H : Hp} {o0 o2 o9 o10 o11 o12 o13 o14 : Option V} {s c a x p p2 q q8 : Addr} {n : Nat} {S : Str} {m : Nat} {W : Wys} {F : Nat → List Nat} {r r2 : List Nat} (h : Sit K H s c n a x S m W F) (hr : Rw K H s c p r m) (hr2 : Rw K H s c p2 r2 m) (hq : Nl H s c q (cV W (cs S) r 10)) (hq8 : Nl H s c q8 (cV W (cs S) r 10))
    (k : ∀ o9 o10 o11 o14 H', Same H H' → D.nx [o0, some (.ref s), o2, some (.ref a), some (.ref x), some (.ref p), some (.ref p2), some (.ref q), some (.ref q8), o9, o10, o11, o12, o13, o14] H') :
    t_law_u5 K D [o0, some (.ref s), o2, some (.ref a), some (.ref x), some (.ref p), some (.ref p2), some (.ref q), some (.ref q8), o9, o10, o11, o12, o13, o14] H := by
  have sl : 1000000 ≤ sizeLine := by decide
  unfold t_law_u5
  walk_at "gw"
  refine ⟨.ref q8, .ref q, .list ((List.range 10).map fun i => PyData.int ((cN W (cs S) r i : Nat) : Int)), rfl, .lst (sql_of hq8.at_) (by rw [cV_len]; omega) (dqa_cV _), .lst (sql_of hq.at_) (by rw [cV_len]; omega) (dqa_cV _), ?_, fun H8 s8 => ?_⟩
  · show rkAll _ + 1 ≤ 4
    rw [rk_int]
    decide
  walk_at "gw"
  refine w_iteF rfl ?_
  walk_at "gw"
  have f8 : Frm [s, c] H H8 := Same.frm s8
  refine law_lens (h.frm f8 (h.st.same s8)) (hr.frm f8) (hr2.frm f8) (hq.frm f8) fun o9 o10 o11 o14 H9 s9 => k _ _ _ _ _ fun b o e => s9 b o (s8 b o e)
/-- counted by loose copies -/
theorem law_cnt {K : PySem.W.Frag} {D : Ends} {H : Hp} {o0 o2 o8 o9 o10 o11 o12 o13 o14 : Option V} {s c a x p p2 q : Addr} {n : Nat} {S : Str} {m : Nat} {W : Wys} {F : Nat → List Nat} {r r2 : List Nat} (h : Sit K H s c n a x S m W F) (hn : n + 1000 < 1099511627776) (hr : Rw K H s c p r m) (hr2 : Rw K H s c p2 r2 m) (hq : Nl H s c q (cV W (cs S) r 10))
    (k : ∀ o8 o9 o10 o11 o14 H' k, k ≤ 100 → Frm [s, c] H H' → Strm s c (n + k) H' → D.nx [o0, some (.ref s), o2, some (.ref a), some (.ref x), some (.ref p), some (.ref p2), some (.ref q), o8, o9, o10, o11, o12, o13, o14] H') :
    t_law_u4 K D [o0, some (.ref s), o2, some (.ref a), some (.ref x), some (.ref p), some (.ref p2), some (.ref q), o8, o9, o10, o11, o12, o13, o14] H := by
  have sl : 1000000 ≤ sizeLine := by decide
  have hr3 := hr.l3
  have hok : HOK W := hok_of h.m8 h.r3 fun e he => (wfps h.lc.w e he).2
  unfold t_law_u4
  walk_at "gw"
  refine e_rng (by decide) (by decide) ?_
  refine lc_full (walk_range (lo := 0) (n := 10)) [s, c] [s, c] (fun i acc H' => Strm s c (n + i) H' ∧ acc = cV W (cs S) r i) (fun _ _ _ => True) h.st.inH (fun _ h => h) ?_ ⟨h.st, rfl⟩ (fun _ _ => True.intro) (fun _ _ _ _ _ _ => True.intro) (fun _ _ _ _ _ _ => True.intro) ?_ ?_ ?_
  · rintro i acc H2 D1 ys hD ⟨st2, r⟩
    have n1 := h.st.inH.ne hD
    simp only [List.mem_cons, not_or] at n1
    obtain ⟨n2, n3, _⟩ := n1
    exact ⟨st2.frm (R := [D1]) (frm_upd (by simp)) (by simpa using Ne.symm n2) (by simpa using Ne.symm n3), r⟩
  · exact Nat.le_trans (show 10 ≤ 100 by omega) (by decide)
  · rintro D1 i acc y H2 H3 Nx hD hi f kn inn hd' ⟨st2, rfl⟩ _ hl ⟨rfl, rfl⟩ kY kN
    walk_at "gw"
    refine ⟨rfl, ?_⟩
    walk_at "gw"
    refine w_iteT rfl ?_
    walk_at "gw"
    have f2 : Frm [s, c] H H3 := ⟨fun b o hb e => f.at_ b o (by simpa using hb) e, fun b hb => f.live b hb⟩
    have h2 := h.frm f2 st2
    have hr2' := hr.frm f2
    refine .inr ⟨s, c, _, p, r, [s, c], rfl, by decide, st2, by omega, st2.inH, fun _ h => h, .inr hr2'.sr, by omega, fun v H4 f4 st4 rv => ?_⟩
    obtain ⟨a2, rfl, ha2⟩ := rv
    have h4 := h2.frm f4 st4
    walk_at "gw"
    refine ⟨x, S, m, W, F, a2, r, i, by simp only [Int.zero_add], h.cf, h4.cw.same hid_sub, hok, sqa_same hid_sub ha2, by omega, hr.ic, by omega, fun H5 s5 => ?_⟩
    refine kY _ _ (f4.trans (Same.frm s5)) ⟨?_, ?_⟩ True.intro
    · rw [show n + (i + 1) = n + i + 1 by omega]
      exact st4.same s5
    · rw [cV_snoc]
  · rintro D1 acc H2 hD f inn kn hd' ⟨st2, rfl⟩ _ _
    walk_at "gw"
    have f2 : Frm [s, c] H H2 := ⟨fun b o hb e => f.at_ b o (by simpa using hb) e, fun b hb => f.live b hb⟩
    have h2 := h.frm f2 st2
    refine law_found h2 (hr.frm f2) (hr2.frm f2) (hq.frm f2) ⟨h.st.inH.ne hD, hd'⟩ fun o9 o10 o11 o14 H9 s9 => ?_
    exact k _ _ _ _ _ _ 10 (by omega) (f2.trans (Same.frm s9)) (st2.same s9)
/-- one core's look -/
theorem law_look {K : PySem.W.Frag} {D : Ends} {H : Hp} {o0 o2 o5 o6 o7 o8 o9 o10 o11 o12 o13 o14 : Option V} {s c a x : Addr} {n : Nat} {S : Str} {m : Nat} {W : Wys} {F : Nat → List Nat} (h : Sit K H s c n a x S m W F) (hn : n + 10000 < 1099511627776)
    (k : ∀ o5 o6 o7 o8 o9 o10 o11 o14 H' k, k ≤ 1000 → Strm s c (n + k) H' → D.nx [o0, some (.ref s), o2, some (.ref a), some (.ref x), o5, o6, o7, o8, o9, o10, o11, o12, o13, o14] H') :
    t_law_u2 K D [o0, some (.ref s), o2, some (.ref a), some (.ref x), o5, o6, o7, o8, o9, o10, o11, o12, o13, o14] H := by
  have sl : 1000000 ≤ sizeLine := by decide
  unfold t_law_u2
  walk_at "gw"
  refine ⟨s, c, a, n, 3, S, m, W, F, rfl, h.st, by omega, by omega, h.lc.same hid_sub, fun p r k1 H1 hl ic hk1 f1 st1 hp hp1 => ?_⟩
  have pn : p ∉ [s, c] := h.st.inH.ne hp
  have h1 := h.frm f1 st1
  walk_at "gw"
  refine ⟨s, c, a, _, 2, S, m, W, F, rfl, st1, by omega, by omega, h1.lc.same hid_sub, fun p2 r2 k2 H2 hl2 ic2 hk2 f2 st2 hp2 hp21 => ?_⟩
  have p2n : p2 ∉ [s, c] := st1.inH.ne hp2
  have h2 := h1.frm f2 st2
  have e1 := f2.at_ _ _ pn hp1
  walk_at "gw"
  refine ⟨by show 2 ≤ sizeLine; omega, fun p3 hp3 => ?_⟩
  have n9 := same_new (o := .tup [V.ref p, V.ref p2]) hp3
  refine w_gtup (sqt_of upd_same) rfl ?_
  have e19 := n9 _ _ e1
  have e29 := n9 _ _ hp21
  have h3 := h2.frm (Same.frm n9) (st2.same n9)
  generalize upd H2 p3 (.tup [V.ref p, V.ref p2]) = H3 at e19 e29 h3
  show gCons (gName 5) (gCons (gName 6) gNil) [V.ref p, V.ref p2] _ _ _
  walk_at "gw"
  unfold t_law_u3
  walk_at "gw"
  refine ⟨a, S, m, W, F, p, r, 9, rfl, h3.lc.same hid_sub, e19, by omega, ic, by omega, h.m8, h.r3, fun l H4 s4 hl4 e4 => ?_⟩
  walk_at "gw"
  have h4 := h3.frm (Same.frm s4) (h3.st.same s4)
  have rw1 : Rw K H4 s c p r m := ⟨by show hid [s, c] H4 p = _; rw [hid_at pn]; exact s4 _ _ e19, hl, ic⟩
  have rw2 : Rw K H4 s c p2 r2 m := ⟨by show hid [s, c] H4 p2 = _; rw [hid_at p2n]; exact s4 _ _ e29, by omega, ic2⟩
  refine law_cnt h4 (by omega) rw1 rw2 ⟨h3.st.inH.ne hl4, e4⟩ fun o8 o9 o10 o11 o14 H5 k5 hk5 f5 st5 => ?_
  refine k _ _ _ _ _ _ _ _ _ (k1 + k2 + k5) (by omega) ?_
  rw [show n + (k1 + k2 + k5) = n + k1 + k2 + k5 by omega]
  exact st5
def sp_law (K : PySem.W.Frag) : Sp := fun vs H Q _ => ∃ (a : Addr) (ns : List Int), vs = [.ref a] ∧ CoreF K ∧ CountedF K ∧ SqL K H a (ns.map V.int) ∧ ns.length ≤ 63 ∧ ∀ H', Q (.bl true) H'
theorem law_turn {K : PySem.W.Frag} {D : Ends} {H : Hp} {o0 o2 o3 o4 o5 o6 o7 o8 o9 o10 o11 o12 o13 o14 : Option V} {s c : Addr} {n : Nat} (CF : CoreF K) (CC : CountedF K) (st : Strm s c n H) (hn : n + 10000000 < 1099511627776)
    (k : ∀ o3 o4 o5 o6 o7 o8 o9 o10 o11 o12 o13 o14 H' k, k ≤ 2000000 → Strm s c (n + k) H' → D.nx [o0, some (.ref s), o2, o3, o4, o5, o6, o7, o8, o9, o10, o11, o12, o13, o14] H') :
    t_law_u0 K D [o0, some (.ref s), o2, o3, o4, o5, o6, o7, o8, o9, o10, o11, o12, o13, o14] H := by
  have sl : 1000000 ≤ sizeLine := by decide
  unfold t_law_u0
  walk_at "gw"
  refine ⟨s, c, n, 4, rfl, st, by decide, by decide, by omega, fun k1 H1 hk1 f1 st1 => ?_⟩
  walk_at "gw"
  refine ⟨s, c, _, 1 + k1, by rw [Int.natCast_add]; rfl, st1, by omega, by omega, by omega, fun l H2 hl lso lnd lsg f2 st2 => ?_⟩
  walk_at "gw"
  refine ⟨s, c, _, 8, rfl, st2, by decide, by decide, by omega, fun k2 H3 hk2 f3 st3 => ?_⟩
  walk_at "gw"
  refine ⟨by show 3 ≤ sizeLine; omega, fun l0 hl0 => ?_⟩
  have s4 := same_new (o := .lst [V.int 1, V.int 2, V.int 3]) hl0
  have ln : l0 ∉ [s, c] := st3.inH.ne hl0
  walk_at "gw"
  refine ⟨s, c, _, l0, _, rfl, st3.same s4, by omega, .inl (sql_of (by rw [hid_at ln]; exact upd_same)), by simp, by simp, fun j v H5 hv f5 st5 => ?_⟩
  obtain ⟨mo, hmo, rfl⟩ : ∃ mo : Nat, mo ≤ 3 ∧ v = .int (mo : Nat) := by
    have hm := List.mem_of_getElem? hv
    simp only [List.mem_cons, List.not_mem_nil, or_false] at hm
    rcases hm with rfl | rfl | rfl
    · exact ⟨1, by omega, rfl⟩
    · exact ⟨2, by omega, rfl⟩
    · exact ⟨3, by omega, rfl⟩
  walk_at "gw"
  have hsg : isSigns (mkS l) = true := signs_of (by omega) (by omega) lsg lnd
  refine ⟨s, c, _, mkS l, 1 + k2, mo, by rw [Int.natCast_add]; rfl, st5, by omega, hsg, by show l.length ≤ 6; omega, by rw [cs_mk]; exact lso, by omega, by omega, by omega, fun a W F k6 H6 hk6 f6 st6 lc w2 => ?_⟩
  walk_at "gw"
  unfold t_law_u1
  walk_at "gw"
  refine ⟨s, c, _, a, mkS l, 1 + k2, W, F, rfl, CF, st6, by omega, lc, fun x k7 H7 hk7 f7 st7 cw => ?_⟩
  have h7 : Sit K H7 s c _ a x (mkS l) (1 + k2) W F := ⟨st7, lc.same (hid_frm f7 fun _ h => h), cw, by omega, fun w hw => by have := w2 w hw; omega, CC⟩
  walk_at "gw"
  refine law_look h7 (by omega) fun o5 o6 o7 o8 o9 o10 o11 o14 H9 k9 hk9 st9 => ?_
  refine k _ _ _ _ _ _ _ _ _ _ _ _ _ (1 + (1 + k1) + 1 + 1 + k6 + k7 + k9) (by omega) ?_
  have e : n + (1 + (1 + k1) + 1 + 1 + k6 + k7 + k9) = n + 1 + (1 + k1) + 1 + 1 + k6 + k7 + k9 := by omega
  rw [e]
  exact st9
theorem pure_law {K : PySem.W.Frag} (vs : List V) (H : Hp) (Q : VK) (E : XK) (h : sp_law K vs H Q E) : t_law K { nx := fun _ H' => Q .non H', rt := Q } (start n_law vs) H := by
  obtain ⟨a, ns, rfl, CF, CC, hs, hn, q⟩ := h
  unfold t_law
  walk_at "gw"
  refine ⟨a, ns, rfl, hs, fun s c H1 s1 hs1 hc1 st => ?_⟩
  walk_at "gw"
  refine e_rng (by decide) (by decide) ?_
  refine for_it (walk_range (lo := 0) (n := 5)) (fun i σ H' => ∃ o2 o3 o4 o5 o6 o7 o8 o9 o10 o11 o12 o13 o14, σ = [some (.ref a), some (.ref s), o2, o3, o4, o5, o6, o7, o8, o9, o10, o11, o12, o13, o14] ∧ ∃ k, k ≤ 2000000 * i ∧ Strm s c k H')
    ⟨_, _, _, _, _, _, _, _, _, _, _, _, _, rfl, 0, by omega, st⟩ (fun _ _ _ _ _ => True.intro) ?_ ?_
  · rintro i y σ G1 G2 hi ⟨o2, o3, o4, o5, o6, o7, o8, o9, o10, o11, o12, o13, o14, rfl, k8, hk8, st8⟩ ⟨rfl, rfl⟩
    refine w_gn ?_
    show t_law_u0 K _ _ _
    refine law_turn CF CC st8 (by omega) fun o3 o4 o5 o6 o7 o8 o9 o10 o11 o12 o13 o14 H9 k9 hk9 st9 => ?_
    exact ⟨_, _, _, _, _, _, _, _, _, _, _, _, _, rfl, k8 + k9, by omega, st9⟩
  · rintro σ G1 ⟨o2, o3, o4, o5, o6, o7, o8, o9, o10, o11, o12, o13, o14, rfl, k8, hk8, st8⟩
    unfold t_law_p2
    walk_at "gw"
    exact q _
end Pt.Re
namespace Pt
theorem bindsKw {K : PySem.W.Frag} {x qual : Str} {params : Arguments} {body : List Stmt} {scope : Scope} {kws : List (Str × V)} {f : Addr} {fd : FuncData} {ps : List Str} (F : FunD K x qual params body scope [] kws f fd)
    (h : ∀ (kV doc pm : Value) (an : Option Addr) (cdv ct : Value) (us : List Value), us.length = ps.length → bindArgs (PySem.W.fnOf x qual params body scope .none kV doc pm an cdv ct) ⟨[], ps.zip us⟩ = pure (ps.zip us)) (s : Shared) (us : List Value) (hl : us.length = ps.length) : BindsTo s fd ⟨[], ps.zip us⟩ (ps.zip us) := by
  obtain ⟨oc, od, dV, kV, doc, pm, an, cdv, ct, osl, rfl, lk, hcd, hD, hK⟩ := F.ex
  rcases hD with ⟨_, rfl⟩ | ⟨e, _⟩
  · exact .of_eq (h kV doc pm an cdv ct us hl)
  · exact absurd rfl e
end Pt
namespace Pt.Re
theorem sc_is_sign : FnScope n_is_sign ["thing"] (defScope s_is_sign) := ⟨rfl, rfl, rfl, by decide +kernel, rfl, by decide +kernel, by decide +kernel⟩
theorem sc_is_signs : FnScope n_is_signs ["thing"] (defScope s_is_signs) := ⟨rfl, rfl, rfl, by decide +kernel, rfl, by decide +kernel, by decide +kernel⟩
theorem sc_is_integer : FnScope n_is_integer ["thing"] (defScope s_is_integer) := ⟨rfl, rfl, rfl, by decide +kernel, rfl, by decide +kernel, by decide +kernel⟩
theorem sc_is_row : FnScope n_is_row ["core", "thing"] (defScope s_is_row) := ⟨rfl, rfl, rfl, by decide +kernel, rfl, by decide +kernel, by decide +kernel⟩
theorem sc_are_ways : FnScope n_are_ways ["core", "ways"] (defScope s_are_ways) := ⟨rfl, rfl, rfl, by decide +kernel, rfl, by decide +kernel, by decide +kernel⟩
theorem sc_shortest_of : FnScope n_shortest_of ["core"] (defScope s_shortest_of) := ⟨rfl, rfl, rfl, by decide +kernel, rfl, by decide +kernel, by decide +kernel⟩
theorem sc_Core_init__ : FnScope n_Core_init__ ["self", "signs", "many", "ways"] (defScope s_Core_init__) := ⟨rfl, rfl, rfl, by decide +kernel, rfl, by decide +kernel, by decide +kernel⟩
theorem sc_need_core : FnScope n_need_core ["core"] (defScope s_need_core) := ⟨rfl, rfl, rfl, by decide +kernel, rfl, by decide +kernel, by decide +kernel⟩
theorem sc_need_row : FnScope n_need_row ["core", "row"] (defScope s_need_row) := ⟨rfl, rfl, rfl, by decide +kernel, rfl, by decide +kernel, by decide +kernel⟩
theorem sc_norm_by : FnScope n_norm_by ["core", "row"] (defScope s_norm_by) := ⟨rfl, rfl, rfl, by decide +kernel, rfl, by decide +kernel, by decide +kernel⟩
theorem sc_norm_of : FnScope n_norm_of ["core", "row"] (defScope s_norm_of) := ⟨rfl, rfl, rfl, by decide +kernel, rfl, by decide +kernel, by decide +kernel⟩
theorem sc_behind : FnScope n_behind ["core", "row", "sign"] (defScope s_behind) := ⟨rfl, rfl, rfl, by decide +kernel, rfl, by decide +kernel, by decide +kernel⟩
theorem sc_need_length : FnScope n_need_length ["length", "most"] (defScope s_need_length) := ⟨rfl, rfl, rfl, by decide +kernel, rfl, by decide +kernel, by decide +kernel⟩
theorem sc_texts_of : FnScope n_texts_of ["core", "row", "length"] (defScope s_texts_of) := ⟨rfl, rfl, rfl, by decide +kernel, rfl, by decide +kernel, by decide +kernel⟩
theorem sc_tails_of : FnScope n_tails_of ["core"] (defScope s_tails_of) := ⟨rfl, rfl, rfl, by decide +kernel, rfl, by decide +kernel, by decide +kernel⟩
theorem sc_kind_counts : FnScope n_kind_counts ["core", "size"] (defScope s_kind_counts) := ⟨rfl, rfl, rfl, by decide +kernel, rfl, by decide +kernel, by decide +kernel⟩
theorem sc_Counted_init__ : FnScope n_Counted_init__ ["self", "core", "size"] (defScope s_Counted_init__) := ⟨rfl, rfl, rfl, by decide +kernel, rfl, by decide +kernel, by decide +kernel⟩
theorem sc_Counted_row : FnScope n_Counted_row ["self", "row"] (defScope s_Counted_row) := ⟨rfl, rfl, rfl, by decide +kernel, rfl, by decide +kernel, by decide +kernel⟩
theorem sc_count : FnScope n_count ["core", "row", "length"] (defScope s_count) := ⟨rfl, rfl, rfl, by decide +kernel, rfl, by decide +kernel, by decide +kernel⟩
theorem sc_law_start : FnScope n_law_start ["script"] (defScope s_law_start) := ⟨rfl, rfl, rfl, by decide +kernel, rfl, by decide +kernel, by decide +kernel⟩
theorem sc_law_below : FnScope n_law_below ["stream", "many"] (defScope s_law_below) := ⟨rfl, rfl, rfl, by decide +kernel, rfl, by decide +kernel, by decide +kernel⟩
theorem sc_law_pick : FnScope n_law_pick ["stream", "some"] (defScope s_law_pick) := ⟨rfl, rfl, rfl, by decide +kernel, rfl, by decide +kernel, by decide +kernel⟩
theorem sc_law_mixed : FnScope n_law_mixed ["stream", "some"] (defScope s_law_mixed) := ⟨rfl, rfl, rfl, by decide +kernel, rfl, by decide +kernel, by decide +kernel⟩
theorem sc_law_same : FnScope n_law_same ["found", "due"] (defScope s_law_same) := ⟨rfl, rfl, rfl, by decide +kernel, rfl, by decide +kernel, by decide +kernel⟩
theorem sc_law_loose : FnScope n_law_loose ["stream", "thing"] (defScope s_law_loose) := ⟨rfl, rfl, rfl, by decide +kernel, rfl, by decide +kernel, by decide +kernel⟩
theorem sc_law_bpool : FnScope n_law_bpool [] (defScope s_law_bpool) := ⟨rfl, rfl, rfl, by decide +kernel, rfl, by decide +kernel, by decide +kernel⟩
theorem sc_law_bsigns : FnScope n_law_bsigns ["stream", "many"] (defScope s_law_bsigns) := ⟨rfl, rfl, rfl, by decide +kernel, rfl, by decide +kernel, by decide +kernel⟩
theorem sc_law_bkinds : FnScope n_law_bkinds ["stream", "many", "most"] (defScope s_law_bkinds) := ⟨rfl, rfl, rfl, by decide +kernel, rfl, by decide +kernel, by decide +kernel⟩
theorem sc_law_bcore : FnScope n_law_bcore ["stream", "signs", "many", "most"] (defScope s_law_bcore) := ⟨rfl, rfl, rfl, by decide +kernel, rfl, by decide +kernel, by decide +kernel⟩
theorem sc_law_bmade : FnScope n_law_bmade ["stream", "core"] (defScope s_law_bmade) := ⟨rfl, rfl, rfl, by decide +kernel, rfl, by decide +kernel, by decide +kernel⟩
theorem sc_law_bbehind : FnScope n_law_bbehind ["core", "row", "sign"] (defScope s_law_bbehind) := ⟨rfl, rfl, rfl, by decide +kernel, rfl, by decide +kernel, by decide +kernel⟩
theorem sc_law_bfirsts : FnScope n_law_bfirsts ["core"] (defScope s_law_bfirsts) := ⟨rfl, rfl, rfl, by decide +kernel, rfl, by decide +kernel, by decide +kernel⟩
theorem sc_law_bnorm : FnScope n_law_bnorm ["firsts", "row"] (defScope s_law_bnorm) := ⟨rfl, rfl, rfl, by decide +kernel, rfl, by decide +kernel, by decide +kernel⟩
theorem sc_law_bcounts : FnScope n_law_bcounts ["core", "row", "most"] (defScope s_law_bcounts) := ⟨rfl, rfl, rfl, by decide +kernel, rfl, by decide +kernel, by decide +kernel⟩
theorem sc_law_brow : FnScope n_law_brow ["stream", "core", "most"] (defScope s_law_brow) := ⟨rfl, rfl, rfl, by decide +kernel, rfl, by decide +kernel, by decide +kernel⟩
theorem sc_law : FnScope n_law ["script"] (defScope s_law) := ⟨rfl, rfl, rfl, by decide +kernel, rfl, by decide +kernel, by decide +kernel⟩
structure Txt (K : PySem.W.Frag) (mg : Str → Option Value) : Prop where
  ex : ∃ h : Heap, K.In h ∧ h.Ns mainGlobals mg
  says : He.SaysD fa fn K
  tCore : clsT "Core" K = true
  tCounted : clsT "Counted" K = true
section
variable {K : PySem.W.Frag} {mg : Str → Option Value}
theorem Txt.fr (T : Txt K mg) (i : Nat) {x : Str} (h : fa[i]? = some (.free x) := by rfl) : mg x = none := by
  obtain ⟨_, X, G⟩ := T.ex
  exact He.free_ok X G (T.says.fact i h)
theorem Txt.g (T : Txt K mg) (i : Nat) {x : Str} (h : fa[i]? = some (.glo x) := by rfl) : mg x = some (.ref (He.ga K x)) := by
  obtain ⟨_, X, G⟩ := T.ex
  exact He.glo_ok X G (T.says.fact i h)
theorem Txt.gi (T : Txt K mg) (i : Nat) {x : Str} {z : Int} (h : fa[i]? = some (.int x z) := by rfl) : ∃ t, mg x = some (.int z t) := by
  obtain ⟨_, X, G⟩ := T.ex
  exact He.int_ok X G (T.says.fact i h)
theorem Txt.gs (T : Txt K mg) (i : Nat) {x z : Str} (h : fa[i]? = some (.str x z) := by rfl) : ∃ t, mg x = some (.str z t) := by
  obtain ⟨_, X, G⟩ := T.ex
  exact He.str_ok X G (T.says.fact i h)
end
theorem Txt.FCore {K : PySem.W.Frag} {mg : Str → Option Value} (T : Txt K mg) : CoreF K := ⟨clsF_of (He.cls_ok (T.says.fact 55 rfl)) T.tCore, fun f hf => by
  simp only [List.mem_cons, List.not_mem_nil, or_false] at hf
  rcases hf with rfl | rfl | rfl | rfl
  · exact He.noat_ok (T.says.fact 57 rfl)
  · exact He.noat_ok (T.says.fact 58 rfl)
  · exact He.noat_ok (T.says.fact 59 rfl)
  · exact He.noat_ok (T.says.fact 60 rfl)⟩
theorem Txt.FCounted {K : PySem.W.Frag} {mg : Str → Option Value} (T : Txt K mg) : CountedF K := ⟨clsF_of (He.cls_ok (T.says.fact 62 rfl)) T.tCounted, fun f hf => by
  simp only [List.mem_cons, List.not_mem_nil, or_false] at hf
  rcases hf with rfl | rfl | rfl
  · exact He.noat_ok (T.says.fact 64 rfl)
  · exact He.noat_ok (T.says.fact 65 rfl)
  · exact He.noat_ok (T.says.fact 66 rfl)⟩
def scR : Scope := { kind := .function, names := [(".0", .local), ("n", .cell), ("sum", .globalImplicit), ("range", .globalImplicit), ("one", .cell), ("rest", .cell)], isGenerator := false, isCoroutine := false }
def scL : Scope := { kind := .function, names := [(".0", .local), ("length", .cell), ("sum", .globalImplicit), ("range", .globalImplicit), ("due", .cell), ("second", .cell)], isGenerator := false, isCoroutine := false }
set_option maxHeartbeats 4000000 in
theorem der_is_sign {P : Program} {w : World} {K : PySem.W.Frag} {mg : Str → Option Value} {base : Heap} (T : Txt K mg) {cdv : Value} {A : Around} {outer : List Env} {s : Shared} {H : Hp} {E : XK} {f : Addr} (hr : Room 0 (A.deeper (envOfC "is_sign" (defScope s_is_sign) s.heap.objs.size f cdv))) :
    PSs (cxOf CX0 P w K mg base n_is_sign "is_sign" (defScope s_is_sign) f cdv A outer s H E).nox (defBody s_is_sign) (t_is_sign K) :=
  pss_one (ps_ret (pe_andT (pe_callB call_isiU (by rfl) (T.fr 1) (by decide +kernel) (pa_cons (pv 0) (pa_cons (pe_bltn (by rfl) (T.fr 0) (by decide +kernel) rfl) (pa_nil)))) (pe_andT (pe_cmpR (op_eqU hr.units) (pe_callB call_lenU (by rfl) (T.fr 2) (by decide +kernel) (pa_cons (pv 0) (pa_nil))) (pe_int) (nomark _)) (pe_andT (pe_chain op_leI op_leI (pe_int) (pe_callB call_ordU (by rfl) (T.fr 3) (by decide +kernel) (pa_cons (pv 0) (pa_nil))) (pe_int)) (pe_one (pe_cmpR (op_notInU hr.units) (pe_callB call_ordU (by rfl) (T.fr 3) (by decide +kernel) (pa_cons (pv 0) (pa_nil))) (pe_tup (pa_cons (pe_int) (pa_cons (pe_int) (pa_nil)))) (by rfl)))))))
theorem has_is_sign {P : Program} {w : World} {K : PySem.W.Frag} {mg : Str → Option Value} {base : Heap} (T : Txt K mg) : Has P w K mg base "is_sign" ["thing"] 1 (sp_is_sign K) := by
  obtain ⟨fd, F⟩ := T.says.def_ 0 (d := dd_is_sign) rfl
  exact ⟨⟨fd, F.ok sc_is_sign (fun vs H Q E => by walk_at "ln") (fun cdv A outer s H vs Q E hr h => ⟨t_is_sign K, PSs.nox (der_is_sign T  hr), pure_is_sign vs H Q E h⟩), F.bindsN fun _ _ _ _ _ _ us hl => match us, hl with | [_], _ => rfl⟩, F.kp, T.g 22⟩
set_option maxHeartbeats 4000000 in
theorem der_is_signs {P : Program} {w : World} {K : PySem.W.Frag} {mg : Str → Option Value} {base : Heap} (T : Txt K mg) (h_is_sign : Has P w K mg base "is_sign" ["thing"] 1 (sp_is_sign K)) {cdv : Value} {A : Around} {outer : List Env} {s : Shared} {H : Hp} {E : XK} {f : Addr} (hr : Room 1 (A.deeper (envOfC "is_signs" (defScope s_is_signs) s.heap.objs.size f cdv))) :
    PSs (cxOf CX0 P w K mg base n_is_signs "is_signs" (defScope s_is_signs) f cdv A outer s H E).nox (defBody s_is_signs) (t_is_signs K) :=
  pss_cons (ps_if (PW.pt (pw_or (pt_not (pt_truU (pe_callB call_isiU (by rfl) (T.fr 1) (by decide +kernel) (pa_cons (pv 0) (pa_cons (pe_bltn (by rfl) (T.fr 0) (by decide +kernel) rfl) (pa_nil)))) (by intro _; rfl))) (pw_or1 (pt_not (pt_chain op_leI op_leI (pe_int) (pe_callB call_lenU (by rfl) (T.fr 2) (by decide +kernel) (pa_cons (pv 0) (pa_nil))) (pe_int)))))) (pss_one (ps_ret (pe_bl))) (pss_nil)) (pss_one (ps_ret (pe_cmpR (op_eqU hr.units) (pe_lc (own := [("at", 1), ("sign", 2)]) rfl sc_is_signs.nd (pi_enumS (by rfl) (T.fr 4) (pa_cons (pv 0) (pa_nil))) (blkOk_by (own := [("at", 1), ("sign", 2)]) (N := n_is_signs) (sc := defScope s_is_signs) (by decide +kernel)) (fun _ _ _ _ _ => pg_tup (by rfl) (pgs_cons (pg_name (i := 1) sc_is_signs.nd rfl (Or.inl rfl)) (pgs_cons (pg_name (i := 2) sc_is_signs.nd rfl (Or.inl rfl)) (pgs_nil)))) (fun _ _ _ _ _ => pts_one (PW.pt (pw_or (pt_not (pt_truU (pe_own h_is_sign hr (by decide) (by rfl) (pa_cons (pv 2) (pa_nil))) (by intro _; rfl))) (pw_or1 (pt_cmpR (op_inU hr.units) (pv 2) (pe_slice sl_U (pv 0) (po_none) (po_some (pv 1))) (by rfl)))))) (fun _ _ _ _ _ => pe_int)) (pe_lst (pa_nil)) (nomark _))))
theorem has_is_signs {P : Program} {w : World} {K : PySem.W.Frag} {mg : Str → Option Value} {base : Heap} (T : Txt K mg) : Has P w K mg base "is_signs" ["thing"] 2 (sp_is_signs K) := by
  obtain ⟨fd, F⟩ := T.says.def_ 1 (d := dd_is_signs) rfl
  exact ⟨⟨fd, F.ok sc_is_signs (fun vs H Q E => by walk_at "ln") (fun cdv A outer s H vs Q E hr h => ⟨t_is_signs K, PSs.nox (der_is_signs T (has_is_sign T) hr), pure_is_signs vs H Q E h⟩), F.bindsN fun _ _ _ _ _ _ us hl => match us, hl with | [_], _ => rfl⟩, F.kp, T.g 23⟩
set_option maxHeartbeats 4000000 in
theorem der_is_integer {P : Program} {w : World} {K : PySem.W.Frag} {mg : Str → Option Value} {base : Heap} (T : Txt K mg) {cdv : Value} {A : Around} {outer : List Env} {s : Shared} {H : Hp} {E : XK} {f : Addr} (hr : Room 0 (A.deeper (envOfC "is_integer" (defScope s_is_integer) s.heap.objs.size f cdv))) :
    PSs (cxOf CX0 P w K mg base n_is_integer "is_integer" (defScope s_is_integer) f cdv A outer s H E).nox (defBody s_is_integer) (t_is_integer K) :=
  pss_one (ps_ret (pe_andT (pe_callB call_isiU (by rfl) (T.fr 1) (by decide +kernel) (pa_cons (pv 0) (pa_cons (pe_bltn (by rfl) (T.fr 5) (by decide +kernel) rfl) (pa_nil)))) (pe_one (pe_notT (pe_callB call_isiU (by rfl) (T.fr 1) (by decide +kernel) (pa_cons (pv 0) (pa_cons (pe_bltn (by rfl) (T.fr 6) (by decide +kernel) rfl) (pa_nil))))))))
theorem has_is_integer {P : Program} {w : World} {K : PySem.W.Frag} {mg : Str → Option Value} {base : Heap} (T : Txt K mg) : Has P w K mg base "is_integer" ["thing"] 1 (sp_is_integer K) := by
  obtain ⟨fd, F⟩ := T.says.def_ 2 (d := dd_is_integer) rfl
  exact ⟨⟨fd, F.ok sc_is_integer (fun vs H Q E => by walk_at "ln") (fun cdv A outer s H vs Q E hr h => ⟨t_is_integer K, PSs.nox (der_is_integer T  hr), pure_is_integer vs H Q E h⟩), F.bindsN fun _ _ _ _ _ _ us hl => match us, hl with | [_], _ => rfl⟩, F.kp, T.g 24⟩
set_option maxHeartbeats 4000000 in
theorem der_is_row {P : Program} {w : World} {K : PySem.W.Frag} {mg : Str → Option Value} {base : Heap} (T : Txt K mg) (h_is_integer : Has P w K mg base "is_integer" ["thing"] 1 (sp_is_integer K)) {cdv : Value} {A : Around} {outer : List Env} {s : Shared} {H : Hp} {E : XK} {f : Addr} (hr : Room 1 (A.deeper (envOfC "is_row" (defScope s_is_row) s.heap.objs.size f cdv))) :
    PSs (cxOf CX0 P w K mg base n_is_row "is_row" (defScope s_is_row) f cdv A outer s H E).nox (defBody s_is_row) (t_is_row K) :=
  pss_cons (ps_if (PW.pt (pw_or (pt_not (pt_truU (pe_callB call_isiU (by rfl) (T.fr 1) (by decide +kernel) (pa_cons (pv 1) (pa_cons (pe_tup (pa_cons (pe_bltn (by rfl) (T.fr 8) (by decide +kernel) rfl) (pa_cons (pe_bltn (by rfl) (T.fr 7) (by decide +kernel) rfl) (pa_nil)))) (pa_nil)))) (by intro _; rfl))) (pw_or1 (pt_cmpR op_gtI (pe_callB call_lenU (by rfl) (T.fr 2) (by decide +kernel) (pa_cons (pv 1) (pa_nil))) (pe_gi (by rfl) (T.gi 9)) (nomark _))))) (pss_one (ps_ret (pe_bl))) (pss_nil)) (pss_one (ps_ret (pe_callB (cr_all rfl) (by rfl) (T.fr 10) (by decide +kernel) (pa_cons (pe_lc (own := [("part", 2)]) rfl sc_is_row.nd (pi_seq (pv 1)) (blkOk_by (own := [("part", 2)]) (N := n_is_row) (sc := defScope s_is_row) (by decide +kernel)) (fun _ _ _ _ _ => pg_name (i := 2) sc_is_row.nd rfl (Or.inl rfl)) (fun _ _ _ _ _ => pts_nil) (fun _ _ _ _ _ => pe_andT (pe_own h_is_integer hr (by decide) (by rfl) (pa_cons (pv 2) (pa_nil))) (pe_one (pe_chain op_leI op_ltI (pe_int) (pv 2) (pe_fld (pv 0) rfl))))) (pa_nil)))))
theorem has_is_row {P : Program} {w : World} {K : PySem.W.Frag} {mg : Str → Option Value} {base : Heap} (T : Txt K mg) : Has P w K mg base "is_row" ["core", "thing"] 2 (sp_is_row K) := by
  obtain ⟨fd, F⟩ := T.says.def_ 3 (d := dd_is_row) rfl
  exact ⟨⟨fd, F.ok sc_is_row (fun vs H Q E => by walk_at "ln") (fun cdv A outer s H vs Q E hr h => ⟨t_is_row K, PSs.nox (der_is_row T (has_is_integer T) hr), pure_is_row vs H Q E h⟩), F.bindsN fun _ _ _ _ _ _ us hl => match us, hl with | [_, _], _ => rfl⟩, F.kp, T.g 25⟩
set_option maxHeartbeats 4000000 in
theorem der_are_ways {P : Program} {w : World} {K : PySem.W.Frag} {mg : Str → Option Value} {base : Heap} (T : Txt K mg) (h_is_row : Has P w K mg base "is_row" ["core", "thing"] 2 (sp_is_row K)) {cdv : Value} {A : Around} {outer : List Env} {s : Shared} {H : Hp} {E : XK} {f : Addr} (hr : Room 2 (A.deeper (envOfC "are_ways" (defScope s_are_ways) s.heap.objs.size f cdv))) :
    PSs (cxOf CX0 P w K mg base n_are_ways "are_ways" (defScope s_are_ways) f cdv A outer s H E).nox (defBody s_are_ways) (t_are_ways K) :=
  pss_cons (ps_if (pt_not (pt_truU (pe_callB call_isiU (by rfl) (T.fr 1) (by decide +kernel) (pa_cons (pv 1) (pa_cons (pe_bltn (by rfl) (T.fr 11) (by decide +kernel) rfl) (pa_nil)))) (by intro _; rfl))) (pss_one (ps_ret (pe_bl))) (pss_nil)) (pss_cons (ps_lock (ps_for PassesOwn.never rfl (pi_keys (pv 1)) (pg_name (i := 2) sc_are_ways.nd rfl (Or.inl rfl)) (pss_cons (ps_if (PW.pt (pw_or (pt_not (pt_truU (pe_callB call_isiU (by rfl) (T.fr 1) (by decide +kernel) (pa_cons (pv 2) (pa_cons (pe_bltn (by rfl) (T.fr 7) (by decide +kernel) rfl) (pa_nil)))) (by intro _; rfl))) (pw_or (pt_cmpR (op_neU hr.units) (pe_callB call_lenU (by rfl) (T.fr 2) (by decide +kernel) (pa_cons (pv 2) (pa_nil))) (pe_int) (nomark _)) (pw_or1 (pt_not (pt_truU (pe_own h_is_row hr (by decide) (by rfl) (pa_cons (pv 0) (pa_cons (pe_slice sl_U (pv 2) (po_none) (po_some (pe_int))) (pa_nil)))) (by intro _; rfl))))))) (pss_one (ps_ret (pe_bl))) (pss_nil)) (pss_cons (ps_if (PW.pt (pw_or (pt_not (pt_truU (pe_callB call_isiU (by rfl) (T.fr 1) (by decide +kernel) (pa_cons (pe_ix (ix_U hr.units) (pv 2) (pe_int) (fun _ _ => rfl)) (pa_cons (pe_bltn (by rfl) (T.fr 0) (by decide +kernel) rfl) (pa_nil)))) (by intro _; rfl))) (pw_or (pt_cmpR (op_neU hr.units) (pe_callB call_lenU (by rfl) (T.fr 2) (by decide +kernel) (pa_cons (pe_ix (ix_U hr.units) (pv 2) (pe_int) (fun _ _ => rfl)) (pa_nil))) (pe_int) (nomark _)) (pw_or1 (pt_cmpR (op_notInU hr.units) (pe_ix (ix_U hr.units) (pv 2) (pe_int) (fun _ _ => rfl)) (pe_fld (pv 0) rfl) (by rfl)))))) (pss_one (ps_ret (pe_bl))) (pss_nil)) (pss_one (ps_if (pt_not (pt_truU (pe_own h_is_row hr (by decide) (by rfl) (pa_cons (pv 0) (pa_cons (pe_ix (ix_U hr.units) (pv 1) (pv 2) (fun _ _ => rfl)) (pa_nil)))) (by intro _; rfl))) (pss_one (ps_ret (pe_bl))) (pss_nil))))))) (pss_one (ps_ret (pe_bl))))
theorem has_are_ways {P : Program} {w : World} {K : PySem.W.Frag} {mg : Str → Option Value} {base : Heap} (T : Txt K mg) : Has P w K mg base "are_ways" ["core", "ways"] 3 (sp_are_ways K) := by
  obtain ⟨fd, F⟩ := T.says.def_ 4 (d := dd_are_ways) rfl
  exact ⟨⟨fd, F.ok sc_are_ways (fun vs H Q E => by walk_at "ln") (fun cdv A outer s H vs Q E hr h => ⟨t_are_ways K, PSs.nox (der_are_ways T (has_is_row T) hr), pure_are_ways vs H Q E h⟩), F.bindsN fun _ _ _ _ _ _ us hl => match us, hl with | [_, _], _ => rfl⟩, F.kp, T.g 26⟩
set_option maxHeartbeats 4000000 in
theorem der_shortest_of {P : Program} {w : World} {K : PySem.W.Frag} {mg : Str → Option Value} {base : Heap} (T : Txt K mg) {cdv : Value} {A : Around} {outer : List Env} {s : Shared} {H : Hp} {E : XK} {f : Addr} (hr : Room 0 (A.deeper (envOfC "shortest_of" (defScope s_shortest_of) s.heap.objs.size f cdv))) :
    PSs (cxOf CX0 P w K mg base n_shortest_of "shortest_of" (defScope s_shortest_of) f cdv A outer s H E).nox (defBody s_shortest_of) (t_shortest_of K) :=
  pss_cons (ps_set (i := 1) sc_shortest_of.nd rfl (Or.inr rfl) (pe_op op_times (pe_lst (pa_cons (pe_non) (pa_nil))) (pe_fld (pv 0) rfl))) (pss_cons (ps_set (i := 2) sc_shortest_of.nd rfl (Or.inl rfl) (pe_bl)) (pss_cons (ps_while PassesOwn.never (pt_truU (pv 2) (by intro _; rfl)) (pss_cons (ps_set (i := 2) sc_shortest_of.nd rfl (Or.inl rfl) (pe_bl)) (pss_one (ps_lock (ps_for PassesOwn.never rfl (pi_itemsU (pe_fld (pv 0) rfl)) (pg_tup (by rfl) (pgs_cons (pg_tup (by rfl) (pgs_cons (pg_name (i := 3) sc_shortest_of.nd rfl (Or.inl rfl)) (pgs_cons (pg_name (i := 4) sc_shortest_of.nd rfl (Or.inl rfl)) (pgs_nil)))) (pgs_cons (pg_name (i := 5) sc_shortest_of.nd rfl (Or.inl rfl)) (pgs_nil)))) (pss_cons (ps_if (pt_truU (pe_callB (cr_any rfl) (by rfl) (T.fr 12) (by decide +kernel) (pa_cons (pe_lc (own := [("part", 7)]) rfl sc_shortest_of.nd (pi_seq (pv 5)) (blkOk_by (own := [("part", 7)]) (N := n_shortest_of) (sc := defScope s_shortest_of) (by decide +kernel)) (fun _ _ _ _ _ => pg_name (i := 7) sc_shortest_of.nd rfl (Or.inl rfl)) (fun _ _ _ _ _ => pts_nil) (fun _ _ _ _ _ => pe_cmpR op_isU (pe_ix (ix_U hr.units) (pv 1) (pv 7) (fun _ _ => rfl)) (pe_non) (nomark _))) (pa_nil))) (by intro _; rfl)) (pss_one (ps_continue)) (pss_nil)) (pss_cons (ps_set (i := 6) sc_shortest_of.nd rfl (Or.inl rfl) (pe_op op_plus (pe_int) (pe_callB (cr_sum rfl) (by rfl) (T.fr 13) (by decide +kernel) (pa_cons (pe_lc (own := [("part", 7)]) rfl sc_shortest_of.nd (pi_seq (pv 5)) (blkOk_by (own := [("part", 7)]) (N := n_shortest_of) (sc := defScope s_shortest_of) (by decide +kernel)) (fun _ _ _ _ _ => pg_name (i := 7) sc_shortest_of.nd rfl (Or.inl rfl)) (fun _ _ _ _ _ => pts_nil) (fun _ _ _ _ _ => pe_ix (ix_U hr.units) (pv 1) (pv 7) (fun _ _ => rfl))) (pa_nil))))) (pss_one (ps_if (PW.pt (pw_or (pt_cmpR op_isU (pe_ix (ix_U hr.units) (pv 1) (pv 3) (fun _ _ => rfl)) (pe_non) (nomark _)) (pw_or1 (pt_cmpR op_ltI (pv 6) (pe_ix (ix_U hr.units) (pv 1) (pv 3) (fun _ _ => rfl)) (nomark _))))) (pss_cons (ps_asg (pv 6) (pg_sub (pv 1) (pv 3) (set_U hr.units))) (pss_one (ps_set (i := 2) sc_shortest_of.nd rfl (Or.inl rfl) (pe_bl)))) (pss_nil)))))))))) (pss_one (ps_ret (pv 1)))))
theorem has_shortest_of {P : Program} {w : World} {K : PySem.W.Frag} {mg : Str → Option Value} {base : Heap} (T : Txt K mg) : Has P w K mg base "shortest_of" ["core"] 1 (sp_shortest_of K) := by
  obtain ⟨fd, F⟩ := T.says.def_ 5 (d := dd_shortest_of) rfl
  exact ⟨⟨fd, F.ok sc_shortest_of (fun vs H Q E => by walk_at "ln") (fun cdv A outer s H vs Q E hr h => ⟨t_shortest_of K, PSs.nox (der_shortest_of T  hr), pure_shortest_of vs H Q E h⟩), F.bindsN fun _ _ _ _ _ _ us hl => match us, hl with | [_], _ => rfl⟩, F.kp, T.g 27⟩
set_option maxHeartbeats 4000000 in
theorem der_Core_init__ {P : Program} {w : World} {K : PySem.W.Frag} {mg : Str → Option Value} {base : Heap} (T : Txt K mg) (h_is_signs : Has P w K mg base "is_signs" ["thing"] 2 (sp_is_signs K)) (h_is_integer : Has P w K mg base "is_integer" ["thing"] 1 (sp_is_integer K)) (h_are_ways : Has P w K mg base "are_ways" ["core", "ways"] 3 (sp_are_ways K)) (h_shortest_of : Has P w K mg base "shortest_of" ["core"] 1 (sp_shortest_of K)) {cdv : Value} {A : Around} {outer : List Env} {s : Shared} {H : Hp} {E : XK} {f : Addr} (hr : Room 3 (A.deeper (envOfC "Core.__init__" (defScope s_Core_init__) s.heap.objs.size f cdv))) :
    PSs (cxOf CX0 P w K mg base n_Core_init__ "Core.__init__" (defScope s_Core_init__) f cdv A outer s H E).nox (defBody s_Core_init__) (t_Core_init__ K) :=
  pss_cons (ps_if (pt_not (pt_truU (pe_own h_is_signs hr (by decide) (by rfl) (pa_cons (pv 1) (pa_nil))) (by intro _; rfl))) (pss_one (ps_never)) (pss_nil)) (pss_cons (ps_if (PW.pt (pw_or (pt_not (pt_truU (pe_own h_is_integer hr (by decide) (by rfl) (pa_cons (pv 2) (pa_nil))) (by intro _; rfl))) (pw_or1 (pt_not (pt_chain op_leI op_leI (pe_int) (pv 2) (pe_gi (by rfl) (T.gi 14))))))) (pss_one (ps_never)) (pss_nil)) (pss_cons (ps_fld (pv 0) (pe_joinU (pe_str) (pe_callB (call_sortedU rfl hr.units) (by rfl) (T.fr 15) (by decide +kernel) (pa_cons (pv 1) (pa_nil)))) rfl) (pss_cons (ps_fld (pv 0) (pv 2) rfl) (pss_cons (ps_if (pt_not (pt_truU (pe_own h_are_ways hr (by decide) (by rfl) (pa_cons (pv 0) (pa_cons (pv 3) (pa_nil)))) (by intro _; rfl))) (pss_one (ps_never)) (pss_nil)) (pss_cons (ps_fld (pv 0) (pe_dcT (own := [("key", 6)]) hr.units rfl sc_Core_init__.nd (pi_seq (pe_callB (call_sortedU rfl hr.units) (by rfl) (T.fr 15) (by decide +kernel) (pa_cons (pv 3) (pa_nil)))) (blkOk_by (own := [("key", 6)]) (N := n_Core_init__) (sc := defScope s_Core_init__) (by decide +kernel)) (fun _ _ _ _ _ => pg_name (i := 6) sc_Core_init__.nd rfl (Or.inl rfl)) (fun _ _ _ _ _ => pts_nil) (fun _ _ _ _ _ => pv 6) (fun _ _ _ _ _ => pe_callTy call_tupU (by rfl) (T.fr 7) (by decide +kernel) (pa_cons (pe_ix (ix_U hr.units) (pv 3) (pv 6) (fun _ _ => rfl)) (pa_nil)))) rfl) (pss_cons (ps_fld (pv 0) (pe_own h_shortest_of hr (by decide) (by rfl) (pa_cons (pv 0) (pa_nil))) rfl) (pss_cons (ps_for PassesOwn.never rfl (pi_enum (by rfl) (T.fr 4) (pa_cons (pe_fld (pv 0) rfl) (pa_nil))) (pg_tup (by rfl) (pgs_cons (pg_name (i := 4) sc_Core_init__.nd rfl (Or.inl rfl)) (pgs_cons (pg_name (i := 5) sc_Core_init__.nd rfl (Or.inl rfl)) (pgs_nil)))) (pss_one (ps_if (pt_cmpR op_isU (pv 5) (pe_non) (nomark _)) (pss_one (ps_never)) (pss_nil)))) (pss_one (ps_if (pt_cmpR op_gtI (pe_callB (call_maxU rfl) (by rfl) (T.fr 16) (by decide +kernel) (pa_cons (pe_op op_plus (pe_fld (pv 0) rfl) (pe_lst (pa_cons (pe_int) (pa_nil)))) (pa_nil))) (pe_gi (by rfl) (T.gi 17)) (nomark _)) (pss_one (ps_never)) (pss_nil))))))))))
theorem hasm_Core_init__ {P : Program} {w : World} {K : PySem.W.Frag} {mg : Str → Option Value} {base : Heap} (T : Txt K mg) : HasM P w K mg base "Core" ["self", "signs", "many", "ways"] 4 (sp_Core_init__ K) := by
  obtain ⟨fd, F⟩ := T.says.def_ 6 (d := dd_Core_init__) rfl
  exact ⟨He.mkr_ok (T.says.fact 56 rfl), ⟨fd, F.ok sc_Core_init__ (fun vs H Q E => by walk_at "ln") (fun cdv A outer s H vs Q E hr h => ⟨t_Core_init__ K, PSs.nox (der_Core_init__ T (has_is_signs T) (has_is_integer T) (has_are_ways T) (has_shortest_of T) hr), pure_Core_init__ vs H Q E h⟩), F.bindsN fun _ _ _ _ _ _ us hl => match us, hl with | [_, _, _, _], _ => rfl⟩, T.g 18⟩
set_option maxHeartbeats 4000000 in
theorem der_need_core {P : Program} {w : World} {K : PySem.W.Frag} {mg : Str → Option Value} {base : Heap} (T : Txt K mg) {cdv : Value} {A : Around} {outer : List Env} {s : Shared} {H : Hp} {E : XK} {f : Addr} (hr : Room 0 (A.deeper (envOfC "need_core" (defScope s_need_core) s.heap.objs.size f cdv))) :
    PSs (cxOf CX0 P w K mg base n_need_core "need_core" (defScope s_need_core) f cdv A outer s H E).nox (defBody s_need_core) (t_need_core K) :=
  pss_cons (ps_if (pt_not (pt_truU (pe_callB call_isiU (by rfl) (T.fr 1) (by decide +kernel) (pa_cons (pv 0) (pa_cons (pe_glob (by rfl) (T.g 18) rfl) (pa_nil)))) (by intro _; rfl))) (pss_one (ps_never)) (pss_nil)) (pss_one (ps_ret (pv 0)))
theorem has_need_core {P : Program} {w : World} {K : PySem.W.Frag} {mg : Str → Option Value} {base : Heap} (T : Txt K mg) : Has P w K mg base "need_core" ["core"] 1 (sp_need_core K) := by
  obtain ⟨fd, F⟩ := T.says.def_ 7 (d := dd_need_core) rfl
  exact ⟨⟨fd, F.ok sc_need_core (fun vs H Q E => by walk_at "ln") (fun cdv A outer s H vs Q E hr h => ⟨t_need_core K, PSs.nox (der_need_core T  hr), pure_need_core vs H Q E h⟩), F.bindsN fun _ _ _ _ _ _ us hl => match us, hl with | [_], _ => rfl⟩, F.kp, T.g 28⟩
set_option maxHeartbeats 4000000 in
theorem der_need_row {P : Program} {w : World} {K : PySem.W.Frag} {mg : Str → Option Value} {base : Heap} (T : Txt K mg) (h_is_row : Has P w K mg base "is_row" ["core", "thing"] 2 (sp_is_row K)) (h_need_core : Has P w K mg base "need_core" ["core"] 1 (sp_need_core K)) {cdv : Value} {A : Around} {outer : List Env} {s : Shared} {H : Hp} {E : XK} {f : Addr} (hr : Room 2 (A.deeper (envOfC "need_row" (defScope s_need_row) s.heap.objs.size f cdv))) :
    PSs (cxOf CX0 P w K mg base n_need_row "need_row" (defScope s_need_row) f cdv A outer s H E).nox (defBody s_need_row) (t_need_row K) :=
  pss_cons (ps_if (pt_not (pt_truU (pe_own h_is_row hr (by decide) (by rfl) (pa_cons (pe_own h_need_core hr (by decide) (by rfl) (pa_cons (pv 0) (pa_nil))) (pa_cons (pv 1) (pa_nil)))) (by intro _; rfl))) (pss_one (ps_never)) (pss_nil)) (pss_one (ps_ret (pe_callTy call_tupU (by rfl) (T.fr 7) (by decide +kernel) (pa_cons (pv 1) (pa_nil)))))
theorem has_need_row {P : Program} {w : World} {K : PySem.W.Frag} {mg : Str → Option Value} {base : Heap} (T : Txt K mg) : Has P w K mg base "need_row" ["core", "row"] 3 (sp_need_row K) := by
  obtain ⟨fd, F⟩ := T.says.def_ 8 (d := dd_need_row) rfl
  exact ⟨⟨fd, F.ok sc_need_row (fun vs H Q E => by walk_at "ln") (fun cdv A outer s H vs Q E hr h => ⟨t_need_row K, PSs.nox (der_need_row T (has_is_row T) (has_need_core T) hr), pure_need_row vs H Q E h⟩), F.bindsN fun _ _ _ _ _ _ us hl => match us, hl with | [_, _], _ => rfl⟩, F.kp, T.g 29⟩
set_option maxHeartbeats 4000000 in
theorem der_norm_by {P : Program} {w : World} {K : PySem.W.Frag} {mg : Str → Option Value} {base : Heap} (T : Txt K mg) {cdv : Value} {A : Around} {outer : List Env} {s : Shared} {H : Hp} {E : XK} {f : Addr} (hr : Room 0 (A.deeper (envOfC "norm_by" (defScope s_norm_by) s.heap.objs.size f cdv))) :
    PSs (cxOf CX0 P w K mg base n_norm_by "norm_by" (defScope s_norm_by) f cdv A outer s H E).nox (defBody s_norm_by) (t_norm_by K) :=
  pss_one (ps_ret (pe_callB (cr_sum rfl) (by rfl) (T.fr 13) (by decide +kernel) (pa_cons (pe_lc (own := [("kind", 2)]) rfl sc_norm_by.nd (pi_seq (pv 1)) (blkOk_by (own := [("kind", 2)]) (N := n_norm_by) (sc := defScope s_norm_by) (by decide +kernel)) (fun _ _ _ _ _ => pg_name (i := 2) sc_norm_by.nd rfl (Or.inl rfl)) (fun _ _ _ _ _ => pts_nil) (fun _ _ _ _ _ => pe_ix (ix_U hr.units) (pe_fld (pv 0) rfl) (pv 2) (fun _ _ => rfl))) (pa_nil))))
theorem has_norm_by {P : Program} {w : World} {K : PySem.W.Frag} {mg : Str → Option Value} {base : Heap} (T : Txt K mg) : Has P w K mg base "norm_by" ["core", "row"] 1 (sp_norm_by K) := by
  obtain ⟨fd, F⟩ := T.says.def_ 9 (d := dd_norm_by) rfl
  exact ⟨⟨fd, F.ok sc_norm_by (fun vs H Q E => by walk_at "ln") (fun cdv A outer s H vs Q E hr h => ⟨t_norm_by K, PSs.nox (der_norm_by T  hr), pure_norm_by vs H Q E h⟩), F.bindsN fun _ _ _ _ _ _ us hl => match us, hl with | [_, _], _ => rfl⟩, F.kp, T.g 30⟩
set_option maxHeartbeats 4000000 in
theorem der_norm_of {P : Program} {w : World} {K : PySem.W.Frag} {mg : Str → Option Value} {base : Heap} (T : Txt K mg) (h_norm_by : Has P w K mg base "norm_by" ["core", "row"] 1 (sp_norm_by K)) (h_need_row : Has P w K mg base "need_row" ["core", "row"] 3 (sp_need_row K)) {cdv : Value} {A : Around} {outer : List Env} {s : Shared} {H : Hp} {E : XK} {f : Addr} (hr : Room 3 (A.deeper (envOfC "norm_of" (defScope s_norm_of) s.heap.objs.size f cdv))) :
    PSs (cxOf CX0 P w K mg base n_norm_of "norm_of" (defScope s_norm_of) f cdv A outer s H E).nox (defBody s_norm_of) (t_norm_of K) :=
  pss_one (ps_ret (pe_own h_norm_by hr (by decide) (by rfl) (pa_cons (pv 0) (pa_cons (pe_own h_need_row hr (by decide) (by rfl) (pa_cons (pv 0) (pa_cons (pv 1) (pa_nil)))) (pa_nil)))))
theorem has_norm_of {P : Program} {w : World} {K : PySem.W.Frag} {mg : Str → Option Value} {base : Heap} (T : Txt K mg) : Has P w K mg base "norm_of" ["core", "row"] 4 (sp_norm_of K) := by
  obtain ⟨fd, F⟩ := T.says.def_ 10 (d := dd_norm_of) rfl
  exact ⟨⟨fd, F.ok sc_norm_of (fun vs H Q E => by walk_at "ln") (fun cdv A outer s H vs Q E hr h => ⟨t_norm_of K, PSs.nox (der_norm_of T (has_norm_by T) (has_need_row T) hr), pure_norm_of vs H Q E h⟩), F.bindsN fun _ _ _ _ _ _ us hl => match us, hl with | [_, _], _ => rfl⟩, F.kp, T.g 31⟩
set_option maxHeartbeats 4000000 in
theorem der_behind {P : Program} {w : World} {K : PySem.W.Frag} {mg : Str → Option Value} {base : Heap} (T : Txt K mg) {cdv : Value} {A : Around} {outer : List Env} {s : Shared} {H : Hp} {E : XK} {f : Addr} (hr : Room 0 (A.deeper (envOfC "behind" (defScope s_behind) s.heap.objs.size f cdv))) :
    PSs (cxOf CX0 P w K mg base n_behind "behind" (defScope s_behind) f cdv A outer s H E).nox (defBody s_behind) (t_behind K) :=
  pss_cons (ps_set (i := 3) sc_behind.nd rfl (Or.inl rfl) (pe_ifExp (pt_truU (pv 1) (by intro _; rfl)) (pe_dget2 (hu64 hr) (pe_fld (pv 0) rfl) (pe_tup (pa_cons (pe_ix (ix_U hr.units) (pv 1) (pe_int) (fun _ _ => rfl)) (pa_cons (pv 2) (pa_nil)))) (pe_non) ⟨rfl, rfl, rfl, rfl⟩) (pe_non))) (pss_one (ps_ret (pe_ifExp (pt_cmpR op_isU (pv 3) (pe_non) (nomark _)) (pe_non) (pe_op op_plus (pv 3) (pe_slice sl_U (pv 1) (po_some (pe_int)) (po_none))))))
theorem has_behind {P : Program} {w : World} {K : PySem.W.Frag} {mg : Str → Option Value} {base : Heap} (T : Txt K mg) : Has P w K mg base "behind" ["core", "row", "sign"] 1 (sp_behind K) := by
  obtain ⟨fd, F⟩ := T.says.def_ 11 (d := dd_behind) rfl
  exact ⟨⟨fd, F.ok sc_behind (fun vs H Q E => by walk_at "ln") (fun cdv A outer s H vs Q E hr h => ⟨t_behind K, PSs.nox (der_behind T  hr), pure_behind vs H Q E h⟩), F.bindsN fun _ _ _ _ _ _ us hl => match us, hl with | [_, _, _], _ => rfl⟩, F.kp, T.g 32⟩
set_option maxHeartbeats 4000000 in
theorem der_need_length {P : Program} {w : World} {K : PySem.W.Frag} {mg : Str → Option Value} {base : Heap} (T : Txt K mg) (h_is_integer : Has P w K mg base "is_integer" ["thing"] 1 (sp_is_integer K)) {cdv : Value} {A : Around} {outer : List Env} {s : Shared} {H : Hp} {E : XK} {f : Addr} (hr : Room 1 (A.deeper (envOfC "need_length" (defScope s_need_length) s.heap.objs.size f cdv))) :
    PSs (cxOf CX0 P w K mg base n_need_length "need_length" (defScope s_need_length) f cdv A outer s H E).nox (defBody s_need_length) (t_need_length K) :=
  pss_cons (ps_if (PW.pt (pw_or (pt_not (pt_truU (pe_own h_is_integer hr (by decide) (by rfl) (pa_cons (pv 0) (pa_nil))) (by intro _; rfl))) (pw_or1 (pt_not (pt_chain op_leI op_leI (pe_int) (pv 0) (pv 1)))))) (pss_one (ps_never)) (pss_nil)) (pss_one (ps_ret (pv 0)))
theorem has_need_length {P : Program} {w : World} {K : PySem.W.Frag} {mg : Str → Option Value} {base : Heap} (T : Txt K mg) : Has P w K mg base "need_length" ["length", "most"] 2 (sp_need_length K) := by
  obtain ⟨fd, F⟩ := T.says.def_ 12 (d := dd_need_length) rfl
  exact ⟨⟨fd, F.ok sc_need_length (fun vs H Q E => by walk_at "ln") (fun cdv A outer s H vs Q E hr h => ⟨t_need_length K, PSs.nox (der_need_length T (has_is_integer T) hr), pure_need_length vs H Q E h⟩), F.bindsN fun _ _ _ _ _ _ us hl => match us, hl with | [_, _], _ => rfl⟩, F.kp, T.g 33⟩
set_option maxHeartbeats 4000000 in
theorem der_texts_of {P : Program} {w : World} {K : PySem.W.Frag} {mg : Str → Option Value} {base : Heap} (T : Txt K mg) (h_need_row : Has P w K mg base "need_row" ["core", "row"] 3 (sp_need_row K)) (h_need_length : Has P w K mg base "need_length" ["length", "most"] 2 (sp_need_length K)) (h_behind : Has P w K mg base "behind" ["core", "row", "sign"] 1 (sp_behind K)) {cdv : Value} {A : Around} {outer : List Env} {s : Shared} {H : Hp} {E : XK} {f : Addr} (hr : Room 3 (A.deeper (envOfC "texts_of" (defScope s_texts_of) s.heap.objs.size f cdv))) :
    PSs (cxOf CX0 P w K mg base n_texts_of "texts_of" (defScope s_texts_of) f cdv A outer s H E).nox (defBody s_texts_of) (t_texts_of K) :=
  pss_cons (ps_set (i := 3) sc_texts_of.nd rfl (Or.inl rfl) (pe_lst (pa_cons (pe_tup (pa_cons (pe_str) (pa_cons (pe_own h_need_row hr (by decide) (by rfl) (pa_cons (pv 0) (pa_cons (pv 1) (pa_nil)))) (pa_nil)))) (pa_nil)))) (pss_cons (ps_for PassesOwn.never rfl (pi_range1 (by rfl) (T.fr 19) (pa_cons (pe_own h_need_length hr (by decide) (by rfl) (pa_cons (pv 2) (pa_cons (pe_int) (pa_nil)))) (pa_nil))) (pg_name (i := 4) sc_texts_of.nd rfl (Or.inl rfl)) (pss_cons (ps_set (i := 5) sc_texts_of.nd rfl (Or.inl rfl) (pe_lst (pa_nil))) (pss_cons (ps_for PassesOwn.never rfl (pi_seq (pv 3)) (pg_tup (by rfl) (pgs_cons (pg_name (i := 6) sc_texts_of.nd rfl (Or.inl rfl)) (pgs_cons (pg_name (i := 7) sc_texts_of.nd rfl (Or.inl rfl)) (pgs_nil)))) (pss_one (ps_for PassesOwn.never rfl (pi_str (pe_fld (pv 0) rfl)) (pg_name (i := 8) sc_texts_of.nd rfl (Or.inl rfl)) (pss_cons (ps_set (i := 9) sc_texts_of.nd rfl (Or.inl rfl) (pe_own h_behind hr (by decide) (by rfl) (pa_cons (pv 0) (pa_cons (pv 7) (pa_cons (pv 8) (pa_nil)))))) (pss_one (ps_if (pt_cmpR op_isNotU (pv 9) (pe_non) (nomark _)) (pss_one (ps_expr (pe_bm PySem.F.plainAttrs_list PySem.F.slot_list_append PySem.F.type_list_append mt_append (pv 5) (pa_cons (pe_tup (pa_cons (pe_op op_plus (pv 6) (pv 8)) (pa_cons (pv 9) (pa_nil)))) (pa_nil))))) (pss_nil))))))) (pss_one (ps_set (i := 3) sc_texts_of.nd rfl (Or.inl rfl) (pv 5)))))) (pss_one (ps_ret (pe_lc (own := [("text", 6), ("left", 7)]) rfl sc_texts_of.nd (pi_seq (pv 3)) (blkOk_by (own := [("text", 6), ("left", 7)]) (N := n_texts_of) (sc := defScope s_texts_of) (by decide +kernel)) (fun _ _ _ _ _ => pg_tup (by rfl) (pgs_cons (pg_name (i := 6) sc_texts_of.nd rfl (Or.inl rfl)) (pgs_cons (pg_name (i := 7) sc_texts_of.nd rfl (Or.inl rfl)) (pgs_nil)))) (fun _ _ _ _ _ => pts_one (pt_cmpR (op_eqU hr.units) (pv 7) (pe_tup (pa_nil)) (nomark _))) (fun _ _ _ _ _ => pv 6)))))
theorem has_texts_of {P : Program} {w : World} {K : PySem.W.Frag} {mg : Str → Option Value} {base : Heap} (T : Txt K mg) : Has P w K mg base "texts_of" ["core", "row", "length"] 4 (sp_texts_of K) := by
  obtain ⟨fd, F⟩ := T.says.def_ 13 (d := dd_texts_of) rfl
  exact ⟨⟨fd, F.ok sc_texts_of (fun vs H Q E => by walk_at "ln") (fun cdv A outer s H vs Q E hr h => ⟨t_texts_of K, PSs.nox (der_texts_of T (has_need_row T) (has_need_length T) (has_behind T) hr), pure_texts_of vs H Q E h⟩), F.bindsN fun _ _ _ _ _ _ us hl => match us, hl with | [_, _, _], _ => rfl⟩, F.kp, T.g 34⟩
set_option maxHeartbeats 4000000 in
theorem der_tails_of {P : Program} {w : World} {K : PySem.W.Frag} {mg : Str → Option Value} {base : Heap} (T : Txt K mg) {cdv : Value} {A : Around} {outer : List Env} {s : Shared} {H : Hp} {E : XK} {f : Addr} (hr : Room 0 (A.deeper (envOfC "tails_of" (defScope s_tails_of) s.heap.objs.size f cdv))) :
    PSs (cxOf CX0 P w K mg base n_tails_of "tails_of" (defScope s_tails_of) f cdv A outer s H E).nox (defBody s_tails_of) (t_tails_of K) :=
  pss_cons (ps_set (i := 1) sc_tails_of.nd rfl (Or.inl rfl) (pe_dnew)) (pss_cons (ps_lock (ps_for PassesOwn.never rfl (pi_valsT (pe_fld (pv 0) rfl)) (pg_name (i := 2) sc_tails_of.nd rfl (Or.inr rfl)) (pss_one (ps_expr (pe_bm PySem.F.plainAttrs_dict PySem.F.slot_dict_update PySem.F.type_dict_update (mt_updT hr.units) (pv 1) (pa_cons (pe_dcT (own := [("at", 3)]) hr.units rfl sc_tails_of.nd (pi_range1 (by rfl) (T.fr 19) (pa_cons (pe_callB call_lenU (by rfl) (T.fr 2) (by decide +kernel) (pa_cons (pv 2) (pa_nil))) (pa_nil))) (blkOk_by (own := [("at", 3)]) (N := n_tails_of) (sc := defScope s_tails_of) (by decide +kernel)) (fun _ _ _ _ _ => pg_name (i := 3) sc_tails_of.nd rfl (Or.inl rfl)) (fun _ _ _ _ _ => pts_nil) (fun _ _ _ _ _ => pe_slice sl_U (pv 2) (po_some (pv 3)) (po_none)) (fun _ _ _ _ _ => pe_bl)) (pa_nil))))))) (pss_one (ps_ret (pe_srtLen rfl hr.units (by rfl) (T.fr 15) (by rfl) (T.fr 2) (pa_cons (pv 1) (pa_nil))))))
theorem has_tails_of {P : Program} {w : World} {K : PySem.W.Frag} {mg : Str → Option Value} {base : Heap} (T : Txt K mg) : Has P w K mg base "tails_of" ["core"] 1 (sp_tails_of K) := by
  obtain ⟨fd, F⟩ := T.says.def_ 14 (d := dd_tails_of) rfl
  exact ⟨⟨fd, F.ok sc_tails_of (fun vs H Q E => by walk_at "ln") (fun cdv A outer s H vs Q E hr h => ⟨t_tails_of K, PSs.nox (der_tails_of T  hr), pure_tails_of vs H Q E h⟩), F.bindsN fun _ _ _ _ _ _ us hl => match us, hl with | [_], _ => rfl⟩, F.kp, T.g 35⟩
set_option maxHeartbeats 4000000 in
theorem der_kind_counts {P : Program} {w : World} {K : PySem.W.Frag} {mg : Str → Option Value} {base : Heap} (T : Txt K mg) (h_tails_of : Has P w K mg base "tails_of" ["core"] 1 (sp_tails_of K)) {cdv : Value} {A : Around} {outer : List Env} {s : Shared} {H : Hp} {E : XK} {f : Addr} (hr : Room 1 (A.deeper (envOfC "kind_counts" (defScope s_kind_counts) s.heap.objs.size f cdv))) :
    PSs (cxOf CX0 P w K mg base n_kind_counts "kind_counts" (defScope s_kind_counts) f cdv A outer s H E).nox (defBody s_kind_counts) (t_kind_counts K) :=
  pss_cons (ps_asg (pe_tup (pa_cons (pe_lc (own := [("kind", 6)]) rfl sc_kind_counts.nd (pi_range1 (by rfl) (T.fr 19) (pa_cons (pe_fld (pv 0) rfl) (pa_nil))) (blkOk_by (own := [("kind", 6)]) (N := n_kind_counts) (sc := defScope s_kind_counts) (by decide +kernel)) (fun _ _ _ _ _ => pg_name (i := 6) sc_kind_counts.nd rfl (Or.inl rfl)) (fun _ _ _ _ _ => pts_nil) (fun _ _ _ _ _ => pe_lst (pa_cons (pe_int) (pa_nil)))) (pa_cons (pe_disp1T hr.units (pe_tup (pa_nil)) (pe_op op_plus (pe_lst (pa_cons (pe_int) (pa_nil))) (pe_op op_times (pe_lst (pa_cons (pe_int) (pa_nil))) (pv 1)))) (pa_nil)))) (pg_tup (by rfl) (pgs_cons (pg_name (i := 2) sc_kind_counts.nd rfl (Or.inr rfl)) (pgs_cons (pg_name (i := 3) sc_kind_counts.nd rfl (Or.inl rfl)) (pgs_nil))))) (pss_cons (ps_set (i := 4) sc_kind_counts.nd rfl (Or.inl rfl) (pe_own h_tails_of hr (by decide) (by rfl) (pa_cons (pv 0) (pa_nil)))) (pss_cons (ps_for PassesOwn.never rfl (pi_range1 (by rfl) (T.fr 19) (pa_cons (pe_op op_plus (pv 1) (pe_int)) (pa_nil))) (pg_name (i := 5) sc_kind_counts.nd rfl (Or.inr rfl)) (pss_cons (ps_lock (ps_for PassesOwn.never rfl (pi_itemsU (pe_fld (pv 0) rfl)) (pg_tup (by rfl) (pgs_cons (pg_tup (by rfl) (pgs_cons (pg_name (i := 6) sc_kind_counts.nd rfl (Or.inl rfl)) (pgs_cons (pg_name (i := 7) sc_kind_counts.nd rfl (Or.inl rfl)) (pgs_nil)))) (pgs_cons (pg_name (i := 8) sc_kind_counts.nd rfl (Or.inr rfl)) (pgs_nil)))) (pss_one (ps_if (pt_cmpR op_gtI (pv 5) (pe_int) (nomark _)) (pss_one (ps_augS (pe_ix (ix_U hr.units) (pv 2) (pv 6) (fun _ _ => rfl)) (pv 5) get_listG (pe_ix (ix_U hr.units) (pe_ix (ix_U hr.units) (pv 3) (pv 8) (fun _ _ => rfl)) (pe_op op_minus (pv 5) (pe_int)) (fun _ _ => rfl)) ip_add (set_U hr.units))) (pss_nil))))) (pss_cons (ps_for PassesOwn.never rfl (pi_seq (pv 4)) (pg_name (i := 8) sc_kind_counts.nd rfl (Or.inr rfl)) (pss_cons (ps_set (i := 9) sc_kind_counts.nd rfl (Or.inr rfl) (pe_ix (ix_U hr.units) (pv 3) (pe_slice sl_U (pv 8) (po_some (pe_int)) (po_none)) (fun _ _ => rfl))) (pss_cons (ps_set (i := 10) sc_kind_counts.nd rfl (Or.inl rfl) (pe_callB (cr_sum rfl) (by rfl) (T.fr 13) (by decide +kernel) (pa_cons (pe_lc (own := [("at", 11)]) rfl sc_kind_counts.nd (pi_range1 (by rfl) (T.fr 19) (pa_cons (pe_op op_plus (pv 5) (pe_int)) (pa_nil))) (blkOk_by (own := [("at", 11)]) (N := n_kind_counts) (sc := defScope s_kind_counts) (by decide +kernel)) (fun _ _ _ _ _ => pg_name (i := 11) sc_kind_counts.nd rfl (Or.inl rfl)) (fun _ _ _ _ _ => pts_nil) (fun _ _ _ _ _ => pe_op op_times (pe_ix (ix_U hr.units) (pe_ix (ix_U hr.units) (pv 2) (pe_ix (ix_U hr.units) (pv 8) (pe_int) (fun _ _ => rfl)) (fun _ _ => rfl)) (pv 11) (fun _ _ => rfl)) (pe_ix (ix_U hr.units) (pv 9) (pe_op op_minus (pv 5) (pv 11)) (fun _ _ => rfl)))) (pa_nil)))) (pss_one (ps_expr (pe_bm PySem.F.plainAttrs_list PySem.F.slot_list_append PySem.F.type_list_append mt_append (pe_dsetdT hr.units (pv 3) (pv 8) (pe_lst (pa_nil)) ⟨rfl, rfl, rfl, rfl⟩) (pa_cons (pv 10) (pa_nil)))))))) (pss_one (ps_for PassesOwn.never rfl (pi_seq (pv 2)) (pg_name (i := 10) sc_kind_counts.nd rfl (Or.inl rfl)) (pss_one (ps_expr (pe_bm PySem.F.plainAttrs_list PySem.F.slot_list_append PySem.F.type_list_append mt_append (pv 10) (pa_cons (pe_int) (pa_nil)))))))))) (pss_one (ps_ret (pe_lc (own := [("found", 10)]) rfl sc_kind_counts.nd (pi_seq (pv 2)) (blkOk_by (own := [("found", 10)]) (N := n_kind_counts) (sc := defScope s_kind_counts) (by decide +kernel)) (fun _ _ _ _ _ => pg_name (i := 10) sc_kind_counts.nd rfl (Or.inl rfl)) (fun _ _ _ _ _ => pts_nil) (fun _ _ _ _ _ => pe_slice sl_U (pv 10) (po_none) (po_some (pe_op op_plus (pv 1) (pe_int)))))))))
theorem has_kind_counts {P : Program} {w : World} {K : PySem.W.Frag} {mg : Str → Option Value} {base : Heap} (T : Txt K mg) : Has P w K mg base "kind_counts" ["core", "size"] 2 (sp_kind_counts K) := by
  obtain ⟨fd, F⟩ := T.says.def_ 15 (d := dd_kind_counts) rfl
  exact ⟨⟨fd, F.ok sc_kind_counts (fun vs H Q E => by walk_at "ln") (fun cdv A outer s H vs Q E hr h => ⟨t_kind_counts K, PSs.nox (der_kind_counts T (has_tails_of T) hr), pure_kind_counts vs H Q E h⟩), F.bindsN fun _ _ _ _ _ _ us hl => match us, hl with | [_, _], _ => rfl⟩, F.kp, T.g 36⟩
set_option maxHeartbeats 4000000 in
theorem der_Counted_init__ {P : Program} {w : World} {K : PySem.W.Frag} {mg : Str → Option Value} {base : Heap} (T : Txt K mg) (h_kind_counts : Has P w K mg base "kind_counts" ["core", "size"] 2 (sp_kind_counts K)) {cdv : Value} {A : Around} {outer : List Env} {s : Shared} {H : Hp} {E : XK} {f : Addr} (hr : Room 2 (A.deeper (envOfC "Counted.__init__" (defScope s_Counted_init__) s.heap.objs.size f cdv))) :
    PSs (cxOf CX0 P w K mg base n_Counted_init__ "Counted.__init__" (defScope s_Counted_init__) f cdv A outer s H E).nox (defBody s_Counted_init__) (t_Counted_init__ K) :=
  pss_cons (ps_fld (pv 0) (pv 2) rfl) (pss_cons (ps_fld (pv 0) (pe_own h_kind_counts hr (by decide) (by rfl) (pa_cons (pv 1) (pa_cons (pv 2) (pa_nil)))) rfl) (pss_one (ps_fld (pv 0) (pe_disp1T hr.units (pe_tup (pa_nil)) (pe_op op_plus (pe_lst (pa_cons (pe_int) (pa_nil))) (pe_op op_times (pe_lst (pa_cons (pe_int) (pa_nil))) (pv 2)))) rfl)))
theorem hasm_Counted_init__ {P : Program} {w : World} {K : PySem.W.Frag} {mg : Str → Option Value} {base : Heap} (T : Txt K mg) : HasM P w K mg base "Counted" ["self", "core", "size"] 3 (sp_Counted_init__ K) := by
  obtain ⟨fd, F⟩ := T.says.def_ 16 (d := dd_Counted_init__) rfl
  exact ⟨He.mkr_ok (T.says.fact 63 rfl), ⟨fd, F.ok sc_Counted_init__ (fun vs H Q E => by walk_at "ln") (fun cdv A outer s H vs Q E hr h => ⟨t_Counted_init__ K, PSs.nox (der_Counted_init__ T (has_kind_counts T) hr), pure_Counted_init__ vs H Q E h⟩), F.bindsN fun _ _ _ _ _ _ us hl => match us, hl with | [_, _, _], _ => rfl⟩, T.g 61⟩
set_option maxHeartbeats 4000000 in
theorem der_Counted_row {P : Program} {w : World} {K : PySem.W.Frag} {mg : Str → Option Value} {base : Heap} (T : Txt K mg) {cdv : Value} {A : Around} {outer : List Env} {s : Shared} {H : Hp} {E : XK} {f : Addr} (hr : Room 0 (A.deeper (envOfC "Counted.row" (defScope s_Counted_row) s.heap.objs.size f cdv))) :
    PSs (cxOf CX0 P w K mg base n_Counted_row "Counted.row" (defScope s_Counted_row) f cdv A outer s H E).nox (defBody s_Counted_row) (t_Counted_row K) :=
  pss_cons (ps_if (pt_cmpR op_gtI (pe_callB call_lenU (by rfl) (T.fr 2) (by decide +kernel) (pa_cons (pv 1) (pa_nil))) (pe_fld (pv 0) rfl) (nomark _)) (pss_one (ps_ret (pe_op op_times (pe_lst (pa_cons (pe_int) (pa_nil))) (pe_op op_plus (pe_fld (pv 0) rfl) (pe_int))))) (pss_nil)) (pss_cons (ps_for PassesOwn.never rfl (pi_seq (pe_rev (pe_listRg rfl (by rfl) (T.fr 8) (prg_1 (by rfl) (T.fr 19) (pe_callB call_lenU (by rfl) (T.fr 2) (by decide +kernel) (pa_cons (pv 1) (pa_nil))))))) (pg_name (i := 2) sc_Counted_row.nd rfl (Or.inl rfl)) (pss_one (ps_if (pt_cmpR (op_notInU hr.units) (pe_slice sl_U (pv 1) (po_some (pv 2)) (po_none)) (pe_fld (pv 0) rfl) (by rfl)) (pss_cons (ps_asg (pe_tup (pa_cons (pe_ix (ix_U hr.units) (pe_fld (pv 0) rfl) (pe_ix (ix_U hr.units) (pv 1) (pv 2) (fun _ _ => rfl)) (fun _ _ => rfl)) (pa_cons (pe_ix (ix_U hr.units) (pe_fld (pv 0) rfl) (pe_slice sl_U (pv 1) (po_some (pe_op op_plus (pv 2) (pe_int))) (po_none)) (fun _ _ => rfl)) (pa_nil)))) (pg_tup (by rfl) (pgs_cons (pg_name (i := 3) sc_Counted_row.nd rfl (Or.inr rfl)) (pgs_cons (pg_name (i := 4) sc_Counted_row.nd rfl (Or.inr rfl)) (pgs_nil))))) (pss_one (ps_asg (pe_lc (own := [("n", 5)]) rfl sc_Counted_row.nd (pi_range1 (by rfl) (T.fr 19) (pa_cons (pe_op op_plus (pe_fld (pv 0) rfl) (pe_int)) (pa_nil))) (blkOk_by (own := [("n", 5)]) (N := n_Counted_row) (sc := defScope s_Counted_row) (by decide +kernel)) (fun _ _ _ _ _ => pg_name (i := 5) sc_Counted_row.nd rfl (Or.inr rfl)) (fun _ _ _ _ _ => pts_nil) (fun _ _ _ _ _ => pe_callB (cr_sum rfl) (by rfl) (T.fr 13) (by decide +kernel) (pa_cons (pe_lc (own := [("k", 6)]) rfl sc_Counted_row.nd (pi_range1 (by rfl) (T.fr 19) (pa_cons (pe_op op_plus (pv 5) (pe_int)) (pa_nil))) (blkOk_by (own := [("k", 6)]) (N := n_Counted_row) (sc := scR) (by decide +kernel)) (fun _ _ _ _ _ => pg_name (i := 6) sc_Counted_row.nd rfl (Or.inl rfl)) (fun _ _ _ _ _ => pts_nil) (fun _ _ _ _ _ => pe_op op_times (pe_ix (ix_U hr.units) (pv 3) (pv 6) (fun _ _ => rfl)) (pe_ix (ix_U hr.units) (pv 4) (pe_op op_minus (pv 5) (pv 6)) (fun _ _ => rfl)))) (pa_nil)))) (pg_sub (pe_fld (pv 0) rfl) (pe_slice sl_U (pv 1) (po_some (pv 2)) (po_none)) (set_U hr.units))))) (pss_nil)))) (pss_one (ps_ret (pe_ix (ix_U hr.units) (pe_fld (pv 0) rfl) (pv 1) (fun _ _ => rfl)))))
theorem hast_Counted_row {P : Program} {w : World} {K : PySem.W.Frag} {mg : Str → Option Value} {base : Heap} (T : Txt K mg) : HasT P w K mg base "Counted" "row" ["self", "row"] 1 (sp_Counted_row K) := by
  obtain ⟨fd, F⟩ := T.says.def_ 17 (d := dd_Counted_row) rfl
  exact ⟨He.cls_ok (T.says.fact 62 rfl), He.meth_ok (T.says.fact 67 rfl), ⟨fd, F.ok sc_Counted_row (fun vs H Q E => by walk_at "ln") (fun cdv A outer s H vs Q E hr h => ⟨t_Counted_row K, PSs.nox (der_Counted_row T  hr), pure_Counted_row vs H Q E h⟩), F.bindsN fun _ _ _ _ _ _ us hl => match us, hl with | [_, _], _ => rfl⟩⟩
set_option maxHeartbeats 4000000 in
theorem der_count {P : Program} {w : World} {K : PySem.W.Frag} {mg : Str → Option Value} {base : Heap} (T : Txt K mg) (h_need_row : Has P w K mg base "need_row" ["core", "row"] 3 (sp_need_row K)) (hm_Counted_init__ : HasM P w K mg base "Counted" ["self", "core", "size"] 3 (sp_Counted_init__ K)) (h_need_length : Has P w K mg base "need_length" ["length", "most"] 2 (sp_need_length K)) (ht_Counted_row : HasT P w K mg base "Counted" "row" ["self", "row"] 1 (sp_Counted_row K)) {cdv : Value} {A : Around} {outer : List Env} {s : Shared} {H : Hp} {E : XK} {f : Addr} (hr : Room 4 (A.deeper (envOfC "count" (defScope s_count) s.heap.objs.size f cdv))) :
    PSs (cxOf CX0 P w K mg base n_count "count" (defScope s_count) f cdv A outer s H E).nox (defBody s_count) (t_count K) :=
  pss_cons (ps_set (i := 3) sc_count.nd rfl (Or.inl rfl) (pe_own h_need_row hr (by decide) (by rfl) (pa_cons (pv 0) (pa_cons (pv 1) (pa_nil))))) (pss_one (ps_ret (pe_ix (ix_U hr.units) (pe_meO ht_Counted_row hr (by decide) (pe_mk hm_Counted_init__ hr (by decide) (by rfl) (pa_cons (pv 0) (pa_cons (pe_own h_need_length hr (by decide) (by rfl) (pa_cons (pv 2) (pa_cons (pe_gi (by rfl) (T.gi 20)) (pa_nil)))) (pa_nil)))) (pa_cons (pv 3) (pa_nil))) (pv 2) (fun _ _ => rfl))))
theorem has_count {P : Program} {w : World} {K : PySem.W.Frag} {mg : Str → Option Value} {base : Heap} (T : Txt K mg) : Has P w K mg base "count" ["core", "row", "length"] 5 (sp_count K) := by
  obtain ⟨fd, F⟩ := T.says.def_ 18 (d := dd_count) rfl
  exact ⟨⟨fd, F.ok sc_count (fun vs H Q E => by walk_at "ln") (fun cdv A outer s H vs Q E hr h => ⟨t_count K, PSs.nox (der_count T (has_need_row T) (hasm_Counted_init__ T) (has_need_length T) (hast_Counted_row T) hr), pure_count vs H Q E h⟩), F.bindsN fun _ _ _ _ _ _ us hl => match us, hl with | [_, _, _], _ => rfl⟩, F.kp, T.g 37⟩
set_option maxHeartbeats 4000000 in
theorem der_law_start {P : Program} {w : World} {K : PySem.W.Frag} {mg : Str → Option Value} {base : Heap} (T : Txt K mg) {cdv : Value} {A : Around} {outer : List Env} {s : Shared} {H : Hp} {E : XK} {f : Addr} (hr : Room 0 (A.deeper (envOfC "_law_start" (defScope s_law_start) s.heap.objs.size f cdv))) :
    PSs (cxOf CX0 P w K mg base n_law_start "_law_start" (defScope s_law_start) f cdv A outer s H E).nox (defBody s_law_start) (t_law_start K) :=
  pss_one (ps_ret (pe_lst (pa_cons (pe_callTy (call_listU rfl) (by rfl) (T.fr 8) (by decide +kernel) (pa_cons (pv 0) (pa_nil))) (pa_cons (pe_int) (pa_cons (pe_int) (pa_cons (pe_int) (pa_nil)))))))
theorem has_law_start {P : Program} {w : World} {K : PySem.W.Frag} {mg : Str → Option Value} {base : Heap} (T : Txt K mg) : Has P w K mg base "_law_start" ["script"] 1 (sp_law_start K) := by
  obtain ⟨fd, F⟩ := T.says.def_ 19 (d := dd_law_start) rfl
  exact ⟨⟨fd, F.ok sc_law_start (fun vs H Q E => by walk_at "ln") (fun cdv A outer s H vs Q E hr h => ⟨t_law_start K, PSs.nox (der_law_start T  hr), pure_law_start vs H Q E h⟩), F.bindsN fun _ _ _ _ _ _ us hl => match us, hl with | [_], _ => rfl⟩, F.kp, T.g 38⟩
set_option maxHeartbeats 4000000 in
theorem der_law_below {P : Program} {w : World} {K : PySem.W.Frag} {mg : Str → Option Value} {base : Heap} (T : Txt K mg) {cdv : Value} {A : Around} {outer : List Env} {s : Shared} {H : Hp} {E : XK} {f : Addr} (hr : Room 0 (A.deeper (envOfC "_law_below" (defScope s_law_below) s.heap.objs.size f cdv))) :
    PSs (cxOf CX0 P w K mg base n_law_below "_law_below" (defScope s_law_below) f cdv A outer s H E).nox (defBody s_law_below) (t_law_below K) :=
  pss_cons (ps_asg (pe_op op_plus (pe_ix (ix_U hr.units) (pv 0) (pe_int) (fun _ _ => rfl)) (pe_int)) (pg_sub (pv 0) (pe_int) (set_U hr.units))) (pss_cons (ps_while PassesOwn.never (PW.pt (pw_and (pt_cmpR (op_eqU hr.units) (pe_ix (ix_U hr.units) (pv 0) (pe_int) (fun _ _ => rfl)) (pe_int) (nomark _)) (pw_and1 (pt_cmpR (op_neU hr.units) (pe_ix (ix_U hr.units) (pv 0) (pe_int) (fun _ _ => rfl)) (pe_lst (pa_nil)) (nomark _))))) (pss_cons (ps_set (i := 2) sc_law_below.nd rfl (Or.inl rfl) (pe_bm PySem.F.plainAttrs_list PySem.F.slot_list_pop PySem.F.type_list_pop mt_popAt (pe_ix (ix_U hr.units) (pv 0) (pe_int) (fun _ _ => rfl)) (pa_cons (pe_int) (pa_nil)))) (pss_cons (ps_asg (pe_op op_modU (pe_callTy call_intU (by rfl) (T.fr 5) (by decide +kernel) (pa_cons (pe_op op_plus (pe_op op_plus (pe_op op_times (pe_ix (ix_U hr.units) (pv 0) (pe_int) (fun _ _ => rfl)) (pe_int)) (pv 2)) (pe_int)) (pa_nil))) (pe_int)) (pg_sub (pv 0) (pe_int) (set_U hr.units))) (pss_one (ps_asg (pe_ifExp (pt_cmpR op_geI (pv 2) (pe_op op_powU (pe_int) (pe_int)) (nomark _)) (pv 2) (pe_int)) (pg_sub (pv 0) (pe_int) (set_U hr.units))))))) (pss_cons (ps_if (pt_cmpR op_gtI (pe_ix (ix_U hr.units) (pv 0) (pe_int) (fun _ _ => rfl)) (pe_int) (nomark _)) (pss_cons (ps_set (i := 3) sc_law_below.nd rfl (Or.inl rfl) (pe_op op_modU (pe_callTy call_intU (by rfl) (T.fr 5) (by decide +kernel) (pa_cons (pe_ix (ix_U hr.units) (pv 0) (pe_int) (fun _ _ => rfl)) (pa_nil))) (pv 1))) (pss_cons (ps_asg (pe_op op_divU (pe_ix (ix_U hr.units) (pv 0) (pe_int) (fun _ _ => rfl)) (pv 1)) (pg_sub (pv 0) (pe_int) (set_U hr.units))) (pss_one (ps_ret (pv 3))))) (pss_nil)) (pss_cons (ps_set (i := 4) sc_law_below.nd rfl (Or.inl rfl) (pe_op op_modU (pe_callTy call_intU (by rfl) (T.fr 5) (by decide +kernel) (pa_cons (pe_op op_powU (pe_op op_plus (pe_op op_plus (pe_ix (ix_U hr.units) (pv 0) (pe_int) (fun _ _ => rfl)) (pe_op op_times (pe_int) (pe_ix (ix_U hr.units) (pv 0) (pe_int) (fun _ _ => rfl)))) (pe_int)) (pe_int)) (pa_nil))) (pe_int))) (pss_one (ps_ret (pe_op op_modU (pe_op op_modU (pe_callTy call_intU (by rfl) (T.fr 5) (by decide +kernel) (pa_cons (pe_op op_powU (pe_op op_plus (pe_op op_plus (pe_op op_times (pv 4) (pe_int)) (pe_op op_times (pe_int) (pe_ix (ix_U hr.units) (pv 0) (pe_int) (fun _ _ => rfl)))) (pe_int)) (pe_int)) (pa_nil))) (pe_int)) (pv 1)))))))
theorem has_law_below {P : Program} {w : World} {K : PySem.W.Frag} {mg : Str → Option Value} {base : Heap} (T : Txt K mg) : Has P w K mg base "_law_below" ["stream", "many"] 1 (sp_law_below K) := by
  obtain ⟨fd, F⟩ := T.says.def_ 20 (d := dd_law_below) rfl
  exact ⟨⟨fd, F.ok sc_law_below (fun vs H Q E => by walk_at "ln") (fun cdv A outer s H vs Q E hr h => ⟨t_law_below K, PSs.nox (der_law_below T  hr), pure_law_below vs H Q E h⟩), F.bindsN fun _ _ _ _ _ _ us hl => match us, hl with | [_, _], _ => rfl⟩, F.kp, T.g 39⟩
set_option maxHeartbeats 4000000 in
theorem der_law_pick {P : Program} {w : World} {K : PySem.W.Frag} {mg : Str → Option Value} {base : Heap} (T : Txt K mg) (h_law_below : Has P w K mg base "_law_below" ["stream", "many"] 1 (sp_law_below K)) {cdv : Value} {A : Around} {outer : List Env} {s : Shared} {H : Hp} {E : XK} {f : Addr} (hr : Room 1 (A.deeper (envOfC "_law_pick" (defScope s_law_pick) s.heap.objs.size f cdv))) :
    PSs (cxOf CX0 P w K mg base n_law_pick "_law_pick" (defScope s_law_pick) f cdv A outer s H E).nox (defBody s_law_pick) (t_law_pick K) :=
  pss_one (ps_ret (pe_ix (ix_U hr.units) (pv 1) (pe_own h_law_below hr (by decide) (by rfl) (pa_cons (pv 0) (pa_cons (pe_callB call_lenU (by rfl) (T.fr 2) (by decide +kernel) (pa_cons (pv 1) (pa_nil))) (pa_nil)))) (fun _ _ => rfl)))
theorem has_law_pick {P : Program} {w : World} {K : PySem.W.Frag} {mg : Str → Option Value} {base : Heap} (T : Txt K mg) : Has P w K mg base "_law_pick" ["stream", "some"] 2 (sp_law_pick K) := by
  obtain ⟨fd, F⟩ := T.says.def_ 21 (d := dd_law_pick) rfl
  exact ⟨⟨fd, F.ok sc_law_pick (fun vs H Q E => by walk_at "ln") (fun cdv A outer s H vs Q E hr h => ⟨t_law_pick K, PSs.nox (der_law_pick T (has_law_below T) hr), pure_law_pick vs H Q E h⟩), F.bindsN fun _ _ _ _ _ _ us hl => match us, hl with | [_, _], _ => rfl⟩, F.kp, T.g 40⟩
set_option maxHeartbeats 4000000 in
theorem der_law_mixed {P : Program} {w : World} {K : PySem.W.Frag} {mg : Str → Option Value} {base : Heap} (T : Txt K mg) (h_law_below : Has P w K mg base "_law_below" ["stream", "many"] 1 (sp_law_below K)) {cdv : Value} {A : Around} {outer : List Env} {s : Shared} {H : Hp} {E : XK} {f : Addr} (hr : Room 1 (A.deeper (envOfC "_law_mixed" (defScope s_law_mixed) s.heap.objs.size f cdv))) :
    PSs (cxOf CX0 P w K mg base n_law_mixed "_law_mixed" (defScope s_law_mixed) f cdv A outer s H E).nox (defBody s_law_mixed) (t_law_mixed K) :=
  pss_cons (ps_set (i := 2) sc_law_mixed.nd rfl (Or.inr rfl) (pe_callTy (call_listU rfl) (by rfl) (T.fr 8) (by decide +kernel) (pa_cons (pv 1) (pa_nil)))) (pss_one (ps_ret (pe_lc (own := [("k", 3)]) rfl sc_law_mixed.nd (pi_range1 (by rfl) (T.fr 19) (pa_cons (pe_callB call_lenU (by rfl) (T.fr 2) (by decide +kernel) (pa_cons (pv 2) (pa_nil))) (pa_nil))) (blkOk_by (own := [("k", 3)]) (N := n_law_mixed) (sc := defScope s_law_mixed) (by decide +kernel)) (fun _ _ _ _ _ => pg_name (i := 3) sc_law_mixed.nd rfl (Or.inl rfl)) (fun _ _ _ _ _ => pts_nil) (fun _ _ _ _ _ => pe_bm PySem.F.plainAttrs_list PySem.F.slot_list_pop PySem.F.type_list_pop mt_popAt (pv 2) (pa_cons (pe_own h_law_below hr (by decide) (by rfl) (pa_cons (pv 0) (pa_cons (pe_callB call_lenU (by rfl) (T.fr 2) (by decide +kernel) (pa_cons (pv 2) (pa_nil))) (pa_nil)))) (pa_nil))))))
theorem has_law_mixed {P : Program} {w : World} {K : PySem.W.Frag} {mg : Str → Option Value} {base : Heap} (T : Txt K mg) : Has P w K mg base "_law_mixed" ["stream", "some"] 2 (sp_law_mixed K) := by
  obtain ⟨fd, F⟩ := T.says.def_ 22 (d := dd_law_mixed) rfl
  exact ⟨⟨fd, F.ok sc_law_mixed (fun vs H Q E => by walk_at "ln") (fun cdv A outer s H vs Q E hr h => ⟨t_law_mixed K, PSs.nox (der_law_mixed T (has_law_below T) hr), pure_law_mixed vs H Q E h⟩), F.bindsN fun _ _ _ _ _ _ us hl => match us, hl with | [_, _], _ => rfl⟩, F.kp, T.g 41⟩
set_option maxHeartbeats 4000000 in
theorem der_law_same {P : Program} {w : World} {K : PySem.W.Frag} {mg : Str → Option Value} {base : Heap} (T : Txt K mg) (n : Nat) (h_law_same : Has P w K mg base "_law_same" ["found", "due"] (0 + n + 1) (sp_law_same K n)) {cdv : Value} {A : Around} {outer : List Env} {s : Shared} {H : Hp} {E : XK} {f : Addr} (hr : Room (0 + n + 1) (A.deeper (envOfC "_law_same" (defScope s_law_same) s.heap.objs.size f cdv))) :
    PSs (cxOf CX0 P w K mg base n_law_same "_law_same" (defScope s_law_same) f cdv A outer s H E).nox (defBody s_law_same) (t_law_same K n) :=
  pss_cons (ps_if (pt_truU (pe_callB call_isiU (by rfl) (T.fr 1) (by decide +kernel) (pa_cons (pv 1) (pa_cons (pe_tup (pa_cons (pe_bltn (by rfl) (T.fr 8) (by decide +kernel) rfl) (pa_cons (pe_bltn (by rfl) (T.fr 7) (by decide +kernel) rfl) (pa_nil)))) (pa_nil)))) (by intro _; rfl)) (pss_cons (ps_if (PW.pt (pw_or (pt_cmpR (op_neU hr.units) (pe_callB call_isiU (by rfl) (T.fr 1) (by decide +kernel) (pa_cons (pv 0) (pa_cons (pe_bltn (by rfl) (T.fr 8) (by decide +kernel) rfl) (pa_nil)))) (pe_callB call_isiU (by rfl) (T.fr 1) (by decide +kernel) (pa_cons (pv 1) (pa_cons (pe_bltn (by rfl) (T.fr 8) (by decide +kernel) rfl) (pa_nil)))) (nomark _)) (pw_or1 (pt_cmpR (op_neU hr.units) (pe_callB call_isiU (by rfl) (T.fr 1) (by decide +kernel) (pa_cons (pv 0) (pa_cons (pe_bltn (by rfl) (T.fr 7) (by decide +kernel) rfl) (pa_nil)))) (pe_callB call_isiU (by rfl) (T.fr 1) (by decide +kernel) (pa_cons (pv 1) (pa_cons (pe_bltn (by rfl) (T.fr 7) (by decide +kernel) rfl) (pa_nil)))) (nomark _))))) (pss_one (ps_ret (pe_bl))) (pss_nil)) (pss_one (ps_ret (pe_andT (pe_cmpR (op_eqU hr.units) (pe_callB call_lenU (by rfl) (T.fr 2) (by decide +kernel) (pa_cons (pv 0) (pa_nil))) (pe_callB call_lenU (by rfl) (T.fr 2) (by decide +kernel) (pa_cons (pv 1) (pa_nil))) (nomark _)) (pe_one (pe_callB (cr_all rfl) (by rfl) (T.fr 10) (by decide +kernel) (pa_cons (pe_lc (own := [("x", 2), ("y", 3)]) rfl sc_law_same.nd (RZ.pi_zipA (by rfl) (T.fr 21) (pa_cons (pv 0) (pa_cons (pv 1) (pa_nil)))) (blkOk_by (own := [("x", 2), ("y", 3)]) (N := n_law_same) (sc := defScope s_law_same) (by decide +kernel)) (fun _ _ _ _ _ => pg_tup (by rfl) (pgs_cons (pg_name (i := 2) sc_law_same.nd rfl (Or.inl rfl)) (pgs_cons (pg_name (i := 3) sc_law_same.nd rfl (Or.inl rfl)) (pgs_nil)))) (fun _ _ _ _ _ => pts_nil) (fun _ _ _ _ _ => pe_own h_law_same hr (by omega) (by rfl) (pa_cons (pv 2) (pa_cons (pv 3) (pa_nil))))) (pa_nil)))))))) (pss_nil)) (pss_cons (ps_if (pt_truU (pe_callB call_isiU (by rfl) (T.fr 1) (by decide +kernel) (pa_cons (pv 1) (pa_cons (pe_bltn (by rfl) (T.fr 11) (by decide +kernel) rfl) (pa_nil)))) (by intro _; rfl)) (pss_one (ps_ret (pe_andT (pe_callB call_isiU (by rfl) (T.fr 1) (by decide +kernel) (pa_cons (pv 0) (pa_cons (pe_bltn (by rfl) (T.fr 11) (by decide +kernel) rfl) (pa_nil)))) (pe_one (pe_own h_law_same hr (by omega) (by rfl) (pa_cons (LiI.pe_listItems rfl (pv 0) (by rfl) (T.fr 8) (by decide +kernel)) (pa_cons (LiI.pe_listItems rfl (pv 1) (by rfl) (T.fr 8) (by decide +kernel)) (pa_nil)))))))) (pss_nil)) (pss_cons (ps_if (pt_truU (pe_callB call_isiU (by rfl) (T.fr 1) (by decide +kernel) (pa_cons (pv 1) (pa_cons (pe_bltn (by rfl) (T.fr 5) (by decide +kernel) rfl) (pa_nil)))) (by intro _; rfl)) (pss_one (ps_ret (pe_andT (pe_callB call_isiU (by rfl) (T.fr 1) (by decide +kernel) (pa_cons (pv 0) (pa_cons (pe_bltn (by rfl) (T.fr 5) (by decide +kernel) rfl) (pa_nil)))) (pe_andT (pe_cmpR (op_eqU hr.units) (pe_callB call_isiU (by rfl) (T.fr 1) (by decide +kernel) (pa_cons (pv 0) (pa_cons (pe_bltn (by rfl) (T.fr 6) (by decide +kernel) rfl) (pa_nil)))) (pe_callB call_isiU (by rfl) (T.fr 1) (by decide +kernel) (pa_cons (pv 1) (pa_cons (pe_bltn (by rfl) (T.fr 6) (by decide +kernel) rfl) (pa_nil)))) (nomark _)) (pe_one (pe_cmpR (op_eqU hr.units) (pv 0) (pv 1) (nomark _))))))) (pss_nil)) (pss_cons (ps_if (pt_cmpR op_isU (pv 1) (pe_non) (nomark _)) (pss_one (ps_ret (pe_cmpR op_isU (pv 0) (pe_non) (nomark _)))) (pss_nil)) (pss_cons (ps_if (pt_truU (pe_callB call_isiU (by rfl) (T.fr 1) (by decide +kernel) (pa_cons (pv 1) (pa_cons (pe_bltn (by rfl) (T.fr 0) (by decide +kernel) rfl) (pa_nil)))) (by intro _; rfl)) (pss_one (ps_ret (pe_andT (pe_callB call_isiU (by rfl) (T.fr 1) (by decide +kernel) (pa_cons (pv 0) (pa_cons (pe_bltn (by rfl) (T.fr 0) (by decide +kernel) rfl) (pa_nil)))) (pe_one (pe_cmpR (op_eqU hr.units) (pv 0) (pv 1) (nomark _)))))) (pss_nil)) (pss_one (ps_ret (pe_andT (pe_notT (pe_callB call_isiU (by rfl) (T.fr 1) (by decide +kernel) (pa_cons (pv 0) (pa_cons (pe_tup (pa_cons (pe_bltn (by rfl) (T.fr 5) (by decide +kernel) rfl) (pa_cons (pe_bltn (by rfl) (T.fr 0) (by decide +kernel) rfl) (pa_cons (pe_bltn (by rfl) (T.fr 8) (by decide +kernel) rfl) (pa_cons (pe_bltn (by rfl) (T.fr 7) (by decide +kernel) rfl) (pa_cons (pe_bltn (by rfl) (T.fr 11) (by decide +kernel) rfl) (pa_nil))))))) (pa_nil))))) (pe_one (pe_cmpR (op_eqU hr.units) (pv 0) (pv 1) (nomark _))))))))))
theorem hasn_law_same {P : Program} {w : World} {K : PySem.W.Frag} {mg : Str → Option Value} {base : Heap} (T : Txt K mg) (n : Nat) : Has P w K mg base "_law_same" ["found", "due"] (0 + n + 1) (sp_law_same K n) := by
  obtain ⟨fd, F⟩ := T.says.def_ 23 (d := dd_law_same) rfl
  have b : Binds K fd ["found", "due"] [] := F.bindsN fun _ _ _ _ _ _ us hl => match us, hl with | [_, _], _ => rfl
  induction n with
  | zero => exact ⟨⟨fd, F.ok sc_law_same (fun vs H Q E h => h.elim) (fun cdv A outer s H vs Q E hr h => h.elim), b⟩, F.kp, T.g 42⟩
  | succ n ih => exact ⟨⟨fd, F.ok sc_law_same (fun vs H Q E => by walk_at "ln") (fun cdv A outer s H vs Q E hr h => ⟨t_law_same K n, PSs.nox (der_law_same T  n ih hr), pure_law_same n vs H Q E h⟩), b⟩, F.kp, T.g 42⟩
theorem has_law_same {P : Program} {w : World} {K : PySem.W.Frag} {mg : Str → Option Value} {base : Heap} (T : Txt K mg) : Has P w K mg base "_law_same" ["found", "due"] 6 (sp_law_same K 5) := hasn_law_same T 5
set_option maxHeartbeats 4000000 in
theorem der_law_loose {P : Program} {w : World} {K : PySem.W.Frag} {mg : Str → Option Value} {base : Heap} (T : Txt K mg) (h_law_mixed : Has P w K mg base "_law_mixed" ["stream", "some"] 2 (sp_law_mixed K)) (h_law_below : Has P w K mg base "_law_below" ["stream", "many"] 1 (sp_law_below K)) (n : Nat) (h_law_loose : Has P w K mg base "_law_loose" ["stream", "thing"] (2 + n + 1) (sp_law_loose K n)) {cdv : Value} {A : Around} {outer : List Env} {s : Shared} {H : Hp} {E : XK} {f : Addr} (hr : Room (2 + n + 1) (A.deeper (envOfC "_law_loose" (defScope s_law_loose) s.heap.objs.size f cdv))) :
    PSs (cxOf CX0 P w K mg base n_law_loose "_law_loose" (defScope s_law_loose) f cdv A outer s H E).nox (defBody s_law_loose) (t_law_loose K n) :=
  pss_cons (ps_if (pt_truU (pe_callB call_isiU (by rfl) (T.fr 1) (by decide +kernel) (pa_cons (pv 1) (pa_cons (pe_bltn (by rfl) (T.fr 11) (by decide +kernel) rfl) (pa_nil)))) (by intro _; rfl)) (pss_one (ps_ret (pe_callTy (call_dictPT rfl hr.units) (by rfl) (T.fr 11) (by decide +kernel) (pa_cons (pe_lc (own := [("key", 3)]) rfl sc_law_loose.nd (pi_seq (pe_own h_law_mixed hr (by omega) (by rfl) (pa_cons (pv 0) (pa_cons (pe_callTy (call_listU rfl) (by rfl) (T.fr 8) (by decide +kernel) (pa_cons (pv 1) (pa_nil))) (pa_nil))))) (blkOk_by (own := [("key", 3)]) (N := n_law_loose) (sc := defScope s_law_loose) (by decide +kernel)) (fun _ _ _ _ _ => pg_name (i := 3) sc_law_loose.nd rfl (Or.inl rfl)) (fun _ _ _ _ _ => pts_nil) (fun _ _ _ _ _ => pe_tup (pa_cons (pv 3) (pa_cons (pe_own h_law_loose hr (by omega) (by rfl) (pa_cons (pv 0) (pa_cons (pe_ix (ix_U hr.units) (pv 1) (pv 3) (fun _ _ => rfl)) (pa_nil)))) (pa_nil))))) (pa_nil))))) (pss_nil)) (pss_cons (ps_if (pt_not (pt_truU (pe_callB call_isiU (by rfl) (T.fr 1) (by decide +kernel) (pa_cons (pv 1) (pa_cons (pe_tup (pa_cons (pe_bltn (by rfl) (T.fr 8) (by decide +kernel) rfl) (pa_cons (pe_bltn (by rfl) (T.fr 7) (by decide +kernel) rfl) (pa_nil)))) (pa_nil)))) (by intro _; rfl))) (pss_one (ps_ret (pv 1))) (pss_nil)) (pss_cons (ps_setLc (i := 2) (own := [("part", 4)]) rfl sc_law_loose.nd rfl rfl (sw_true rfl rfl rfl (by decide +kernel)) (pi_seq (pv 1)) (blkOk_by (own := [("part", 4)]) (N := n_law_loose) (sc := defScope s_law_loose) (by decide +kernel)) (fun _ _ _ _ _ => pg_name (i := 4) sc_law_loose.nd rfl (Or.inl rfl)) (fun _ _ _ _ _ => pts_nil) (fun _ _ _ _ _ => pe_own h_law_loose hr (by omega) (by rfl) (pa_cons (pv 0) (pa_cons (pv 4) (pa_nil))))) (pss_one (ps_ret (pe_ifExp (pt_cmpR (op_eqU hr.units) (pe_own h_law_below hr (by omega) (by rfl) (pa_cons (pv 0) (pa_cons (pe_int) (pa_nil)))) (pe_int) (nomark _)) (pv 2) (pe_callTy call_tupU (by rfl) (T.fr 7) (by decide +kernel) (pa_cons (pv 2) (pa_nil))))))))
theorem hasn_law_loose {P : Program} {w : World} {K : PySem.W.Frag} {mg : Str → Option Value} {base : Heap} (T : Txt K mg) (n : Nat) : Has P w K mg base "_law_loose" ["stream", "thing"] (2 + n + 1) (sp_law_loose K n) := by
  obtain ⟨fd, F⟩ := T.says.def_ 24 (d := dd_law_loose) rfl
  have b : Binds K fd ["stream", "thing"] [] := F.bindsN fun _ _ _ _ _ _ us hl => match us, hl with | [_, _], _ => rfl
  induction n with
  | zero => exact ⟨⟨fd, F.ok sc_law_loose (fun vs H Q E h => h.elim) (fun cdv A outer s H vs Q E hr h => h.elim), b⟩, F.kp, T.g 43⟩
  | succ n ih => exact ⟨⟨fd, F.ok sc_law_loose (fun vs H Q E => by walk_at "ln") (fun cdv A outer s H vs Q E hr h => ⟨t_law_loose K n, PSs.nox (der_law_loose T (has_law_mixed T) (has_law_below T) n ih hr), pure_law_loose n vs H Q E h⟩), b⟩, F.kp, T.g 43⟩
theorem has_law_loose {P : Program} {w : World} {K : PySem.W.Frag} {mg : Str → Option Value} {base : Heap} (T : Txt K mg) : Has P w K mg base "_law_loose" ["stream", "thing"] 6 (sp_law_loose K 3) := hasn_law_loose T 3
set_option maxHeartbeats 4000000 in
theorem der_law_bpool {P : Program} {w : World} {K : PySem.W.Frag} {mg : Str → Option Value} {base : Heap} (T : Txt K mg) {cdv : Value} {A : Around} {outer : List Env} {s : Shared} {H : Hp} {E : XK} {f : Addr} (hr : Room 0 (A.deeper (envOfC "_law_bpool" (defScope s_law_bpool) s.heap.objs.size f cdv))) :
    PSs (cxOf CX0 P w K mg base n_law_bpool "_law_bpool" (defScope s_law_bpool) f cdv A outer s H E).nox (defBody s_law_bpool) (t_law_bpool K) :=
  pss_one (ps_ret (pe_lc (own := [("sign", 0)]) rfl sc_law_bpool.nd (pi_str (pe_str)) (blkOk_by (own := [("sign", 0)]) (N := n_law_bpool) (sc := defScope s_law_bpool) (by decide +kernel)) (fun _ _ _ _ _ => pg_name (i := 0) sc_law_bpool.nd rfl (Or.inl rfl)) (fun _ _ _ _ _ => pts_nil) (fun _ _ _ _ _ => pv 0)))
theorem has_law_bpool {P : Program} {w : World} {K : PySem.W.Frag} {mg : Str → Option Value} {base : Heap} (T : Txt K mg) : Has P w K mg base "_law_bpool" [] 1 (sp_law_bpool K) := by
  obtain ⟨fd, F⟩ := T.says.def_ 25 (d := dd_law_bpool) rfl
  exact ⟨⟨fd, F.ok sc_law_bpool (fun vs H Q E => by walk_at "ln") (fun cdv A outer s H vs Q E hr h => ⟨t_law_bpool K, PSs.nox (der_law_bpool T  hr), pure_law_bpool vs H Q E h⟩), F.bindsN fun _ _ _ _ _ _ us hl => match us, hl with | [], _ => rfl⟩, F.kp, T.g 44⟩
set_option maxHeartbeats 4000000 in
theorem der_law_bsigns {P : Program} {w : World} {K : PySem.W.Frag} {mg : Str → Option Value} {base : Heap} (T : Txt K mg) (h_law_bpool : Has P w K mg base "_law_bpool" [] 1 (sp_law_bpool K)) (h_law_below : Has P w K mg base "_law_below" ["stream", "many"] 1 (sp_law_below K)) {cdv : Value} {A : Around} {outer : List Env} {s : Shared} {H : Hp} {E : XK} {f : Addr} (hr : Room 1 (A.deeper (envOfC "_law_bsigns" (defScope s_law_bsigns) s.heap.objs.size f cdv))) :
    PSs (cxOf CX0 P w K mg base n_law_bsigns "_law_bsigns" (defScope s_law_bsigns) f cdv A outer s H E).nox (defBody s_law_bsigns) (t_law_bsigns K) :=
  pss_cons (ps_set (i := 2) sc_law_bsigns.nd rfl (Or.inr rfl) (pe_own0 h_law_bpool hr (by decide) (by rfl))) (pss_one (ps_ret (pe_joinU (pe_str) (pe_callB (call_sortedU rfl hr.units) (by rfl) (T.fr 15) (by decide +kernel) (pa_cons (pe_lc (own := [("turn", 3)]) rfl sc_law_bsigns.nd (pi_range1 (by rfl) (T.fr 19) (pa_cons (pv 1) (pa_nil))) (blkOk_by (own := [("turn", 3)]) (N := n_law_bsigns) (sc := defScope s_law_bsigns) (by decide +kernel)) (fun _ _ _ _ _ => pg_name (i := 3) sc_law_bsigns.nd rfl (Or.inl rfl)) (fun _ _ _ _ _ => pts_nil) (fun _ _ _ _ _ => pe_bm PySem.F.plainAttrs_list PySem.F.slot_list_pop PySem.F.type_list_pop mt_popAt (pv 2) (pa_cons (pe_own h_law_below hr (by decide) (by rfl) (pa_cons (pv 0) (pa_cons (pe_callB call_lenU (by rfl) (T.fr 2) (by decide +kernel) (pa_cons (pv 2) (pa_nil))) (pa_nil)))) (pa_nil)))) (pa_nil))))))
theorem has_law_bsigns {P : Program} {w : World} {K : PySem.W.Frag} {mg : Str → Option Value} {base : Heap} (T : Txt K mg) : Has P w K mg base "_law_bsigns" ["stream", "many"] 2 (sp_law_bsigns K) := by
  obtain ⟨fd, F⟩ := T.says.def_ 26 (d := dd_law_bsigns) rfl
  exact ⟨⟨fd, F.ok sc_law_bsigns (fun vs H Q E => by walk_at "ln") (fun cdv A outer s H vs Q E hr h => ⟨t_law_bsigns K, PSs.nox (der_law_bsigns T (has_law_bpool T) (has_law_below T) hr), pure_law_bsigns vs H Q E h⟩), F.bindsN fun _ _ _ _ _ _ us hl => match us, hl with | [_, _], _ => rfl⟩, F.kp, T.g 45⟩
set_option maxHeartbeats 4000000 in
theorem der_law_bkinds {P : Program} {w : World} {K : PySem.W.Frag} {mg : Str → Option Value} {base : Heap} (T : Txt K mg) (h_law_below : Has P w K mg base "_law_below" ["stream", "many"] 1 (sp_law_below K)) {cdv : Value} {A : Around} {outer : List Env} {s : Shared} {H : Hp} {E : XK} {f : Addr} (hr : Room 1 (A.deeper (envOfC "_law_bkinds" (defScope s_law_bkinds) s.heap.objs.size f cdv))) :
    PSs (cxOf CX0 P w K mg base n_law_bkinds "_law_bkinds" (defScope s_law_bkinds) f cdv A outer s H E).nox (defBody s_law_bkinds) (t_law_bkinds K) :=
  pss_one (ps_ret (pe_ifExp (pt_cmpR op_gtI (pv 1) (pe_int) (nomark _)) (pe_callTy call_tupU (by rfl) (T.fr 7) (by decide +kernel) (pa_cons (pe_lc (own := [("turn", 3)]) rfl sc_law_bkinds.nd (pi_range1 (by rfl) (T.fr 19) (pa_cons (pe_own h_law_below hr (by decide) (by rfl) (pa_cons (pv 0) (pa_cons (pe_op op_plus (pv 2) (pe_int)) (pa_nil)))) (pa_nil))) (blkOk_by (own := [("turn", 3)]) (N := n_law_bkinds) (sc := defScope s_law_bkinds) (by decide +kernel)) (fun _ _ _ _ _ => pg_name (i := 3) sc_law_bkinds.nd rfl (Or.inl rfl)) (fun _ _ _ _ _ => pts_nil) (fun _ _ _ _ _ => pe_own h_law_below hr (by decide) (by rfl) (pa_cons (pv 0) (pa_cons (pv 1) (pa_nil))))) (pa_nil))) (pe_tup (pa_nil))))
theorem has_law_bkinds {P : Program} {w : World} {K : PySem.W.Frag} {mg : Str → Option Value} {base : Heap} (T : Txt K mg) : Has P w K mg base "_law_bkinds" ["stream", "many", "most"] 2 (sp_law_bkinds K) := by
  obtain ⟨fd, F⟩ := T.says.def_ 27 (d := dd_law_bkinds) rfl
  exact ⟨⟨fd, F.ok sc_law_bkinds (fun vs H Q E => by walk_at "ln") (fun cdv A outer s H vs Q E hr h => ⟨t_law_bkinds K, PSs.nox (der_law_bkinds T (has_law_below T) hr), pure_law_bkinds vs H Q E h⟩), F.bindsN fun _ _ _ _ _ _ us hl => match us, hl with | [_, _, _], _ => rfl⟩, F.kp, T.g 46⟩
set_option maxHeartbeats 4000000 in
theorem der_law_bcore {P : Program} {w : World} {K : PySem.W.Frag} {mg : Str → Option Value} {base : Heap} (T : Txt K mg) (h_law_mixed : Has P w K mg base "_law_mixed" ["stream", "some"] 2 (sp_law_mixed K)) (h_law_below : Has P w K mg base "_law_below" ["stream", "many"] 1 (sp_law_below K)) (h_law_pick : Has P w K mg base "_law_pick" ["stream", "some"] 2 (sp_law_pick K)) (h_law_bkinds : Has P w K mg base "_law_bkinds" ["stream", "many", "most"] 2 (sp_law_bkinds K)) {cdv : Value} {A : Around} {outer : List Env} {s : Shared} {H : Hp} {E : XK} {f : Addr} (hr : Room 2 (A.deeper (envOfC "_law_bcore" (defScope s_law_bcore) s.heap.objs.size f cdv))) :
    PSs (cxOf CX0 P w K mg base n_law_bcore "_law_bcore" (defScope s_law_bcore) f cdv A outer s H E).nox (defBody s_law_bcore) (t_law_bcore K) :=
  pss_cons (ps_asg (pe_tup (pa_cons (pe_own h_law_mixed hr (by decide) (by rfl) (pa_cons (pv 0) (pa_cons (pe_listRg rfl (by rfl) (T.fr 8) (prg_1 (by rfl) (T.fr 19) (pv 2))) (pa_nil)))) (pa_cons (pe_dnew) (pa_cons (pe_dnew) (pa_nil))))) (pg_tup (by rfl) (pgs_cons (pg_name (i := 4) sc_law_bcore.nd rfl (Or.inr rfl)) (pgs_cons (pg_name (i := 5) sc_law_bcore.nd rfl (Or.inl rfl)) (pgs_cons (pg_name (i := 6) sc_law_bcore.nd rfl (Or.inr rfl)) (pgs_nil)))))) (pss_cons (ps_for PassesOwn.never rfl (pi_enum (by rfl) (T.fr 4) (pa_cons (pv 4) (pa_nil))) (pg_tup (by rfl) (pgs_cons (pg_name (i := 7) sc_law_bcore.nd rfl (Or.inr rfl)) (pgs_cons (pg_name (i := 8) sc_law_bcore.nd rfl (Or.inl rfl)) (pgs_nil)))) (pss_cons (ps_set (i := 9) sc_law_bcore.nd rfl (Or.inl rfl) (pe_ifExp (pt_cmpR op_gtI (pv 7) (pe_int) (nomark _)) (pe_callTy call_tupU (by rfl) (T.fr 7) (by decide +kernel) (pa_cons (pe_lc (own := [("turn", 12)]) rfl sc_law_bcore.nd (pi_range1 (by rfl) (T.fr 19) (pa_cons (pe_own h_law_below hr (by decide) (by rfl) (pa_cons (pv 0) (pa_cons (pe_int) (pa_nil)))) (pa_nil))) (blkOk_by (own := [("turn", 12)]) (N := n_law_bcore) (sc := defScope s_law_bcore) (by decide +kernel)) (fun _ _ _ _ _ => pg_name (i := 12) sc_law_bcore.nd rfl (Or.inl rfl)) (fun _ _ _ _ _ => pts_nil) (fun _ _ _ _ _ => pe_own h_law_pick hr (by decide) (by rfl) (pa_cons (pv 0) (pa_cons (pe_slice sl_U (pv 4) (po_none) (po_some (pv 7))) (pa_nil))))) (pa_nil))) (pe_tup (pa_nil)))) (pss_cons (ps_set (i := 9) sc_law_bcore.nd rfl (Or.inl rfl) (pe_ifExp (pt_cmpR op_ltI (pe_callB (cr_sum rfl) (by rfl) (T.fr 13) (by decide +kernel) (pa_cons (pe_lc (own := [("part", 13)]) rfl sc_law_bcore.nd (pi_seq (pv 9)) (blkOk_by (own := [("part", 13)]) (N := n_law_bcore) (sc := defScope s_law_bcore) (by decide +kernel)) (fun _ _ _ _ _ => pg_name (i := 13) sc_law_bcore.nd rfl (Or.inl rfl)) (fun _ _ _ _ _ => pts_nil) (fun _ _ _ _ _ => pe_ix (ix_U hr.units) (pv 6) (pv 13) (fun _ _ => rfl))) (pa_nil))) (pe_int) (nomark _)) (pv 9) (pe_tup (pa_nil)))) (pss_cons (ps_asg (pv 9) (pg_sub (pv 5) (pe_tup (pa_cons (pv 8) (pa_cons (pe_own h_law_pick hr (by decide) (by rfl) (pa_cons (pv 0) (pa_cons (pe_callTy (call_listU rfl) (by rfl) (T.fr 8) (by decide +kernel) (pa_cons (pv 1) (pa_nil))) (pa_nil)))) (pa_nil)))) (set_U hr.units))) (pss_one (ps_asg (pe_op op_plus (pe_int) (pe_callB (cr_sum rfl) (by rfl) (T.fr 13) (by decide +kernel) (pa_cons (pe_lc (own := [("part", 13)]) rfl sc_law_bcore.nd (pi_seq (pv 9)) (blkOk_by (own := [("part", 13)]) (N := n_law_bcore) (sc := defScope s_law_bcore) (by decide +kernel)) (fun _ _ _ _ _ => pg_name (i := 13) sc_law_bcore.nd rfl (Or.inl rfl)) (fun _ _ _ _ _ => pts_nil) (fun _ _ _ _ _ => pe_ix (ix_U hr.units) (pv 6) (pv 13) (fun _ _ => rfl))) (pa_nil)))) (pg_sub (pv 6) (pv 8) (set_U hr.units)))))))) (pss_cons (ps_set (i := 10) sc_law_bcore.nd rfl (Or.inl rfl) (pe_own h_law_pick hr (by decide) (by rfl) (pa_cons (pv 0) (pa_cons (pe_lst (pa_cons (pe_int) (pa_cons (pe_int) (pa_cons (pe_int) (pa_nil))))) (pa_nil))))) (pss_cons (ps_for PassesOwn.never rfl (pi_range1 (by rfl) (T.fr 19) (pa_cons (pv 2) (pa_nil))) (pg_name (i := 8) sc_law_bcore.nd rfl (Or.inl rfl)) (pss_one (ps_for PassesOwn.never rfl (pi_str (pv 1)) (pg_name (i := 11) sc_law_bcore.nd rfl (Or.inl rfl)) (pss_one (ps_if (PW.pt (pw_and (pt_cmpR (op_notInU hr.units) (pe_tup (pa_cons (pv 8) (pa_cons (pv 11) (pa_nil)))) (pv 5) (by rfl)) (pw_and1 (pt_cmpR op_gtI (pe_own h_law_below hr (by decide) (by rfl) (pa_cons (pv 0) (pa_cons (pv 10) (pa_nil)))) (pe_int) (nomark _))))) (pss_one (ps_asg (pe_own h_law_bkinds hr (by decide) (by rfl) (pa_cons (pv 0) (pa_cons (pv 2) (pa_cons (pv 3) (pa_nil))))) (pg_sub (pv 5) (pe_tup (pa_cons (pv 8) (pa_cons (pv 11) (pa_nil)))) (set_U hr.units)))) (pss_nil)))))) (pss_one (ps_ret (pe_lst (pa_cons (pv 1) (pa_cons (pv 2) (pa_cons (pv 5) (pa_nil))))))))))
theorem has_law_bcore {P : Program} {w : World} {K : PySem.W.Frag} {mg : Str → Option Value} {base : Heap} (T : Txt K mg) : Has P w K mg base "_law_bcore" ["stream", "signs", "many", "most"] 3 (sp_law_bcore K) := by
  obtain ⟨fd, F⟩ := T.says.def_ 28 (d := dd_law_bcore) rfl
  exact ⟨⟨fd, F.ok sc_law_bcore (fun vs H Q E => by walk_at "ln") (fun cdv A outer s H vs Q E hr h => ⟨t_law_bcore K, PSs.nox (der_law_bcore T (has_law_mixed T) (has_law_below T) (has_law_pick T) (has_law_bkinds T) hr), pure_law_bcore vs H Q E h⟩), F.bindsN fun _ _ _ _ _ _ us hl => match us, hl with | [_, _, _, _], _ => rfl⟩, F.kp, T.g 47⟩
set_option maxHeartbeats 4000000 in
theorem der_law_bmade {P : Program} {w : World} {K : PySem.W.Frag} {mg : Str → Option Value} {base : Heap} (T : Txt K mg) (h_law_mixed : Has P w K mg base "_law_mixed" ["stream", "some"] 2 (sp_law_mixed K)) (h_law_loose : Has P w K mg base "_law_loose" ["stream", "thing"] 6 (sp_law_loose K 3)) (hm_Core_init__ : HasM P w K mg base "Core" ["self", "signs", "many", "ways"] 4 (sp_Core_init__ K)) {cdv : Value} {A : Around} {outer : List Env} {s : Shared} {H : Hp} {E : XK} {f : Addr} (hr : Room 6 (A.deeper (envOfC "_law_bmade" (defScope s_law_bmade) s.heap.objs.size f cdv))) :
    PSs (cxOf CX0 P w K mg base n_law_bmade "_law_bmade" (defScope s_law_bmade) f cdv A outer s H E).nox (defBody s_law_bmade) (t_law_bmade K) :=
  pss_cons (ps_asg (pv 1) (pg_lst (by rfl) (pgs_cons (pg_name (i := 2) sc_law_bmade.nd rfl (Or.inl rfl)) (pgs_cons (pg_name (i := 3) sc_law_bmade.nd rfl (Or.inl rfl)) (pgs_cons (pg_name (i := 4) sc_law_bmade.nd rfl (Or.inr rfl)) (pgs_nil)))))) (pss_cons (ps_set (i := 5) sc_law_bmade.nd rfl (Or.inl rfl) (pe_callTy (call_dictPT rfl hr.units) (by rfl) (T.fr 11) (by decide +kernel) (pa_cons (pe_lc (own := [("key", 6)]) rfl sc_law_bmade.nd (pi_seq (pe_own h_law_mixed hr (by decide) (by rfl) (pa_cons (pv 0) (pa_cons (pe_callTy (call_listU rfl) (by rfl) (T.fr 8) (by decide +kernel) (pa_cons (pv 4) (pa_nil))) (pa_nil))))) (blkOk_by (own := [("key", 6)]) (N := n_law_bmade) (sc := defScope s_law_bmade) (by decide +kernel)) (fun _ _ _ _ _ => pg_name (i := 6) sc_law_bmade.nd rfl (Or.inl rfl)) (fun _ _ _ _ _ => pts_nil) (fun _ _ _ _ _ => pe_tup (pa_cons (pv 6) (pa_cons (pe_own h_law_loose hr (by decide) (by rfl) (pa_cons (pv 0) (pa_cons (pe_ix (ix_U hr.units) (pv 4) (pv 6) (fun _ _ => rfl)) (pa_nil)))) (pa_nil))))) (pa_nil)))) (pss_one (ps_ret (pe_mk hm_Core_init__ hr (by decide) (by rfl) (pa_cons (pe_joinU (pe_str) (pe_own h_law_mixed hr (by decide) (by rfl) (pa_cons (pv 0) (pa_cons (pe_callTy (call_listU rfl) (by rfl) (T.fr 8) (by decide +kernel) (pa_cons (pv 2) (pa_nil))) (pa_nil))))) (pa_cons (pv 3) (pa_cons (pv 5) (pa_nil))))))))
theorem has_law_bmade {P : Program} {w : World} {K : PySem.W.Frag} {mg : Str → Option Value} {base : Heap} (T : Txt K mg) : Has P w K mg base "_law_bmade" ["stream", "core"] 7 (sp_law_bmade K) := by
  obtain ⟨fd, F⟩ := T.says.def_ 29 (d := dd_law_bmade) rfl
  exact ⟨⟨fd, F.ok sc_law_bmade (fun vs H Q E => by walk_at "ln") (fun cdv A outer s H vs Q E hr h => ⟨t_law_bmade K, PSs.nox (der_law_bmade T (has_law_mixed T) (has_law_loose T) (hasm_Core_init__ T) hr), pure_law_bmade vs H Q E h⟩), F.bindsN fun _ _ _ _ _ _ us hl => match us, hl with | [_, _], _ => rfl⟩, F.kp, T.g 48⟩
set_option maxHeartbeats 4000000 in
theorem der_law_bbehind {P : Program} {w : World} {K : PySem.W.Frag} {mg : Str → Option Value} {base : Heap} (T : Txt K mg) {cdv : Value} {A : Around} {outer : List Env} {s : Shared} {H : Hp} {E : XK} {f : Addr} (hr : Room 0 (A.deeper (envOfC "_law_bbehind" (defScope s_law_bbehind) s.heap.objs.size f cdv))) :
    PSs (cxOf CX0 P w K mg base n_law_bbehind "_law_bbehind" (defScope s_law_bbehind) f cdv A outer s H E).nox (defBody s_law_bbehind) (t_law_bbehind K) :=
  pss_cons (ps_if (PW.pt (pw_or (pt_cmpR (op_eqU hr.units) (pv 1) (pe_tup (pa_nil)) (nomark _)) (pw_or1 (pt_cmpR (op_notInU hr.units) (pe_tup (pa_cons (pe_ix (ix_U hr.units) (pv 1) (pe_int) (fun _ _ => rfl)) (pa_cons (pv 2) (pa_nil)))) (pe_ix (ix_U hr.units) (pv 0) (pe_int) (fun _ _ => rfl)) (by rfl))))) (pss_one (ps_ret (pe_non))) (pss_nil)) (pss_one (ps_ret (pe_op op_plus (pe_callTy call_tupU (by rfl) (T.fr 7) (by decide +kernel) (pa_cons (pe_ix (ix_U hr.units) (pe_ix (ix_U hr.units) (pv 0) (pe_int) (fun _ _ => rfl)) (pe_tup (pa_cons (pe_ix (ix_U hr.units) (pv 1) (pe_int) (fun _ _ => rfl)) (pa_cons (pv 2) (pa_nil)))) (fun _ _ => rfl)) (pa_nil))) (pe_slice sl_U (pv 1) (po_some (pe_int)) (po_none)))))
theorem has_law_bbehind {P : Program} {w : World} {K : PySem.W.Frag} {mg : Str → Option Value} {base : Heap} (T : Txt K mg) : Has P w K mg base "_law_bbehind" ["core", "row", "sign"] 1 (sp_law_bbehind K) := by
  obtain ⟨fd, F⟩ := T.says.def_ 30 (d := dd_law_bbehind) rfl
  exact ⟨⟨fd, F.ok sc_law_bbehind (fun vs H Q E => by walk_at "ln") (fun cdv A outer s H vs Q E hr h => ⟨t_law_bbehind K, PSs.nox (der_law_bbehind T  hr), pure_law_bbehind vs H Q E h⟩), F.bindsN fun _ _ _ _ _ _ us hl => match us, hl with | [_, _, _], _ => rfl⟩, F.kp, T.g 49⟩
set_option maxHeartbeats 4000000 in
theorem der_law_bfirsts {P : Program} {w : World} {K : PySem.W.Frag} {mg : Str → Option Value} {base : Heap} (T : Txt K mg) {cdv : Value} {A : Around} {outer : List Env} {s : Shared} {H : Hp} {E : XK} {f : Addr} (hr : Room 0 (A.deeper (envOfC "_law_bfirsts" (defScope s_law_bfirsts) s.heap.objs.size f cdv))) :
    PSs (cxOf CX0 P w K mg base n_law_bfirsts "_law_bfirsts" (defScope s_law_bfirsts) f cdv A outer s H E).nox (defBody s_law_bfirsts) (t_law_bfirsts K) :=
  pss_cons (ps_set (i := 1) sc_law_bfirsts.nd rfl (Or.inr rfl) (pe_dnew)) (pss_cons (ps_for PassesOwn.never rfl (pi_range1 (by rfl) (T.fr 19) (pa_cons (pe_op op_plus (pe_ix (ix_U hr.units) (pv 0) (pe_int) (fun _ _ => rfl)) (pe_int)) (pa_nil))) (pg_name (i := 2) sc_law_bfirsts.nd rfl (Or.inl rfl)) (pss_one (ps_for PassesOwn.never rfl (pi_seq (pe_callB (call_sortedU rfl hr.units) (by rfl) (T.fr 15) (by decide +kernel) (pa_cons (pe_ix (ix_U hr.units) (pv 0) (pe_int) (fun _ _ => rfl)) (pa_nil)))) (pg_tup (by rfl) (pgs_cons (pg_name (i := 3) sc_law_bfirsts.nd rfl (Or.inl rfl)) (pgs_cons (pg_name (i := 4) sc_law_bfirsts.nd rfl (Or.inl rfl)) (pgs_nil)))) (pss_cons (ps_set (i := 5) sc_law_bfirsts.nd rfl (Or.inl rfl) (pe_ix (ix_U hr.units) (pe_ix (ix_U hr.units) (pv 0) (pe_int) (fun _ _ => rfl)) (pe_tup (pa_cons (pv 3) (pa_cons (pv 4) (pa_nil)))) (fun _ _ => rfl))) (pss_one (ps_if (pt_cmpR (op_eqU hr.units) (pe_lc (own := [("part", 7)]) rfl sc_law_bfirsts.nd (pi_seq (pv 5)) (blkOk_by (own := [("part", 7)]) (N := n_law_bfirsts) (sc := defScope s_law_bfirsts) (by decide +kernel)) (fun _ _ _ _ _ => pg_name (i := 7) sc_law_bfirsts.nd rfl (Or.inl rfl)) (fun _ _ _ _ _ => pts_one (pt_cmpR (op_notInU hr.units) (pv 7) (pv 1) (by rfl))) (fun _ _ _ _ _ => pv 7)) (pe_lst (pa_nil)) (nomark _)) (pss_cons (ps_set (i := 6) sc_law_bfirsts.nd rfl (Or.inl rfl) (pe_op op_plus (pv 4) (pe_joinU (pe_str) (pe_lc (own := [("part", 7)]) rfl sc_law_bfirsts.nd (pi_seq (pv 5)) (blkOk_by (own := [("part", 7)]) (N := n_law_bfirsts) (sc := defScope s_law_bfirsts) (by decide +kernel)) (fun _ _ _ _ _ => pg_name (i := 7) sc_law_bfirsts.nd rfl (Or.inl rfl)) (fun _ _ _ _ _ => pts_nil) (fun _ _ _ _ _ => pe_ix (ix_U hr.units) (pv 1) (pv 7) (fun _ _ => rfl)))))) (pss_one (ps_if (PW.pt (pw_or (pt_cmpR (op_notInU hr.units) (pv 3) (pv 1) (by rfl)) (pw_or1 (pt_cmpR (op_ltU hr.units) (pe_tup (pa_cons (pe_callB call_lenU (by rfl) (T.fr 2) (by decide +kernel) (pa_cons (pv 6) (pa_nil))) (pa_cons (pv 6) (pa_nil)))) (pe_tup (pa_cons (pe_callB call_lenU (by rfl) (T.fr 2) (by decide +kernel) (pa_cons (pe_ix (ix_U hr.units) (pv 1) (pv 3) (fun _ _ => rfl)) (pa_nil))) (pa_cons (pe_ix (ix_U hr.units) (pv 1) (pv 3) (fun _ _ => rfl)) (pa_nil)))) (nomark _))))) (pss_one (ps_asg (pv 6) (pg_sub (pv 1) (pv 3) (set_U hr.units)))) (pss_nil)))) (pss_nil))))))) (pss_one (ps_ret (pv 1))))
theorem has_law_bfirsts {P : Program} {w : World} {K : PySem.W.Frag} {mg : Str → Option Value} {base : Heap} (T : Txt K mg) : Has P w K mg base "_law_bfirsts" ["core"] 1 (sp_law_bfirsts K) := by
  obtain ⟨fd, F⟩ := T.says.def_ 31 (d := dd_law_bfirsts) rfl
  exact ⟨⟨fd, F.ok sc_law_bfirsts (fun vs H Q E => by walk_at "ln") (fun cdv A outer s H vs Q E hr h => ⟨t_law_bfirsts K, PSs.nox (der_law_bfirsts T  hr), pure_law_bfirsts vs H Q E h⟩), F.bindsN fun _ _ _ _ _ _ us hl => match us, hl with | [_], _ => rfl⟩, F.kp, T.g 50⟩
set_option maxHeartbeats 4000000 in
theorem der_law_bnorm {P : Program} {w : World} {K : PySem.W.Frag} {mg : Str → Option Value} {base : Heap} (T : Txt K mg) {cdv : Value} {A : Around} {outer : List Env} {s : Shared} {H : Hp} {E : XK} {f : Addr} (hr : Room 0 (A.deeper (envOfC "_law_bnorm" (defScope s_law_bnorm) s.heap.objs.size f cdv))) :
    PSs (cxOf CX0 P w K mg base n_law_bnorm "_law_bnorm" (defScope s_law_bnorm) f cdv A outer s H E).nox (defBody s_law_bnorm) (t_law_bnorm K) :=
  pss_one (ps_ret (pe_callB (cr_sum rfl) (by rfl) (T.fr 13) (by decide +kernel) (pa_cons (pe_lc (own := [("kind", 2)]) rfl sc_law_bnorm.nd (pi_seq (pv 1)) (blkOk_by (own := [("kind", 2)]) (N := n_law_bnorm) (sc := defScope s_law_bnorm) (by decide +kernel)) (fun _ _ _ _ _ => pg_name (i := 2) sc_law_bnorm.nd rfl (Or.inl rfl)) (fun _ _ _ _ _ => pts_nil) (fun _ _ _ _ _ => pe_callB call_lenU (by rfl) (T.fr 2) (by decide +kernel) (pa_cons (pe_ix (ix_U hr.units) (pv 0) (pv 2) (fun _ _ => rfl)) (pa_nil)))) (pa_nil))))
theorem has_law_bnorm {P : Program} {w : World} {K : PySem.W.Frag} {mg : Str → Option Value} {base : Heap} (T : Txt K mg) : Has P w K mg base "_law_bnorm" ["firsts", "row"] 1 (sp_law_bnorm K) := by
  obtain ⟨fd, F⟩ := T.says.def_ 32 (d := dd_law_bnorm) rfl
  exact ⟨⟨fd, F.ok sc_law_bnorm (fun vs H Q E => by walk_at "ln") (fun cdv A outer s H vs Q E hr h => ⟨t_law_bnorm K, PSs.nox (der_law_bnorm T  hr), pure_law_bnorm vs H Q E h⟩), F.bindsN fun _ _ _ _ _ _ us hl => match us, hl with | [_, _], _ => rfl⟩, F.kp, T.g 51⟩
set_option maxHeartbeats 4000000 in
theorem der_law_bcounts {P : Program} {w : World} {K : PySem.W.Frag} {mg : Str → Option Value} {base : Heap} (T : Txt K mg) (h_law_bfirsts : Has P w K mg base "_law_bfirsts" ["core"] 1 (sp_law_bfirsts K)) (h_law_bnorm : Has P w K mg base "_law_bnorm" ["firsts", "row"] 1 (sp_law_bnorm K)) (h_law_bbehind : Has P w K mg base "_law_bbehind" ["core", "row", "sign"] 1 (sp_law_bbehind K)) {cdv : Value} {A : Around} {outer : List Env} {s : Shared} {H : Hp} {E : XK} {f : Addr} (hr : Room 1 (A.deeper (envOfC "_law_bcounts" (defScope s_law_bcounts) s.heap.objs.size f cdv))) :
    PSs (cxOf CX0 P w K mg base n_law_bcounts "_law_bcounts" (defScope s_law_bcounts) f cdv A outer s H E).nox (defBody s_law_bcounts) (t_law_bcounts K) :=
  pss_cons (ps_par (i := 3) (j := 4) (by rfl) sc_law_bcounts.nd rfl rfl (by decide) rfl rfl (pa_cons (pe_own h_law_bfirsts hr (by decide) (by rfl) (pa_cons (pv 0) (pa_nil))) (pa_cons (pe_lst (pa_nil)) (pa_nil))) (by rfl)) (pss_cons (ps_for PassesOwn.never rfl (pi_range1 (by rfl) (T.fr 19) (pa_cons (pe_op op_plus (pv 2) (pe_int)) (pa_nil))) (pg_name (i := 5) sc_law_bcounts.nd rfl (Or.inl rfl)) (pss_cons (ps_set (i := 6) sc_law_bcounts.nd rfl (Or.inl rfl) (pe_ifExp (pt_cmpR op_leI (pe_own h_law_bnorm hr (by decide) (by rfl) (pa_cons (pv 3) (pa_cons (pv 1) (pa_nil)))) (pv 5) (nomark _)) (pe_disp1T hr.units (pe_callTy call_tupU (by rfl) (T.fr 7) (by decide +kernel) (pa_cons (pv 1) (pa_nil))) (pe_int)) (pe_dnew))) (pss_cons (ps_for PassesOwn.never rfl (pi_range1 (by rfl) (T.fr 19) (pa_cons (pv 5) (pa_nil))) (pg_name (i := 7) sc_law_bcounts.nd rfl (Or.inl rfl)) (pss_cons (ps_set (i := 8) sc_law_bcounts.nd rfl (Or.inl rfl) (pe_dnew)) (pss_cons (ps_lock (ps_for PassesOwn.never rfl (pi_keys (pv 6)) (pg_name (i := 9) sc_law_bcounts.nd rfl (Or.inl rfl)) (pss_one (ps_for PassesOwn.never rfl (pi_str (pe_ix (ix_U hr.units) (pv 0) (pe_int) (fun _ _ => rfl))) (pg_name (i := 10) sc_law_bcounts.nd rfl (Or.inl rfl)) (pss_cons (ps_set (i := 11) sc_law_bcounts.nd rfl (Or.inl rfl) (pe_own h_law_bbehind hr (by decide) (by rfl) (pa_cons (pv 0) (pa_cons (pv 9) (pa_cons (pv 10) (pa_nil)))))) (pss_one (ps_if (PW.pt (pw_and (pt_cmpR op_isNotU (pv 11) (pe_non) (nomark _)) (pw_and1 (pt_cmpR op_leI (pe_own h_law_bnorm hr (by decide) (by rfl) (pa_cons (pv 3) (pa_cons (pv 11) (pa_nil)))) (pe_op op_minus (pe_op op_minus (pv 5) (pv 7)) (pe_int)) (nomark _))))) (pss_one (ps_asg (pe_op op_plus (pe_dget2 (hu64 hr) (pv 8) (pv 11) (pe_int) ⟨rfl, rfl, rfl, rfl⟩) (pe_ix (ix_U hr.units) (pv 6) (pv 9) (fun _ _ => rfl))) (pg_sub (pv 8) (pv 11) (set_U hr.units)))) (pss_nil)))))))) (pss_one (ps_set (i := 6) sc_law_bcounts.nd rfl (Or.inl rfl) (pv 8)))))) (pss_one (ps_expr (pe_bm PySem.F.plainAttrs_list PySem.F.slot_list_append PySem.F.type_list_append mt_append (pv 4) (pa_cons (pe_dget2 (hu64 hr) (pv 6) (pe_tup (pa_nil)) (pe_int) ⟨rfl, rfl, rfl, rfl⟩) (pa_nil)))))))) (pss_one (ps_ret (pv 4))))
theorem has_law_bcounts {P : Program} {w : World} {K : PySem.W.Frag} {mg : Str → Option Value} {base : Heap} (T : Txt K mg) : Has P w K mg base "_law_bcounts" ["core", "row", "most"] 2 (sp_law_bcounts K) := by
  obtain ⟨fd, F⟩ := T.says.def_ 33 (d := dd_law_bcounts) rfl
  exact ⟨⟨fd, F.ok sc_law_bcounts (fun vs H Q E => by walk_at "ln") (fun cdv A outer s H vs Q E hr h => ⟨t_law_bcounts K, PSs.nox (der_law_bcounts T (has_law_bfirsts T) (has_law_bnorm T) (has_law_bbehind T) hr), pure_law_bcounts vs H Q E h⟩), F.bindsN fun _ _ _ _ _ _ us hl => match us, hl with | [_, _, _], _ => rfl⟩, F.kp, T.g 52⟩
set_option maxHeartbeats 4000000 in
theorem der_law_brow {P : Program} {w : World} {K : PySem.W.Frag} {mg : Str → Option Value} {base : Heap} (T : Txt K mg) (h_law_bkinds : Has P w K mg base "_law_bkinds" ["stream", "many", "most"] 2 (sp_law_bkinds K)) {cdv : Value} {A : Around} {outer : List Env} {s : Shared} {H : Hp} {E : XK} {f : Addr} (hr : Room 2 (A.deeper (envOfC "_law_brow" (defScope s_law_brow) s.heap.objs.size f cdv))) :
    PSs (cxOf CX0 P w K mg base n_law_brow "_law_brow" (defScope s_law_brow) f cdv A outer s H E).nox (defBody s_law_brow) (t_law_brow K) :=
  pss_one (ps_ret (pe_own h_law_bkinds hr (by decide) (by rfl) (pa_cons (pv 0) (pa_cons (pe_ix (ix_U hr.units) (pv 1) (pe_int) (fun _ _ => rfl)) (pa_cons (pv 2) (pa_nil))))))
theorem has_law_brow {P : Program} {w : World} {K : PySem.W.Frag} {mg : Str → Option Value} {base : Heap} (T : Txt K mg) : Has P w K mg base "_law_brow" ["stream", "core", "most"] 3 (sp_law_brow K) := by
  obtain ⟨fd, F⟩ := T.says.def_ 34 (d := dd_law_brow) rfl
  exact ⟨⟨fd, F.ok sc_law_brow (fun vs H Q E => by walk_at "ln") (fun cdv A outer s H vs Q E hr h => ⟨t_law_brow K, PSs.nox (der_law_brow T (has_law_bkinds T) hr), pure_law_brow vs H Q E h⟩), F.bindsN fun _ _ _ _ _ _ us hl => match us, hl with | [_, _, _], _ => rfl⟩, F.kp, T.g 53⟩
set_option maxHeartbeats 4000000 in
theorem der_law {P : Program} {w : World} {K : PySem.W.Frag} {mg : Str → Option Value} {base : Heap} (T : Txt K mg) (h_law_start : Has P w K mg base "_law_start" ["script"] 1 (sp_law_start K)) (h_law_bcore : Has P w K mg base "_law_bcore" ["stream", "signs", "many", "most"] 3 (sp_law_bcore K)) (h_law_pick : Has P w K mg base "_law_pick" ["stream", "some"] 2 (sp_law_pick K)) (h_law_below : Has P w K mg base "_law_below" ["stream", "many"] 1 (sp_law_below K)) (h_law_bsigns : Has P w K mg base "_law_bsigns" ["stream", "many"] 2 (sp_law_bsigns K)) (h_law_bmade : Has P w K mg base "_law_bmade" ["stream", "core"] 7 (sp_law_bmade K)) (h_law_brow : Has P w K mg base "_law_brow" ["stream", "core", "most"] 3 (sp_law_brow K)) (h_law_bcounts : Has P w K mg base "_law_bcounts" ["core", "row", "most"] 2 (sp_law_bcounts K)) (h_count : Has P w K mg base "count" ["core", "row", "length"] 5 (sp_count K)) (h_law_loose : Has P w K mg base "_law_loose" ["stream", "thing"] 6 (sp_law_loose K 3)) (h_law_same : Has P w K mg base "_law_same" ["found", "due"] 6 (sp_law_same K 5)) (h_texts_of : Has P w K mg base "texts_of" ["core", "row", "length"] 4 (sp_texts_of K)) (h_norm_of : Has P w K mg base "norm_of" ["core", "row"] 4 (sp_norm_of K)) {cdv : Value} {A : Around} {outer : List Env} {s : Shared} {H : Hp} {E : XK} {f : Addr} (hr : Room 7 (A.deeper (envOfC "law" (defScope s_law) s.heap.objs.size f cdv))) :
    PSs (cxOf CX0 P w K mg base n_law "law" (defScope s_law) f cdv A outer s H E).nox (defBody s_law) (t_law K) :=
  pss_cons (ps_set (i := 1) sc_law.nd rfl (Or.inr rfl) (pe_own h_law_start hr (by decide) (by rfl) (pa_cons (pv 0) (pa_nil)))) (pss_cons (ps_for PassesOwn.never rfl (pi_range1 (by rfl) (T.fr 19) (pa_cons (pe_int) (pa_nil))) (pg_name (i := 2) sc_law.nd rfl (Or.inl rfl)) (pss_cons (ps_set (i := 3) sc_law.nd rfl (Or.inl rfl) (pe_own h_law_bcore hr (by decide) (by rfl) (pa_cons (pv 1) (pa_cons (pe_own h_law_bsigns hr (by decide) (by rfl) (pa_cons (pv 1) (pa_cons (pe_op op_plus (pe_int) (pe_own h_law_below hr (by decide) (by rfl) (pa_cons (pv 1) (pa_cons (pe_int) (pa_nil))))) (pa_nil)))) (pa_cons (pe_op op_plus (pe_int) (pe_own h_law_below hr (by decide) (by rfl) (pa_cons (pv 1) (pa_cons (pe_int) (pa_nil))))) (pa_cons (pe_own h_law_pick hr (by decide) (by rfl) (pa_cons (pv 1) (pa_cons (pe_lst (pa_cons (pe_int) (pa_cons (pe_int) (pa_cons (pe_int) (pa_nil))))) (pa_nil)))) (pa_nil))))))) (pss_cons (ps_set (i := 4) sc_law.nd rfl (Or.inr rfl) (pe_own h_law_bmade hr (by decide) (by rfl) (pa_cons (pv 1) (pa_cons (pv 3) (pa_nil))))) (pss_cons (ps_asg (pe_tup (pa_cons (pe_own h_law_brow hr (by decide) (by rfl) (pa_cons (pv 1) (pa_cons (pv 3) (pa_cons (pe_int) (pa_nil))))) (pa_cons (pe_own h_law_brow hr (by decide) (by rfl) (pa_cons (pv 1) (pa_cons (pv 3) (pa_cons (pe_int) (pa_nil))))) (pa_nil)))) (pg_tup (by rfl) (pgs_cons (pg_name (i := 5) sc_law.nd rfl (Or.inr rfl)) (pgs_cons (pg_name (i := 6) sc_law.nd rfl (Or.inr rfl)) (pgs_nil))))) (pss_cons (ps_set (i := 7) sc_law.nd rfl (Or.inr rfl) (pe_own h_law_bcounts hr (by decide) (by rfl) (pa_cons (pv 3) (pa_cons (pv 5) (pa_cons (pe_int) (pa_nil)))))) (pss_cons (ps_setLc (i := 8) (own := [("length", 12)]) rfl sc_law.nd rfl rfl (sw_true rfl rfl rfl (by decide +kernel)) (pi_range1 (by rfl) (T.fr 19) (pa_cons (pe_int) (pa_nil))) (blkOk_by (own := [("length", 12)]) (N := n_law) (sc := defScope s_law) (by decide +kernel)) (fun _ _ _ _ _ => pg_name (i := 12) sc_law.nd rfl (Or.inl rfl)) (fun _ _ _ _ _ => pts_nil) (fun _ _ _ _ _ => pe_own h_count hr (by decide) (by rfl) (pa_cons (pv 4) (pa_cons (pe_own h_law_loose hr (by decide) (by rfl) (pa_cons (pv 1) (pa_cons (pv 5) (pa_nil)))) (pa_cons (pv 12) (pa_nil)))))) (pss_cons (ps_if (pt_not (pt_truU (pe_own h_law_same hr (by decide) (by rfl) (pa_cons (pv 8) (pa_cons (pv 7) (pa_nil)))) (by intro _; rfl))) (pss_one (ps_ret (pe_bl))) (pss_nil)) (pss_cons (ps_if (pt_not (pt_truU (pe_own h_law_same hr (by decide) (by rfl) (pa_cons (pe_lc (own := [("length", 12)]) rfl sc_law.nd (pi_range1 (by rfl) (T.fr 19) (pa_cons (pe_int) (pa_nil))) (blkOk_by (own := [("length", 12)]) (N := n_law) (sc := defScope s_law) (by decide +kernel)) (fun _ _ _ _ _ => pg_name (i := 12) sc_law.nd rfl (Or.inl rfl)) (fun _ _ _ _ _ => pts_nil) (fun _ _ _ _ _ => pe_callB call_lenU (by rfl) (T.fr 2) (by decide +kernel) (pa_cons (pe_own h_texts_of hr (by decide) (by rfl) (pa_cons (pv 4) (pa_cons (pv 5) (pa_cons (pv 12) (pa_nil))))) (pa_nil)))) (pa_cons (pe_slice sl_U (pv 7) (po_none) (po_some (pe_int))) (pa_nil)))) (by intro _; rfl))) (pss_one (ps_ret (pe_bl))) (pss_nil)) (pss_cons (ps_asg (pe_tup (pa_cons (pe_lc (own := [("length", 12)]) rfl sc_law.nd (pi_range1 (by rfl) (T.fr 19) (pa_cons (pe_int) (pa_nil))) (blkOk_by (own := [("length", 12)]) (N := n_law) (sc := defScope s_law) (by decide +kernel)) (fun _ _ _ _ _ => pg_name (i := 12) sc_law.nd rfl (Or.inl rfl)) (fun _ _ _ _ _ => pts_nil) (fun _ _ _ _ _ => pe_own h_count hr (by decide) (by rfl) (pa_cons (pv 4) (pa_cons (pe_op op_plus (pv 5) (pv 6)) (pa_cons (pv 12) (pa_nil)))))) (pa_cons (pe_lc (own := [("length", 12)]) rfl sc_law.nd (pi_range1 (by rfl) (T.fr 19) (pa_cons (pe_int) (pa_nil))) (blkOk_by (own := [("length", 12)]) (N := n_law) (sc := defScope s_law) (by decide +kernel)) (fun _ _ _ _ _ => pg_name (i := 12) sc_law.nd rfl (Or.inl rfl)) (fun _ _ _ _ _ => pts_nil) (fun _ _ _ _ _ => pe_own h_count hr (by decide) (by rfl) (pa_cons (pv 4) (pa_cons (pv 6) (pa_cons (pv 12) (pa_nil)))))) (pa_nil)))) (pg_tup (by rfl) (pgs_cons (pg_name (i := 9) sc_law.nd rfl (Or.inl rfl)) (pgs_cons (pg_name (i := 10) sc_law.nd rfl (Or.inr rfl)) (pgs_nil))))) (pss_cons (ps_if (pt_not (pt_truU (pe_own h_law_same hr (by decide) (by rfl) (pa_cons (pv 9) (pa_cons (pe_lc (own := [("length", 12)]) rfl sc_law.nd (pi_range1 (by rfl) (T.fr 19) (pa_cons (pe_int) (pa_nil))) (blkOk_by (own := [("length", 12)]) (N := n_law) (sc := defScope s_law) (by decide +kernel)) (fun _ _ _ _ _ => pg_name (i := 12) sc_law.nd rfl (Or.inr rfl)) (fun _ _ _ _ _ => pts_nil) (fun _ _ _ _ _ => pe_callB (cr_sum rfl) (by rfl) (T.fr 13) (by decide +kernel) (pa_cons (pe_lc (own := [("at", 13)]) rfl sc_law.nd (pi_range1 (by rfl) (T.fr 19) (pa_cons (pe_op op_plus (pv 12) (pe_int)) (pa_nil))) (blkOk_by (own := [("at", 13)]) (N := n_law) (sc := scL) (by decide +kernel)) (fun _ _ _ _ _ => pg_name (i := 13) sc_law.nd rfl (Or.inl rfl)) (fun _ _ _ _ _ => pts_nil) (fun _ _ _ _ _ => pe_op op_times (pe_ix (ix_U hr.units) (pv 7) (pv 13) (fun _ _ => rfl)) (pe_ix (ix_U hr.units) (pv 10) (pe_op op_minus (pv 12) (pv 13)) (fun _ _ => rfl)))) (pa_nil)))) (pa_nil)))) (by intro _; rfl))) (pss_one (ps_ret (pe_bl))) (pss_nil)) (pss_cons (ps_set (i := 11) sc_law.nd rfl (Or.inl rfl) (pe_own h_norm_of hr (by decide) (by rfl) (pa_cons (pv 4) (pa_cons (pv 5) (pa_nil))))) (pss_one (ps_if (PW.pt (pw_or (pt_cmpR (op_neU hr.units) (pe_lc (own := [("one", 14)]) rfl sc_law.nd (pi_seq (pe_slice sl_U (pv 7) (po_none) (po_some (pv 11)))) (blkOk_by (own := [("one", 14)]) (N := n_law) (sc := defScope s_law) (by decide +kernel)) (fun _ _ _ _ _ => pg_name (i := 14) sc_law.nd rfl (Or.inl rfl)) (fun _ _ _ _ _ => pts_one (pt_cmpR (op_neU hr.units) (pv 14) (pe_int) (nomark _))) (fun _ _ _ _ _ => pv 14)) (pe_lst (pa_nil)) (nomark _)) (pw_or1 (PW.pt (pw_and (pt_cmpR op_ltI (pv 11) (pe_int) (nomark _)) (pw_and1 (pt_cmpR (op_eqU hr.units) (pe_ix (ix_U hr.units) (pv 7) (pv 11) (fun _ _ => rfl)) (pe_int) (nomark _)))))))) (pss_one (ps_ret (pe_bl))) (pss_nil)))))))))))))) (pss_one (ps_ret (pe_bl))))
theorem has_law {P : Program} {w : World} {K : PySem.W.Frag} {mg : Str → Option Value} {base : Heap} (T : Txt K mg) : Has P w K mg base "law" ["script"] 8 (sp_law K) := by
  obtain ⟨fd, F⟩ := T.says.def_ 35 (d := dd_law) rfl
  exact ⟨⟨fd, F.ok sc_law (fun vs H Q E => by walk_at "ln") (fun cdv A outer s H vs Q E hr h => ⟨t_law K, PSs.nox (der_law T (has_law_start T) (has_law_bcore T) (has_law_pick T) (has_law_below T) (has_law_bsigns T) (has_law_bmade T) (has_law_brow T) (has_law_bcounts T) (has_count T) (has_law_loose T) (has_law_same T) (has_texts_of T) (has_norm_of T) hr), pure_law vs H Q E h⟩), F.bindsN fun _ _ _ _ _ _ us hl => match us, hl with | [_], _ => rfl⟩, F.kp, T.g 54⟩
theorem facts {P : Program} {w : World} {K : PySem.W.Frag} {h : Heap} {mg : Str → Option Value} {f : Addr} (X : K.In h) (G : h.Ns mainGlobals mg) (hfa : mg ("law" : Str) = some (.ref f)) (c : He.SaysD fa fn K) (ct : tst K = true) :
    CoreF K ∧ CountedF K ∧ ∃ fd : FuncData, (∀ (s : Shared) (v : Value), BindsTo s fd ⟨[v], []⟩ [("script", v)]) ∧ ∀ base : Heap, K.In base → base.Ns mainGlobals mg → FnOk P w K mg base CX0 8 f fd ["script"] (sp_law K) := by
  obtain ⟨fd, F⟩ := c.def_ 35 (d := dd_law) rfl
  obtain ⟨tCore, ct⟩ := He.ba ct
  obtain ⟨tCounted, ct⟩ := He.ba ct
  have T : Txt K mg := ⟨⟨h, X, G⟩, c, tCore, tCounted⟩
  have e := hfa.symm.trans (T.g 54)
  cases e
  have b := FunD.bindsA (ps := ["script"]) F fun _ _ _ _ _ _ us hl => match us, hl with | [_], _ => rfl
  exact ⟨T.FCore, T.FCounted, fd, fun s v => b s [v] rfl, fun base _ _ => F.ok sc_law (fun vs H Q E => by walk_at "ln") (fun cdv A outer s H vs Q E hr h => ⟨t_law K, PSs.nox (der_law T (has_law_start T) (has_law_bcore T) (has_law_pick T) (has_law_below T) (has_law_bsigns T) (has_law_bmade T) (has_law_brow T) (has_law_bcounts T) (has_count T) (has_law_loose T) (has_law_same T) (has_texts_of T) (has_norm_of T) hr), pure_law vs H Q E h⟩)⟩
end Pt.Re
open PySem PySem.W PySem.Calls PyProof.Rows
theorem PySem.Challenge.cw_primetexts_k20_whole_counted_holds : PySem.Challenge.rw_primetexts_k20_whole_counted.Holds := by
  w_on; o_law
  refine HandSHeadRun.head_any (r := OpenLaw.row PySem.Challenge.rw_primetexts_k20_whole_counted) (q := view (OpenLaw.row PySem.Challenge.rw_primetexts_k20_whole_counted).prog [55]) (H := Pt.hk) (ob := Pt.ob) (M := 40000) (loose := Pt.loose) (d := HandSHeadRun.topDef (OpenLaw.row PySem.Challenge.rw_primetexts_k20_whole_counted).prog 55) (kwd := []) Pt.ob_eq
    (by kernel_rfl) (fun s => by kernel_rfl) Pt.run (by kernel_rfl) (by kernel_rfl) (by kernel_rfl) (by rfl) (by first | assumption | decide +kernel) (by decide +kernel) ⟨rfl, rfl, rfl, rfl, rfl, by decide +kernel⟩ ?hw ?hc
  case hw => w_witness2
  case hc =>
    refine L2.walk_ofE (l := PySem.Challenge.rw_primetexts_k20_whole_counted) (n := 63) (k := 8) (x := "script") (CX := L2.CX0) rfl (by decide) (by kernel_rfl) ⟨rfl, by decide, by decide⟩ ?F (fun _ _ _ _ z => z)
    intro w mg fa h Y G hmg0
    obtain ⟨K, KX, c, ct⟩ := Y
    have hmg : mg ("law" : PySem.Str) = some (.ref fa) := by
      have e : (HandSHeadRun.topDef (OpenLaw.row PySem.Challenge.rw_primetexts_k20_whole_counted).prog 55).name = ("law" : PySem.Str) := by kernel_rfl
      rw [← e]
      exact hmg0
    obtain ⟨CFCore, CFCounted, fd, hb, hF⟩ := Pt.Re.facts (P := (PySem.Challenge.rw_primetexts_k20_whole_counted).prog) (w := w) KX G hmg c ct
    exact ⟨K, fd, Pt.Re.sp_law K, KX, hb, fun H a ns hl _ hS => ⟨a, ns, rfl, CFCore, CFCounted, hS, hl, fun _ => rfl⟩, hF⟩
