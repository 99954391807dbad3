import PyProof.Rows.All
import Wide.All
import OpenK.AllK
import Wide.FinOn
import HandS.ForMost
import HandS.Rev
import HandS.Zip
import KE.GoesEnum
import HandS.Exc
import HandS.TryOnly
import HandS.ExcOwn
import HandS.WordsExc
import HandS.Defaults
import HandS.IsInst
import HandS.Conv
import PySem.Challenge.RW_hookmill_k58_whole_many_rules
set_option Elab.async false
set_option linter.all false
set_option maxRecDepth 100000
set_option maxHeartbeats 4000000
/-! own rules: a text times a whole number; list(reversed(an empty tuple)); zip of an empty tuple with a list -/
namespace Mine
open PySem PySem.Spec PyProof.Rows L2
section
variable {X : Cx}
def rMulS : R2 := fun x y H Q => ∃ (z : Str) (n : Int), x = .str z ∧ y = .int n ∧ 0 ≤ n ∧ n ≤ 1000 ∧ z.length ≤ 1000 ∧ Q (.str (Txt.mul z n)) H
theorem op_mulS : OpR X (binaryOp .Mult) rMulS := by
  intro pins s σ H x y v u Q I rx ry h
  obtain ⟨z, n, rfl, rfl, h0, h1, hz, q⟩ := h
  obtain ⟨t, rfl⟩ := rx
  obtain ⟨t', rfl⟩ := ry
  exact SB.mul (mulOk_of 1000 1000 hz h1 (by omega) (by decide) (by decide)) fun t' k => ⟨.str (Txt.mul z n), H, I.tok _, ⟨_, rfl⟩, q⟩
end
/-! ### list(reversed(())) -/
theorem slot_rt_hint : Slot "reversed" "__length_hint__" "reversed.__length_hint__" :=
  .of (owner := "reversed") (n := "__length_hint__") (by rw [typeLookup_type, builtinLookup_eq_fast]; kernel_rfl) (by decide +kernel) (by decide +kernel) (by decide +kernel)
    (by first | exact .inl (by decide +kernel) | exact .inr (by decide +kernel)) (by rw [isSubtype_type]; kernel_rfl)
theorem entry_rt_hint : entryFor table "reversed.__length_hint__" = some Builtin.«reversed.__length_hint__» := entryFor_of_tree (by kernel_rfl)
theorem args_rt_hint (a : Value) : argsOk "reversed.__length_hint__" ⟨[a], []⟩ := by
  unfold argsOk; rw [signature?_of (id := "reversed.__length_hint__") (n := ['_', '_', 't', 'n', 'i', 'h', '_', 'h', 't', 'g', 'n', 'e', 'l', '_', '_']) (o := ['d', 'e', 's', 'r', 'e', 'v', 'e', 'r']) (by kernel_rfl) RT.owner_rt]; kernel_rfl
theorem nolen_rt : typeLookup (.type "reversed") "__len__" = pure none := by rw [typeLookup_type, builtinLookup_eq_fast]; kernel_rfl
section
variable {prog : Program} {w : World} {A : Around} {E : Value → Shared → Prop} {s : Shared} {R : Result → Shared → Prop}
theorem call_rt_hint0 {it t : Addr} {Q : Value → Shared → Prop} (hit : RT.IsRt s.heap it t (-1)) (ht : IsTup s.heap t ([] : List Value).toArray)
    (h : ∀ tk tk', Q (.int 0 tk) { s with toks := tk' }) :
    wpAny (model prog w) A (call (.builtin "reversed.__length_hint__") [.ref it]) Q E s := by
  obtain ⟨o, ho, hc, hd⟩ := id hit
  refine wpAny_call_entry slot_rt_hint hit.typeIs entry_rt_hint ?_ (args_rt_hint _)
  unfold Builtin.«reversed.__length_hint__»
  refine wpAny_bind (wpAny_of_eq (a := Value.ref it) rfl ?_)
  try dsimp only
  refine wpAny_bind (wpAny_field ho hd (x := .ref t) rfl ?_)
  rw [if_neg (show ¬ ((Value.ref t == Value.none) = true) from Bool.false_ne_true)]
  refine wpAny_bind (PyProof.Rows.len_tuple ht (by decide) ?_)
  refine wpAny_bind (wpAny_of_eq (a := some (0 : Int)) rfl ?_)
  try dsimp only
  refine wpAny_bind (wpAny_field (s := { s with toks := s.toks + 1 + 1 }) ho hd (x := rawInt (-1)) rfl ?_)
  show wpAny _ _ (if (0 : Int) < -1 + 1 then _ else retInt (-1 + 1)) _ _ _
  rw [if_neg (by decide)]
  show wpAny _ _ (mkInt 0 >>= fun v => ret v) _ _ _
  refine wpAny_bind (wpAny_mkInt ?_)
  exact wpAny_pure ⟨_, rfl, h _ _⟩
theorem code_init_rt {it t S : Addr} (hh : A.handled = none) (hit : RT.IsRt s.heap it t (-1)) (ht : IsTup s.heap t ([] : List Value).toArray) (hS : s.heap.get? S = some { cls := .type "list", data := .seq #[] }) (hSi : S ≠ it) (hSt : S ≠ t)
    (hR : ∀ h' tk c, (∀ b o, b ≠ S → b ≠ it → s.heap.get? b = some o → h'.get? b = some o) → h'.get? S = some { cls := .type "list", dict := none, data := .seq #[] c, slots := #[] } → R (.ok (.ret .none)) { s with heap := h', toks := tk }) :
    wpAny (model prog w) A.in1 (Builtin.«list.__init__» ⟨[.ref S, .ref it], []⟩)
      (fun fin s' => match fin with | .done f => R (.ok f) s' | .again c' => c'.quiet = true ∧ codeAny (model prog w) A c' R s') (fun e s' => R (.error e) s') s := by
  show wpAny _ A.in1 (do let old ← Builtin.List.listItems (.ref S); Builtin.List.listUpdate (.ref S) (fun _ => #[]); letGo old.toList.reverse; Builtin.List.listExtendWith (.ref S) (.ref it) .none) _ _ s
  refine wpAny_bind ?_
  unfold Builtin.List.listItems
  refine wpAny_bind (wpAny_seqItems hS rfl (wpAny_pure ?_))
  show wpAny _ A.in1 (updateSeq S (fun _ => #[]) >>= fun _ => letGo (#[] : Array Value).toList.reverse >>= fun _ => Builtin.List.listExtendWith (.ref S) (.ref it) .none) _ _ s
  refine wpAny_bind (wpAny_updateSeq hS rfl ?_)
  have hS2 := Heap.get?_update_self (Obj.mapSeq (fun _ => (#[] : Array Value))) hS rfl
  have oth : ∀ b o, b ≠ S → s.heap.get? b = some o → (s.heap.update S (Obj.mapSeq (fun _ => (#[] : Array Value)))).get? b = some o :=
    fun b o hb e => (Heap.get?_update_other _ _ (Ne.symm hb)).trans e
  refine wpAny_bind (wpAny_letGo ?_)
  have hit2 : RT.IsRt (s.heap.update S (Obj.mapSeq (fun _ => (#[] : Array Value)))) it t (-1) := hit.at fun o e => oth _ o (Ne.symm hSi) e
  have ht2 : IsTup (s.heap.update S (Obj.mapSeq (fun _ => (#[] : Array Value)))) t ([] : List Value).toArray := by
    obtain ⟨o, e, r⟩ := ht
    exact ⟨o, oth _ o (Ne.symm hSt) e, r⟩
  generalize hh2 : s.heap.update S (Obj.mapSeq (fun _ => (#[] : Array Value))) = h2 at hit2 ht2 hS2 oth
  unfold Builtin.List.listExtendWith
  refine wpAny_bind (wpAny_typeOf (RT.IsRt.typeIs (s := { s with heap := h2 }) hit2) ?_)
  have h1 : Builtin.List.listSameRef (.ref S) (.ref it) = false := by simp [Builtin.List.listSameRef, hSi]
  rw [if_neg (by rw [h1]; decide)]
  refine wpAny_bind (RT.iter_rt (s := { s with heap := h2 }) hit2 ?_)
  refine wpAny_bind (wpAny_holding ?_)
  unfold Builtin.List.listLengthHint
  refine wpAny_bind (wpAny_specialOf (RT.IsRt.typeIs (s := { s with heap := h2 }) hit2) nolen_rt ?_)
  show wpAny _ A.in1 (specialOf (Value.ref it) (Str.ofString "__length_hint__") >>= _) _ _ _
  refine wpAny_bind (wpAny_specialOf (RT.IsRt.typeIs (s := { s with heap := h2 }) hit2) slot_rt_hint.lookup ?_)
  generalize hid : ("reversed.__length_hint__" : String) = id0
  wp_delta
  rw [show splitId id0 = some ("reversed", "__length_hint__") from by subst hid; decide +kernel]
  subst hid
  refine wpAny_bind (wpAny_isInstance (b := true) (RT.IsRt.typeIs (s := { s with heap := h2 }) hit2) (by rw [isSubtype_type]; kernel_rfl) ?_)
  rw [if_neg (by decide)]
  show wpAny _ _ (if _ then _ else _) _ _ _
  rw [if_neg (by decide +kernel)]
  refine wpAny_bind (wpAny_rule ?_)
  refine wpAny_bind (wpAny_of_eq (slot_rt_hint.bind (Value.ref it)) ?_)
  refine wpAny_bind (wpAny_attempt ?_)
  refine call_rt_hint0 (s := { s with heap := h2 }) hit2 ht2 fun tk tk' => ?_
  refine wpAny_bind (wpAny_of_eq (a := some (0 : Int)) rfl ?_)
  dsimp only
  rw [if_neg (by decide)]
  rw [if_neg (by decide)]
  rw [if_neg (by decide +kernel)]
  refine wpAny_pure ?_
  rw [if_neg (by decide +kernel)]
  refine wpAny_pure ⟨plainId_quiet F.plain_extend_loop _, codeAny_builtin F.entry_extend_loop ?_⟩
  rw [Around.under_plainId F.plain_extend_loop _]
  show wpAny _ A.in1 (pyNext (.ref it) >>= _) _ _ _
  refine wpAny_bind (RT.next_rt_end (s := { s with heap := h2, toks := tk' }) (show A.in1.handled = none from hh) hit2 fun h' hb => ?_)
  refine wpAny_pure (hR h' tk' _ (fun b o h1 h2 e => hb b o h2 (oth b o h1 e)) (hb _ _ hSi hS2))
theorem call_list_rt {it t : Addr} {Q : Value → Shared → Prop} (hh : A.handled = none) (hit : RT.IsRt s.heap it t (-1)) (ht : IsTup s.heap t ([] : List Value).toArray)
    (hQ : ∀ h' tk c, (∀ b o, b ≠ it → s.heap.get? b = some o → h'.get? b = some o) → h'.get? s.heap.objs.size = some { cls := .type "list", dict := none, data := .seq #[] c, slots := #[] } → Q (.ref s.heap.objs.size) { s with heap := h', toks := tk }) :
    wpAny (model prog w) A (call (.type "list") [.ref it]) Q E s := by
  have hSi : s.heap.objs.size ≠ it := by
    obtain ⟨o, e, _⟩ := hit
    exact Nat.ne_of_gt (Heap.lt_size e)
  have hSt : s.heap.objs.size ≠ t := by
    obtain ⟨o, e, _⟩ := ht
    exact Nat.ne_of_gt (Heap.lt_size e)
  refine callType_codes (Q₁ := fun obj s₁ => obj = .ref s.heap.objs.size ∧ s₁ = { s with heap := s.heap.push { cls := .type "list", data := .seq #[] } }) F.called_list (F.typeCall_list_1 _) F.entry_list_init
    (code_list_new _ ⟨rfl, rfl⟩) fun obj s₁ h₁ => ?_
  obtain ⟨rfl, rfl⟩ := h₁
  have hS : (s.heap.push { cls := .type "list", data := .seq #[] }).get? s.heap.objs.size = some { cls := .type "list", data := .seq #[] } := Heap.get?_push_size _ rfl
  refine ⟨⟨_, hS, rfl⟩, F.args_list_init_2 _ _, code_init_rt (A := A.in1) (s := { s with heap := s.heap.push { cls := .type "list", data := .seq #[] } }) hh (hit.at fun o e => Heap.get?_push_of_some _ e) ?_ hS hSi hSt fun h' tk c hk e => ?_⟩
  · obtain ⟨o, e, r⟩ := ht
    exact ⟨o, Heap.get?_push_of_some _ e, r⟩
  · exact ⟨rfl, hQ h' tk c (fun b o hb q => hk b o (Nat.ne_of_lt (Heap.lt_size q)) hb (Heap.get?_push_of_some _ q)) e⟩
end
/-- list(reversed(t)), t an empty tuple -/
def tLstRev0 (K : PySem.W.Frag) (te : TE) : TE := fun σ H Q => te σ H fun v H1 => ∃ (a : Addr), v = .ref a ∧ SqT K H1 a [] ∧ ∀ q, H1 q = none → Q (.ref q) (upd H1 q (.lst []))
section
variable {X : Cx}
theorem pe_lstRev0 {e : Expr} {te : TE} {p p2 pos pos2 : Pos} (hc : X.calm = true) (hg : Gl X "list") (hm : X.mg "list" = none) (hg2 : Gl X "reversed") (hm2 : X.mg "reversed" = none) (he : PE X e te)
    (hs : starEach [e] X.env = (false, eval e X.env) :: starEach [] X.env := by rfl)
    (hs2 : starEach [.Call (.Name "reversed" p2) [e] [] pos2] X.env = (false, eval (.Call (.Name "reversed" p2) [e] [] pos2) X.env) :: starEach [] X.env := by rfl) :
    PE X (.Call (.Name "list" p) [.Call (.Name "reversed" p2) [e] [] pos2] [] pos) (tLstRev0 X.K te) := by
  refine ⟨fun pins s σ H Q I h => ?_⟩
  refine Call_ (ld_blt I hg hm boot_list (PyProof.Rows.callWith_type1 (args_cons (Call_ (ld_blt I hg2 hm2 PyProof.Rows.boot_reversed (PyProof.Rows.callWith_type1 (args_cons (thn (he.run pins s σ H _ I h) fun u s1 ⟨v, H1, I1, r1, q1⟩ => args_nil ?_) hs) hs rfl))) hs2) hs2 rfl))
  obtain ⟨a, ev, hq, q⟩ := q1
  subst ev
  obtain rfl : u = Value.ref a := r1
  obtain ⟨its, rv, p', hz⟩ := I1.tuple hq
  cases rv
  refine RT.call_reversed_tup p' (fun A E Q k => PyProof.Rows.len_tuple p' (by decide) k) (args_nil ?_)
  have k0 : ∀ b o, s1.heap.get? b = some o → (s1.heap.push (RT.rtObj a ((([] : List Value).toArray.size : Int) - 1))).get? b = some o := fun b o e => Heap.get?_push_of_some _ e
  have I2 : Inv X pins σ H1 { s1 with heap := s1.heap.push (RT.rtObj a ((([] : List Value).toArray.size : Int) - 1)), toks := s1.toks + 1 + 1 } := I1.kept (t' := s1.toks + 1 + 1) k0
  obtain ⟨f0, f1, f2, f3, f4, f5⟩ := I1.fpOk (H' := H1) (b := s1.heap.objs.size) (Nat.le_refl _) (I1.hok.fresh (Nat.le_refl _))
  refine call_list_rt (s := { s1 with heap := s1.heap.push (RT.rtObj a ((([] : List Value).toArray.size : Int) - 1)), toks := s1.toks + 1 + 1 }) (t := a) (I1.ok.hd hc) ⟨_, Heap.get?_push_size _ rfl, rfl, rfl⟩ ?_ fun h' tk c hk e => ?_
  · obtain ⟨o, e, r⟩ := p'
    exact ⟨o, k0 _ _ e, r⟩
  · have hsz : (s1.heap.push (RT.rtObj a ((([] : List Value).toArray.size : Int) - 1))).objs.size = s1.heap.objs.size + 1 := Heap.size_push ..
    have new : ObjOk X.prog X.w (upd H1 (s1.heap.push (RT.rtObj a ((([] : List Value).toArray.size : Int) - 1))).objs.size (.lst [])) h' (s1.heap.push (RT.rtObj a ((([] : List Value).toArray.size : Int) - 1))).objs.size (.lst []) :=
      ⟨Nat.zero_le _, [], c, .nil, e⟩
    have I3 := I2.turnedNew (t' := tk) (ch := [s1.heap.objs.size]) (fun b o hb q => hk b o (fun z => hb (by simp [z])) q) (fun b hb => by
      obtain rfl : b = s1.heap.objs.size := by simpa using hb
      exact ⟨f0, f1, f2, f3, f4, f5⟩) (Nat.le_refl _) new
    exact ⟨.ref _, _, I3, rfl, q _ (I2.hok.fresh (Nat.le_refl _))⟩
end
/-! ### zip(t, l), t an empty tuple, l a list -/
def ItE (K : PySem.W.Frag) (a b : Addr) : It := ⟨fun _ _ => False, fun _ _ _ _ => False, fun _ H => SqT K H a [] ∧ ∃ ys, SqL K H b ys⟩
theorem turn_zipE {P : Program} {w : World} {K : PySem.W.Frag} {tg : Expr} {a b z TI TO i1 i2 : Addr} (S : ZipSep2 z TI TO i1 i2 [i1, a] [i2, b]) (hai : a ≠ i1) (hbi : b ≠ i2) :
    Turn P w K tg (ItE K a b) [z, TI, TO, i1, i2] z (fun _ h => IsZip h z TI TO .none ∧ IsTupOf2 h TI (.ref i1) (.ref i2) ∧ (∃ x y, IsTupOf2 h TO x y) ∧ h.IsTupleIter i1 a 0 ∧ h.IsListIter i2 b 0) where
  mem := by simp
  obj := fun i h st c hc => by
    obtain ⟨hz, hTI, ⟨x, y, hTO⟩, ⟨o1, e1, _, d1⟩, ⟨o2, e2, _, d2⟩⟩ := st
    have e' : c = z ∨ c = TI ∨ c = TO ∨ c = i1 ∨ c = i2 := by simpa using hc
    rcases e' with q | q | q | q | q
    · rw [q]; exact ⟨_, hz, fun v q => nomatch q⟩
    · rw [q]; exact ⟨_, hTI, fun v q => nomatch q⟩
    · rw [q]; exact ⟨_, hTO, fun v q => nomatch q⟩
    · rw [q]; exact ⟨o1, e1, fun v q => by rw [d1] at q; cases q⟩
    · rw [q]; exact ⟨o2, e2, fun v q => by rw [d2] at q; cases q⟩
  keep := fun i h h' st k => by
    obtain ⟨hz, hTI, ⟨x, y, hTO⟩, h1, h2⟩ := st
    exact ⟨k z (by simp) _ hz, k TI (by simp) _ hTI, ⟨x, y, k TO (by simp) _ hTO⟩, h1.at fun o q => k i1 (by simp) o q, h2.at fun o q => k i2 (by simp) o q⟩
  item := by
    intro X hP hw hK hc i pins s σ H E I hf st hg
    exact hg.elim
  done := by
    intro X hP hw hK hc i pins s σ H E I hf st hg
    subst hP hw hK
    obtain ⟨hz, hTI, ⟨x0, y0, hTO⟩, h1, h2⟩ := st
    obtain ⟨hqx, ys, hqy⟩ := hg
    obtain ⟨its, rv, p, _⟩ := I.tuple hqx
    obtain ⟨its2, rv2, p2, _⟩ := I.list hqy
    cases rv
    have hh : X.A.in1.handled = none := I.ok.hd hc
    refine wpAny_pyNext_zipD2_end S (Draws.tuple hh i1 a hai ([] : List Value).toArray) (Draws.list hh i2 b hbi its2.toArray) hz hTI hTO (i := 0) ⟨h1, p⟩ ⟨h2, p2.isList⟩ (Nat.zero_le _) (Nat.zero_le _) (.inl rfl) fun h' tk hk => ⟨rfl, I.turnedL (t' := tk) (ch := [z, TI, TO, i1, i2]) (fun c o hb q =>
      hk c o (fun q' => hb (by simp [q'])) (fun q' => hb (by simp [q'])) (fun q' => hb (by simp [q'])) (fun q' => hb (by simp [q'])) q) hf⟩
  self := fun A i s Q E st h => wpAny_pyIter_zip st.1 h
def iZipE (K : PySem.W.Frag) (ta : TA) : TI := fun σ H R => ta σ H fun vs H1 => ∃ a b ys, vs = [.ref a, .ref b] ∧ SqT K H1 a [] ∧ SqL K H1 b ys ∧ R (ItE K a b) H1
theorem pi_zipE {X : Cx} {e e2 : Expr} {ta : TA} {p pos : Pos} {tg : Expr} (hg : Gl X "zip") (hm : X.mg "zip" = none) (ha : PA X [e, e2] ta)
    (hs : starEach [e, e2] X.env = (false, eval e X.env) :: starEach [e2] X.env := by rfl) (hpl : (backTo pos (starEach [e2] X.env)).any (·.1) = false := by rfl) :
    PI X tg (.Call (.Name "zip" p) [e, e2] [] pos) (iZipE X.K ta) := by
  refine ⟨fun pins s σ H R I h => ?_⟩
  refine Call_ (ld_blt I hg hm PyProof.Rows.boot_zip (PyProof.Rows.callWith_type1 (thn (ha.run pos pins s σ H _ I h) fun us s1 ⟨vs, H1, I1, r1, q1⟩ => ?_) hs hpl))
  obtain ⟨a, b, ys, ex, hqx, hqy, q⟩ := q1
  subst ex
  cases r1 with
  | cons r rr =>
    cases rr with
    | cons r' rr =>
      cases rr
      cases r
      cases r'
      have fresh5 : ∀ c, c ∈ [s1.heap.objs.size + 4, s1.heap.objs.size + 2, s1.heap.objs.size + 3, s1.heap.objs.size, s1.heap.objs.size + 1] → FpOk X pins H1 c := fun c hcm => by
        have e' : c = s1.heap.objs.size + 4 ∨ c = s1.heap.objs.size + 2 ∨ c = s1.heap.objs.size + 3 ∨ c = s1.heap.objs.size ∨ c = s1.heap.objs.size + 1 := by simpa using hcm
        have hle : s1.heap.objs.size ≤ c := by
          rcases e' with z | z | z | z | z
          · rw [z]; exact Nat.le_add_right _ _
          · rw [z]; exact Nat.le_add_right _ _
          · rw [z]; exact Nat.le_add_right _ _
          · rw [z]; exact Nat.le_refl _
          · rw [z]; exact Nat.le_add_right _ _
        exact I1.fpOk hle (I1.hok.fresh hle)
      obtain ⟨its, rv, p1, _⟩ := I1.tuple hqx
      obtain ⟨its2, rv2, p2, _⟩ := I1.list hqy
      obtain ⟨o1, ho1, _⟩ := id p1
      have la : a < s1.heap.objs.size := Heap.lt_size ho1
      have lb : b < s1.heap.objs.size := p2.lt
      refine zip_begins2 (begins_tuple a its.toArray) (begins_list b its2.toArray) (show s1.heap.IsTuple a its.toArray from p1) p2.isList fun h' hz hTI hTO h1 h2 hsz hk => wpAny_pyIter_zip hz ?_
      have I2 : Inv X pins σ H1 { s1 with heap := h' } := I1.kept (t' := s1.toks) hk
      refine ⟨s1.heap.objs.size + 4, [s1.heap.objs.size + 4, s1.heap.objs.size + 2, s1.heap.objs.size + 3, s1.heap.objs.size, s1.heap.objs.size + 1], _, _, H1, rfl, I2, turn_zipE (zip_sep2 (N := s1.heap.objs.size) (fp1 := [a]) (fp2 := [b]) ?_ ?_) (Nat.ne_of_lt la) (Nat.ne_of_lt (Nat.lt_succ_of_lt lb)), ⟨hz, hTI, ⟨_, _, hTO⟩, ⟨_, h1, rfl, rfl⟩, ⟨_, h2, rfl, rfl⟩⟩, fresh5, q⟩
      · intro c hc
        obtain rfl : c = a := by simpa using hc
        exact la
      · intro c hc
        obtain rfl : c = b := by simpa using hc
        exact lb
/-- a loop over it: no turn -/
theorem for_zipE {K : PySem.W.Frag} {a b : Addr} {ys : List V} {g : TG} {tb : TS} {D : Ends} {σ : L2.St} {H : Hp} (hx : SqT K H a []) (hy : SqL K H b ys) (hd : D.nx σ H) :
    ∃ W : Nat → Nat → L2.St → Hp → Prop, (∃ m, W 0 m σ H) ∧ ∀ i m σ H, W i m σ H →
      ((ItE K a b).stop i H ∧ D.nx σ H) ∨ ((ItE K a b).go i H ∧ ∃ N : L2.St → Hp → Prop, (∀ σ' H', N σ' H' → ∃ m', m' < m ∧ W (i + 1) m' σ' H') ∧ ∀ v H', (ItE K a b).yld i H v H' → g v σ H' fun σ2 H2 => tb { D with nx := N, ct := N, bk := D.nx } σ2 H2) := by
  refine ⟨fun i m σ' H' => σ' = σ ∧ H' = H, ⟨0, rfl, rfl⟩, ?_⟩
  rintro i m σ' H' ⟨rfl, rfl⟩
  exact .inl ⟨⟨hx, ys, hy⟩, hd⟩
end Mine

namespace Mine
open PySem L2
def top (i : Nat) : Stmt := PySem.Challenge.pw_hookmill_k58_whole_many_rules.main.body.getD i (.Pass ⟨0, 0, 0, 0⟩)
abbrev sHeads : Stmt := top 4
abbrev sCalls : Stmt := top 6
abbrev sOff : Stmt := top 7
abbrev sVal : Stmt := top 8
abbrev sWds : Stmt := top 9
abbrev sCnt : Stmt := top 10
abbrev sPut : Stmt := top 11
abbrev sWorth : Stmt := top 12
abbrev sCell : Stmt := top 14
abbrev sNames : Stmt := top 15
abbrev sGoes : Stmt := top 16
abbrev sRight : Stmt := top 17
abbrev sSpent : Stmt := top 18
abbrev sLaw : Stmt := top 19
/-! ### heaps -/
theorem same_put {H H' : Hp} {a : Addr} {o : HO} (s : Same H H') (n : H a = none) : Same H (upd H' a o) := fun b u e => by
  rw [upd_ne (ne_of_none e n)]
  exact s b u e
/-- all but lists stand as they stood -/
def Kept (H H' : Hp) : Prop := ∀ b o, H b = some o → (∀ xs, o ≠ .lst xs) → H' b = some o
theorem Kept.refl (H : Hp) : Kept H H := fun _ _ h _ => h
theorem Kept.trans {H H1 H2 : Hp} (a : Kept H H1) (b : Kept H1 H2) : Kept H H2 := fun c o h n => b c o (a c o h n) n
theorem Kept.of {H H' : Hp} (s : Same H H') : Kept H H' := fun b o h _ => s b o h
theorem Kept.tup {H H' : Hp} (k : Kept H H') {a : Addr} {xs : List V} (h : H a = some (.tup xs)) : H' a = some (.tup xs) := k a _ h (fun _ z => by cases z)
theorem Kept.dk {H H' : Hp} (k : Kept H H') {a : Addr} {xs : List (Key × V)} (h : H a = some (.dK xs)) : H' a = some (.dK xs) := k a _ h (fun _ z => by cases z)
theorem Kept.put {H H' : Hp} {a : Addr} {o : HO} (s : Kept H H') (n : H' a = none ∨ ∃ xs, H' a = some (.lst xs)) : Kept H (upd H' a o) := fun b u e hn => by
  have e' := s b u e hn
  have hb : b ≠ a := by
    intro z
    subst z
    rcases n with n | ⟨xs, n⟩
    · rw [n] at e'; cases e'
    · rw [n] at e'; cases e'; exact hn xs rfl
  rw [upd_ne hb]
  exact e'
/-- all but d stands as it stood -/
def But (d : Addr) (H H' : Hp) : Prop := ∀ b o, b ≠ d → H b = some o → H' b = some o
theorem But.refl (d : Addr) (H : Hp) : But d H H := fun _ _ _ h => h
theorem But.of {d : Addr} {H H' : Hp} (s : Same H H') : But d H H' := fun b o _ h => s b o h
theorem But.put {d a : Addr} {o : HO} {H H' : Hp} (s : But d H H') (n : a = d ∨ H a = none) : But d H (upd H' a o) := fun b u hb e => by
  have hba : b ≠ a := by
    intro z
    subst z
    rcases n with n | n
    · exact hb n
    · rw [n] at e; cases e
  rw [upd_ne hba]
  exact s b u hb e
theorem But.trans {d : Addr} {H H1 H2 : Hp} (a : But d H H1) (b : But d H1 H2) : But d H H2 := fun c o n h => b c o n (a c o n h)
theorem But.kept {d : Addr} {H H' : Hp} (s : But d H H') {xs : List V} (h : H d = some (.lst xs)) : Kept H H' := fun b o e n => s b o (fun z => by subst z; rw [h] at e; cases e; exact n xs rfl) e

section
variable {P : Program} {w : World} {K : PySem.W.Frag} {mg : Str → Option Value} {base : Heap}
/-! ### off_the_end(done, many) -/
def spOff : Sp := fun vs H Q _ => ∃ (d : Addr) (xs : List V) (n : Nat), vs = [.ref d, .int (n : Int)] ∧ H d = some (.lst xs) ∧ n ≤ xs.length ∧ xs.length ≤ 1000 ∧
  ∀ (H' : Hp) (p : Addr), But d H H' → H p = none → H' d = some (.lst (xs.take (xs.length - n))) → H' p = some (.lst (xs.drop (xs.length - n)).reverse) → Q (.ref p) H'
theorem scOff : FnScope ["done", "many", "found", "k"] ["done", "many"] (defScope sOff) := ⟨rfl, rfl, rfl, by decide +kernel, rfl, by decide +kernel, by decide +kernel⟩
theorem ok_off {f : Addr} {fd : FuncData} (F : Fun K "off_the_end" "off_the_end" sOff f fd) (mr : mg "range" = none) : FnOk P w K mg base CX0 1 f fd ["done", "many"] spOff := by
  refine F.ok scOff (fun vs H Q E h => ?_) (fun cdv A outer s H vs Q E hr h => ?_)
  · obtain ⟨d, xs, n, rfl, _⟩ := h
    rfl
  · obtain ⟨d, xs, n, rfl, hd, hn, hl, k⟩ := h
    refine ⟨_, pss_cons (ps_set (i := 2) scOff.nd rfl (Or.inl rfl) (pe_lst pa_nil)) (pss_cons (ps_for PassesOwn.never rfl (pi_range1 rfl mr (pa_cons (pv 1) pa_nil)) (pg_name (i := 3) scOff.nd rfl (Or.inl rfl))
      (pss_one (ps_expr (pe_bm PySem.F.plainAttrs_list PySem.F.slot_list_append PySem.F.type_list_append mt_append (pv 2) (pa_cons (pe_bm0 PySem.F.plainAttrs_list PySem.F.slot_list_pop PySem.F.type_list_pop mt_pop (pv 0)) pa_nil)))))
      (pss_one (ps_ret (pv 2)))), ?_⟩
    refine ⟨Nat.zero_le _, fun p hp => ?_⟩
    have npd : d ≠ p := ne_of_none hd hp
    refine ⟨_, rfl, (n : Int), rfl, by omega, by omega, for_range (lo := 0) (n := n) (fun i σ H' => ∃ v, σ = [some (.ref d), some (.int (n : Int)), some (.ref p), v] ∧ But d H H' ∧ H' d = some (.lst (xs.take (xs.length - i))) ∧ H' p = some (.lst (xs.drop (xs.length - i)).reverse))
      ⟨none, rfl, (But.refl d H).put (.inr hp), by rw [upd_ne npd, Nat.sub_zero, List.take_length]; exact hd, by rw [upd_same, Nat.sub_zero, List.drop_length]; rfl⟩ ?_ ?_⟩
    · rintro i σ H' hi ⟨v, rfl, hb, h1, h2⟩
      have hlt : xs.length - (i + 1) < xs.length := by omega
      have hlen : (xs.take (xs.length - i)).length = xs.length - i := by rw [List.length_take]; omega
      have hlast : (xs.take (xs.length - i))[(xs.take (xs.length - i)).length - 1]? = some (xs[xs.length - (i + 1)]'hlt) := by
        rw [hlen, List.getElem?_take]
        have e : xs.length - i - 1 = xs.length - (i + 1) := by omega
        rw [if_pos (by omega), e]
        exact List.getElem?_eq_getElem hlt
      refine ⟨_, rfl, .inl ⟨rfl, _, SqL.of h2⟩, _, rfl, .inl ⟨rfl, _, SqL.of h1⟩, d, _, _, rfl, rfl, h1, hlast, p, _, _, rfl, rfl, (by rw [upd_ne npd.symm]; exact h2), ?_, ?_⟩
      · rw [List.length_reverse, List.length_drop]
        exact Nat.lt_of_le_of_lt (by omega : xs.length - (xs.length - i) ≤ 1000) (by decide)
      · refine ⟨_, rfl, (hb.put (.inl rfl)).put (.inr hp), ?_, ?_⟩
        · rw [upd_ne npd, upd_same]
          congr 2
          rw [List.dropLast_eq_take, hlen, List.take_take]
          congr 1
          omega
        · rw [upd_same]
          congr 2
          have e : xs.drop (xs.length - (i + 1)) = xs[xs.length - (i + 1)]'hlt :: xs.drop (xs.length - i) := by
            have e2 : xs.length - i = xs.length - (i + 1) + 1 := by omega
            rw [e2]
            exact List.drop_eq_getElem_cons hlt
          rw [e, List.reverse_cons]
    · rintro σ H' ⟨v, rfl, hb, h1, h2⟩
      exact ⟨_, rfl, k H' p hb hp h1 h2⟩
end
end Mine

namespace Mine
open PySem L2
section
variable {P : Program} {w : World} {K : PySem.W.Frag} {mg : Str → Option Value} {base : Heap}
/-! ### value_of(name, parts), no parts -/
def spVal : Sp := fun vs H Q _ => ∃ (x : Str) (l : Addr), vs = [.str x, .ref l] ∧ H l = some (.lst []) ∧
  ∀ (H' : Hp) (v t : Addr), Same H H' → H' v = some (.tup [.str x, .ref t, .int 1]) → H' t = some (.tup []) → Q (.ref v) H'
theorem scVal : FnScope ["name", "parts", "size", "part"] ["name", "parts"] (defScope sVal) := ⟨rfl, rfl, rfl, by decide +kernel, rfl, by decide +kernel, by decide +kernel⟩
theorem ok_val {f : Addr} {fd : FuncData} (F : Fun K "value_of" "value_of" sVal f fd) (mt : mg "tuple" = none) : FnOk P w K mg base CX0 1 f fd ["name", "parts"] spVal := by
  refine F.ok scVal (fun vs H Q E h => ?_) (fun cdv A outer s H vs Q E hr h => ?_)
  · obtain ⟨x, l, rfl, _⟩ := h
    rfl
  · obtain ⟨x, l, rfl, hl, k⟩ := h
    refine ⟨_, pss_cons (ps_set (i := 2) scVal.nd rfl (Or.inl rfl) pe_int) (pss_cons (ps_for PassesOwn.never rfl (pi_list (pv 1)) (pg_name (i := 3) scVal.nd rfl (Or.inl rfl)) pss_never)
      (pss_one (ps_ret (pe_tup (pa_cons (pv 0) (pa_cons (pe_tupleOf rfl mt (pv 1)) (pa_cons (pv 2) pa_nil))))))), ?_⟩
    refine ⟨_, rfl, l, rfl, ⟨_, SqL.of hl⟩, for_list (K := K) (a := l) (xs := []) (fun i σ H' => σ = [some (.str x), some (.ref l), some (.int 1), none] ∧ H' = H)
      ⟨rfl, rfl⟩ (fun i σ H' _ h => by rw [h.2]; exact SqL.of hl) (fun i x σ H' e _ => by simp at e) ?_⟩
    rintro σ H' ⟨rfl, rfl⟩
    refine ⟨_, rfl, _, rfl, .inl ⟨l, _, rfl, SqL.of hl, fun t ht => ⟨_, rfl, (by show 3 ≤ sizeLine; decide), fun v hv => ?_⟩⟩⟩
    have ntv : t ≠ v := by
      intro z
      subst z
      rw [upd_same] at hv
      cases hv
    refine k _ v t (same_put (same_put (Same.refl _) ht) ?_) upd_same (by rw [upd_ne ntv, upd_same])
    rw [upd_ne ntv.symm] at hv
    exact hv
/-! ### words_of(value), no parts -/
def spWds : Sp := fun vs H Q _ => ∃ (v t : Addr) (x : Str) (n : Int), vs = [.ref v] ∧ H v = some (.tup [.str x, .ref t, .int n]) ∧ H t = some (.tup []) ∧
  ∀ (H' : Hp) (p : Addr), Same H H' → H' p = some (.tup [.str x]) → Q (.ref p) H'
theorem scWds : FnScope ["value", "words", "due", "name", "parts", "size"] ["value"] (defScope sWds) := ⟨rfl, rfl, rfl, by decide +kernel, rfl, by decide +kernel, by decide +kernel⟩
theorem ok_wds {f : Addr} {fd : FuncData} (F : Fun K "words_of" "words_of" sWds f fd) (ml : mg "len" = none) (mli : mg "list" = none) (mre : mg "reversed" = none) (mt : mg "tuple" = none) : FnOk P w K mg base CX0 1 f fd ["value"] spWds := by
  refine F.ok scWds (fun vs H Q E h => ?_) (fun cdv A outer s H vs Q E hr h => ?_)
  · obtain ⟨v, t, x, n, rfl, _⟩ := h
    rfl
  · obtain ⟨v, t, x, n, rfl, hv, ht, k⟩ := h
    refine ⟨_, pss_cons (ps_set (i := 1) scWds.nd rfl (Or.inl rfl) (pe_lst pa_nil)) (pss_cons (ps_set (i := 2) scWds.nd rfl (Or.inl rfl) (pe_lst (pa_cons (pv 0) pa_nil)))
      (pss_cons (ps_while PassesOwn.never (pt_cmpR op_gt (pe_callB call_len_seq (by rfl) ml PySem.boot_len (pa_cons (pv 2) pa_nil)) pe_int (nomark _))
        (pss_cons (ps_asg (pe_bm0 PySem.F.plainAttrs_list PySem.F.slot_list_pop PySem.F.type_list_pop mt_pop (pv 2)) (pg_tup rfl (pgs_cons (pg_name (i := 3) scWds.nd rfl (Or.inl rfl)) (pgs_cons (pg_name (i := 4) scWds.nd rfl (Or.inl rfl)) (pgs_cons (pg_name (i := 5) scWds.nd rfl (Or.inl rfl)) pgs_nil)))))
        (pss_cons (ps_expr (pe_bm PySem.F.plainAttrs_list PySem.F.slot_list_append PySem.F.type_list_append mt_append (pv 1) (pa_cons (pv 3) pa_nil)))
        (pss_one (ps_expr (pe_bm PySem.F.plainAttrs_list PySem.F.slot_list_extend PySem.F.type_list_extend mt_extend (pv 2) (pa_cons (pe_lstRev0 rfl rfl mli rfl mre (pv 4)) pa_nil)))))))
      (pss_one (ps_ret (pe_tupleOf rfl mt (pv 1)))))), ?_⟩
    refine ⟨Nat.zero_le _, fun wl hwl => ⟨_, rfl, (by show 1 ≤ sizeLine; decide), fun dl hdl => ?_⟩⟩
    have nwd : wl ≠ dl := by
      intro z
      subst z
      rw [upd_same] at hdl
      cases hdl
    have hdl0 : H dl = none := by rw [upd_ne nwd.symm] at hdl; exact hdl
    refine ⟨fun m σ H' => Same H H' ∧ ((m = 1 ∧ σ = [some (.ref v), some (.ref wl), some (.ref dl), none, none, none] ∧ H' dl = some (.lst [.ref v]) ∧ H' wl = some (.lst [])) ∨
      (m = 0 ∧ (∃ a b c, σ = [some (.ref v), some (.ref wl), some (.ref dl), a, b, c]) ∧ H' dl = some (.lst []) ∧ H' wl = some (.lst [.str x]))),
      ⟨1, same_put (same_put (Same.refl _) hwl) hdl0, .inl ⟨rfl, rfl, upd_same, by rw [upd_ne nwd, upd_same]⟩⟩, ?_⟩
    rintro m σ H' ⟨hs, ⟨rfl, rfl, h1, h2⟩ | ⟨rfl, ⟨a, b, c, rfl⟩, h1, h2⟩⟩
    · refine ⟨_, rfl, dl, _, rfl, .inl (SqL.of h1), _, _, rfl, rfl, _, rfl, iteT ?_⟩
      refine ⟨fun σ' H'' => Same H H'' ∧ (∃ a b c, σ' = [some (.ref v), some (.ref wl), some (.ref dl), a, b, c]) ∧ H'' dl = some (.lst []) ∧ H'' wl = some (.lst [.str x]),
        fun σ' H'' z => ⟨0, by decide, z.1, .inr ⟨rfl, z.2⟩⟩, ?_⟩
      have hv' := hs _ _ hv
      have ht' := hs _ _ ht
      refine ⟨_, rfl, .inl ⟨rfl, _, SqL.of h1⟩, dl, _, _, rfl, rfl, h1, rfl, v, _, rfl, SqT.of (by rw [upd_ne (ne_of hv' h1 (fun z => by cases z))]; exact hv'), rfl, ?_⟩
      refine ⟨_, _, rfl, _, _, rfl, _, _, rfl, rfl, ?_⟩
      refine ⟨_, rfl, .inl ⟨rfl, _, SqL.of (by rw [upd_ne nwd]; exact h2)⟩, _, rfl, wl, _, _, rfl, rfl, (by rw [upd_ne nwd]; exact h2), (by show 0 < sizeLine; decide), ?_⟩
      have ntd : t ≠ dl := ne_of ht' h1 (fun z => by cases z)
      have ntw : t ≠ wl := ne_of ht' h2 (fun z => by cases z)
      refine ⟨_, rfl, .inl ⟨rfl, [], SqL.of (by rw [upd_ne nwd.symm, upd_same]; rfl)⟩, _, rfl, t, rfl, SqT.of (by rw [upd_ne ntw, upd_ne ntd]; exact ht'), fun q hq => ?_⟩
      have nqd : dl ≠ q := by
        intro z
        subst z
        rw [upd_ne nwd.symm, upd_same] at hq
        cases hq
      have nqw : wl ≠ q := by
        intro z
        subst z
        rw [upd_same] at hq
        cases hq
      refine ⟨dl, q, [], [], rfl, rfl, (by rw [upd_ne nqd, upd_ne nwd.symm, upd_same]; rfl), upd_same, (by show 0 ≤ sizeLine; decide), ?_⟩
      refine ⟨?_, ⟨_, _, _, rfl⟩, upd_same, ?_⟩
      · have hq0 : H q = none := by
          rw [upd_ne nqw.symm, upd_ne nqd.symm] at hq
          exact hs.free hq
        exact same_put (same_put (same_put (same_put hs hdl0) hwl) hq0) hdl0
      · rw [upd_ne nwd, upd_ne nqw, upd_same]
        rfl
    · refine ⟨_, rfl, dl, _, rfl, .inl (SqL.of h1), _, _, rfl, rfl, _, rfl, iteF ?_⟩
      exact ⟨_, rfl, .inl ⟨wl, _, rfl, SqL.of h2, fun q hq => k _ q (same_put hs (hs.free hq)) upd_same⟩⟩
end
end Mine

namespace Mine
open PySem L2
section
variable {P : Program} {w : World} {K : PySem.W.Frag} {mg : Str → Option Value} {base : Heap}
/-! ### count_call(counts, rule, values), a rule without names -/
def spCnt : Sp := fun vs H Q _ => ∃ (c r l e x : Addr) (a b d : Int) (ys : List V), vs = [.ref c, .ref r, .ref l] ∧ H c = some (.lst [.int a, .int b, .int d]) ∧ H r = some (.tup [.ref e, .ref x]) ∧ H e = some (.tup []) ∧ H l = some (.lst ys) ∧ l ≠ c ∧
  ∀ H' : Hp, But c H H' → H' c = some (.lst [.int (a + 1), .int b, .int d]) → Q .non H'
theorem scCnt : FnScope ["counts", "rule", "values", "name", "value", "times"] ["counts", "rule", "values"] (defScope sCnt) := ⟨rfl, rfl, rfl, by decide +kernel, rfl, by decide +kernel, by decide +kernel⟩
theorem ok_cnt {f : Addr} {fd : FuncData} (F : Fun K "count_call" "count_call" sCnt f fd) (mz : mg "zip" = none) : FnOk P w K mg base CX0 1 f fd ["counts", "rule", "values"] spCnt := by
  refine F.ok scCnt (fun vs H Q E h => ?_) (fun cdv A outer s H vs Q E hr h => ?_)
  · obtain ⟨c, r, l, e, x, a, b, d, ys, rfl, _⟩ := h
    rfl
  · obtain ⟨c, r, l, e, x, a, b, d, ys, rfl, hc, hrr, he, hl, nlc, k⟩ := h
    refine ⟨_, pss_cons (ps_asg (pe_op op_add (pe_ix ix_list (pv 0) pe_int (fun _ _ => rfl)) pe_int) (pg_sub (pv 0) pe_int set_list))
      (pss_one (ps_for PassesOwn.never rfl (pi_zipE rfl mz (pa_cons (pe_ix ix_tup (pv 1) pe_int (fun _ _ => rfl)) (pa_cons (pv 2) pa_nil))) (pg_tup rfl (pgs_cons (pg_name (i := 3) scCnt.nd rfl (Or.inl rfl)) (pgs_cons (pg_name (i := 4) scCnt.nd rfl (Or.inl rfl)) pgs_nil))) pss_never)), ?_⟩
    refine ⟨_, rfl, c, _, _, _, rfl, rfl, SqL.of hc, rfl, _, _, rfl, rfl, _, rfl, c, _, _, 0, rfl, rfl, hc, rfl, ?_⟩
    have nrc : r ≠ c := ne_of hrr hc (fun z => by cases z)
    have nec : e ≠ c := ne_of he hc (fun z => by cases z)
    refine ⟨_, rfl, r, _, _, _, rfl, rfl, SqT.of (by rw [upd_ne nrc]; exact hrr), rfl, _, rfl, e, l, ys, rfl, SqT.of (by rw [upd_ne nec]; exact he), SqL.of (by rw [upd_ne nlc]; exact hl), for_zipE (SqT.of (by rw [upd_ne nec]; exact he)) (SqL.of (by rw [upd_ne nlc]; exact hl)) ?_⟩
    exact k _ ((But.refl c H).put (.inl rfl)) upd_same
/-! ### put_in(rule, values), a rule without names, of one word -/
def spPut : Sp := fun vs H Q _ => ∃ (r l e x : Addr) (g : Str) (ys : List V), vs = [.ref r, .ref l] ∧ H r = some (.tup [.ref e, .ref x]) ∧ H e = some (.tup []) ∧ H x = some (.tup [.str g]) ∧ H l = some (.lst ys) ∧
  ∀ (H' : Hp) (p : Addr), Same H H' → H p = none → H' p = some (.lst [.str g]) → Q (.ref p) H'
theorem scPut : FnScope ["rule", "values", "stands", "name", "value", "word"] ["rule", "values"] (defScope sPut) := ⟨rfl, rfl, rfl, by decide +kernel, rfl, by decide +kernel, by decide +kernel⟩
theorem ok_put {f : Addr} {fd : FuncData} (F : Fun K "put_in" "put_in" sPut f fd) (mz : mg "zip" = none) : FnOk P w K mg base CX0 1 f fd ["rule", "values"] spPut := by
  refine F.ok scPut (fun vs H Q E h => ?_) (fun cdv A outer s H vs Q E hr h => ?_)
  · obtain ⟨r, l, e, x, g, ys, rfl, _⟩ := h
    rfl
  · obtain ⟨r, l, e, x, g, ys, rfl, hrr, he, hx, hl, k⟩ := h
    refine ⟨_, pss_cons (ps_set (i := 2) scPut.nd rfl (Or.inr rfl) pe_dnewK)
      (pss_cons (ps_for PassesOwn.never rfl (pi_zipE rfl mz (pa_cons (pe_ix ix_tup (pv 0) pe_int (fun _ _ => rfl)) (pa_cons (pv 1) pa_nil))) (pg_tup rfl (pgs_cons (pg_name (i := 3) scPut.nd rfl (Or.inl rfl)) (pgs_cons (pg_name (i := 4) scPut.nd rfl (Or.inl rfl)) pgs_nil))) pss_never)
      (pss_one (ps_ret (pe_lc (own := [("word", 5)]) (g := gName 5) (tt := tYes) rfl scPut.nd (pi_tup (pe_ix ix_tup (pv 0) pe_int (fun _ _ => rfl))) (blkOk_by (N := ["rule", "values", "stands", "name", "value", "word"]) (sc := defScope sPut) (by decide +kernel))
        (fun _ _ _ _ _ => pg_name (i := 5) scPut.nd rfl (Or.inl rfl)) (fun _ _ _ _ _ => pts_nil) (fun _ _ _ _ _ => pe_dget2 (hu_of hr) (pv 2) (pv 5) (pv 5) ⟨rfl, rfl, rfl, rfl⟩))))), ?_⟩
    intro sd hsd
    have n1 : ∀ {b : Addr} {o : HO}, H b = some o → b ≠ sd := fun q => ne_of_none q hsd
    refine ⟨_, rfl, r, _, _, _, rfl, rfl, SqT.of (by rw [upd_ne (n1 hrr)]; exact hrr), rfl, _, rfl, e, l, ys, rfl, SqT.of (by rw [upd_ne (n1 he)]; exact he), SqL.of (by rw [upd_ne (n1 hl)]; exact hl), for_zipE (SqT.of (by rw [upd_ne (n1 he)]; exact he)) (SqL.of (by rw [upd_ne (n1 hl)]; exact hl)) ?_⟩
    refine ⟨_, rfl, r, _, _, _, rfl, rfl, SqT.of (by rw [upd_ne (n1 hrr)]; exact hrr), rfl, x, rfl, ⟨_, SqT.of (by rw [upd_ne (n1 hx)]; exact hx)⟩, fun D hD => ?_⟩
    have nsD : sd ≠ D := by
      intro z
      subst z
      rw [upd_same] at hD
      cases hD
    have hD0 : H D = none := by rw [upd_ne nsD.symm] at hD; exact hD
    refine lc_tup (K := K) (a := x) (xs := [.str g]) (fun i H' => Same H H' ∧ H' sd = some (.dK []) ∧ H' D = some (.lst (if i = 0 then [] else [.str g])))
      ⟨same_put (same_put (Same.refl _) hsd) hD0, by rw [upd_ne nsD, upd_same], upd_same⟩ (fun i H' _ h => SqT.of (h.1 _ _ hx)) ?_ ?_
    · rintro i y H' hi ⟨hs, h1, h2⟩
      have i0 : i = 0 := by
        cases i with
        | zero => rfl
        | succ j => simp at hi
      subst i0
      obtain rfl : V.str g = y := by simpa using hi
      refine ⟨rfl, _, rfl, sd, rfl, .inl ⟨_, .inl h1⟩, _, rfl, _, rfl, none, DGet.k (k := Sum.inr g) h1, ?_⟩
      refine ⟨_, h2, (by show 0 < sizeLine; decide), same_put hs hD0, by rw [upd_ne nsD]; exact h1, by rw [upd_same]; rfl⟩
    · rintro H' ⟨hs, h1, h2⟩
      exact k H' D hs hD0 h2
end
end Mine

namespace Mine
open PySem L2
/-! ### the program as data: nt takers tk a, nm makers mk b, the rule of taker a and maker b goes to maker g a b -/
structure Sys where
  nt : Nat
  nm : Nat
  kd : Str
  tak : Nat → Str
  mak : Nat → Str
  g : Nat → Nat → Nat
structure Sys.Ok (S : Sys) : Prop where
  t8 : S.nt ≤ 8
  m8 : S.nm ≤ 8
  ti : ∀ a b, a < S.nt → b < S.nt → S.tak a = S.tak b → a = b
  mi : ∀ a b, a < S.nm → b < S.nm → S.mak a = S.mak b → a = b
  tm : ∀ a b, a < S.nt → b < S.nm → S.tak a ≠ S.mak b
  gl : ∀ a b, a < S.nt → b < S.nm → S.g a b < S.nm
def LeafAt (kd : Str) (H : Hp) (a : Addr) (m : Str) : Prop := ∃ e, H a = some (.tup [.str m, .str kd, .ref e]) ∧ H e = some (.tup [])
def RowAt (kd : Str) (H : Hp) (a : Addr) (t : Str) : Prop := ∃ e, H a = some (.tup [.str t, .str kd, .str kd, .ref e]) ∧ H e = some (.tup [])
def RuleAt (S : Sys) (H : Hp) (r : Addr) (a b : Nat) : Prop := ∃ e x, H r = some (.tup [.str (S.tak a), .str (S.mak b), .ref e, .ref x]) ∧ H e = some (.tup []) ∧ H x = some (.tup [.str (S.mak (S.g a b))])
structure ProgAt (S : Sys) (H : Hp) (p : Addr) : Prop where
  ex : ∃ (p0 p1 p2 p3 : Addr) (l1 l2 l3 : List Addr), H p = some (.tup [.ref p0, .ref p1, .ref p2, .ref p3]) ∧
    H p1 = some (.tup (l1.map V.ref)) ∧ l1.length = S.nm ∧ (∀ j a, l1[j]? = some a → LeafAt S.kd H a (S.mak j)) ∧
    H p2 = some (.tup (l2.map V.ref)) ∧ l2.length = S.nt ∧ (∀ j a, l2[j]? = some a → RowAt S.kd H a (S.tak j)) ∧
    H p3 = some (.tup (l3.map V.ref)) ∧ l3.length ≤ 64 ∧ (∀ r ∈ l3, ∃ a b, a < S.nt ∧ b < S.nm ∧ RuleAt S H r a b) ∧ (∀ a b, a < S.nt → b < S.nm → ∃ r ∈ l3, RuleAt S H r a b)
theorem LeafAt.kept {kd : Str} {H H' : Hp} {a : Addr} {m : Str} (k : Kept H H') (h : LeafAt kd H a m) : LeafAt kd H' a m := let ⟨e, h1, h2⟩ := h; ⟨e, k.tup h1, k.tup h2⟩
theorem RowAt.kept {kd : Str} {H H' : Hp} {a : Addr} {m : Str} (k : Kept H H') (h : RowAt kd H a m) : RowAt kd H' a m := let ⟨e, h1, h2⟩ := h; ⟨e, k.tup h1, k.tup h2⟩
theorem RuleAt.kept {S : Sys} {H H' : Hp} {r : Addr} {a b : Nat} (k : Kept H H') (h : RuleAt S H r a b) : RuleAt S H' r a b := let ⟨e, x, h1, h2, h3⟩ := h; ⟨e, x, k.tup h1, k.tup h2, k.tup h3⟩
theorem ProgAt.kept {S : Sys} {H H' : Hp} {p : Addr} (k : Kept H H') (h : ProgAt S H p) : ProgAt S H' p := by
  obtain ⟨p0, p1, p2, p3, l1, l2, l3, h0, h1, n1, f1, h2, n2, f2, h3, n3, f3, f4⟩ := h.ex
  refine ⟨p0, p1, p2, p3, l1, l2, l3, k.tup h0, k.tup h1, n1, fun j a e => (f1 j a e).kept k, k.tup h2, n2, fun j a e => (f2 j a e).kept k, k.tup h3, n3, fun r hr => ?_, fun a b ha hb => ?_⟩
  · obtain ⟨a, b, ha, hb, q⟩ := f3 r hr
    exact ⟨a, b, ha, hb, q.kept k⟩
  · obtain ⟨r, hr, q⟩ := f4 a b ha hb
    exact ⟨r, hr, q.kept k⟩
/-- in the table of heads: the name's kind, and the n kinds behind it -/
def HeadAt (kd : Str) (H : Hp) (kvs : List (Key × V)) (x : Str) (n : Nat) : Prop := ∃ (a e : Addr) (xs : List V), valV kvs (.inr x) = some (.ref a) ∧ H a = some (.tup [.str kd, .ref e]) ∧ H e = some (.tup xs) ∧ xs.length = n
/-- the tuples stand as they stood -/
def Tups (H H' : Hp) : Prop := ∀ b xs, H b = some (.tup xs) → H' b = some (.tup xs)
theorem Tups.refl (H : Hp) : Tups H H := fun _ _ h => h
theorem Tups.of {H H' : Hp} (k : Kept H H') : Tups H H' := fun _ _ h => k.tup h
theorem Tups.trans {H H1 H2 : Hp} (a : Tups H H1) (b : Tups H1 H2) : Tups H H2 := fun c xs h => b c xs (a c xs h)
theorem Tups.new {H H' : Hp} {a : Addr} {o : HO} (s : Tups H H') (n : H' a = none) : Tups H (upd H' a o) := fun b u e => by
  rw [upd_ne (ne_of_none (s b u e) n)]
  exact s b u e
theorem Tups.dict {H H' : Hp} {a : Addr} {o : HO} {kvs : List (Key × V)} (s : Tups H H') (n : H' a = some (.dK kvs)) : Tups H (upd H' a o) := fun b u e => by
  rw [upd_ne (ne_of (s b u e) n (fun z => by cases z))]
  exact s b u e
theorem HeadAt.kept {kd : Str} {H H' : Hp} {kvs : List (Key × V)} {x : Str} {n : Nat} (k : Tups H H') (h : HeadAt kd H kvs x n) : HeadAt kd H' kvs x n := let ⟨a, e, xs, h1, h2, h3, h4⟩ := h; ⟨a, e, xs, h1, k _ _ h2, k _ _ h3, h4⟩
theorem HeadAt.other {kd : Str} {H : Hp} {kvs : List (Key × V)} {x y : Str} {n : Nat} {v : V} (h : HeadAt kd H kvs x n) (ne : x ≠ y) : HeadAt kd H (putK kvs (.inr y) v) x n := by
  obtain ⟨a, e, xs, h1, h2⟩ := h
  exact ⟨a, e, xs, by rw [valV_put, if_neg (fun z => ne (Sum.inr.inj z))]; exact h1, h2⟩
theorem ref_at {l : List Addr} {i : Nat} {x : V} (h : (l.map V.ref)[i]? = some x) : ∃ a, l[i]? = some a ∧ x = .ref a := by
  rw [List.getElem?_map] at h
  cases e : l[i]? with
  | none => rw [e] at h; cases h
  | some a => rw [e] at h; exact ⟨a, rfl, (Option.some.inj h).symm⟩
theorem ix_lt {α : Type} {l : List α} {i : Nat} {a : α} (h : l[i]? = some a) : i < l.length := (List.getElem?_eq_some_iff.mp h).1

section
variable {P : Program} {w : World} {K : PySem.W.Frag} {mg : Str → Option Value} {base : Heap}
/-! ### heads_of(program) -/
def spHeads (S : Sys) : Sp := fun vs H Q _ => ∃ p : Addr, vs = [.ref p] ∧ ProgAt S H p ∧
  ∀ (H' : Hp) (f : Addr) (kvs : List (Key × V)), Same H H' → H f = none → H' f = some (.dK kvs) → (∀ b, b < S.nm → HeadAt S.kd H' kvs (S.mak b) 0) → (∀ a, a < S.nt → HeadAt S.kd H' kvs (S.tak a) 1) → Q (.ref f) H'
theorem scHeads : FnScope ["program", "found", "name", "kind", "parts", "taken", "more"] ["program"] (defScope sHeads) := ⟨rfl, rfl, rfl, by decide +kernel, rfl, by decide +kernel, by decide +kernel⟩
theorem ok_heads {S : Sys} (O : S.Ok) {f : Addr} {fd : FuncData} (F : Fun K "heads_of" "heads_of" sHeads f fd) : FnOk P w K mg base CX0 1 f fd ["program"] (spHeads S) := by
  refine F.ok scHeads (fun vs H Q E h => ?_) (fun cdv A outer s H vs Q E hr h => ?_)
  · obtain ⟨p, rfl, _⟩ := h
    rfl
  · obtain ⟨p, rfl, hP, k⟩ := h
    obtain ⟨p0, p1, p2, p3, l1, l2, l3, h0, h1, n1, f1, h2, n2, f2, h3, n3, f3, f4⟩ := hP.ex
    refine ⟨_, pss_cons (ps_set (i := 1) scHeads.nd rfl (Or.inl rfl) pe_dnewK)
      (pss_cons (ps_for PassesOwn.never rfl (pi_tup (pe_ix ix_tup (pv 0) pe_int (fun _ _ => rfl))) (pg_tup rfl (pgs_cons (pg_name (i := 2) scHeads.nd rfl (Or.inl rfl)) (pgs_cons (pg_name (i := 3) scHeads.nd rfl (Or.inl rfl)) (pgs_cons (pg_name (i := 4) scHeads.nd rfl (Or.inl rfl)) pgs_nil))))
        (pss_one (ps_dput (hu_of hr) (pv 1) (pv 2) (pe_tup (pa_cons (pv 3) (pa_cons (pv 4) pa_nil))) rfl)))
      (pss_cons (ps_for PassesOwn.never rfl (pi_tup (pe_ix ix_tup (pv 0) pe_int (fun _ _ => rfl))) (pg_tup rfl (pgs_cons (pg_name (i := 2) scHeads.nd rfl (Or.inl rfl)) (pgs_cons (pg_name (i := 3) scHeads.nd rfl (Or.inl rfl)) (pgs_cons (pg_name (i := 5) scHeads.nd rfl (Or.inl rfl)) (pgs_cons (pg_name (i := 6) scHeads.nd rfl (Or.inl rfl)) pgs_nil)))))
        (pss_one (ps_dput (hu_of hr) (pv 1) (pv 2) (pe_tup (pa_cons (pv 3) (pa_cons (pe_op op_catT (pe_tup (pa_cons (pv 5) pa_nil)) (pv 6)) pa_nil))) rfl)))
      (pss_one (ps_ret (pv 1))))), ?_⟩
    intro fa hfa
    have sf : Same H (upd H fa (.dK [])) := same_put (Same.refl _) hfa
    refine ⟨_, rfl, p, _, _, _, rfl, rfl, SqT.of (sf _ _ h0), rfl, p1, rfl, ⟨_, SqT.of (sf _ _ h1)⟩,
      for_tup (K := K) (a := p1) (xs := l1.map V.ref) (fun i σ H' => ∃ a b c kvs, σ = [some (.ref p), some (.ref fa), a, b, c, none, none] ∧ Same H H' ∧ H' fa = some (.dK kvs) ∧ kvs.length ≤ i ∧ i ≤ S.nm ∧ ∀ b, b < i → HeadAt S.kd H' kvs (S.mak b) 0)
        ⟨none, none, none, [], rfl, sf, upd_same, Nat.le_refl _, Nat.zero_le _, fun b hb => absurd hb (Nat.not_lt_zero _)⟩ (fun i σ H' _ ⟨_, _, _, _, _, hs, _⟩ => SqT.of (hs _ _ h1)) ?_ ?_⟩
    · rintro i x σ H' hi ⟨a, b, c, kvs, rfl, hs, hf, hl, hin, hh⟩
      obtain ⟨u, hu, rfl⟩ := ref_at hi
      obtain ⟨e, q1, q2⟩ := f1 i u hu
      have hin' : i < S.nm := by rw [← n1]; exact ix_lt hu
      have m8 := O.m8
      refine ⟨u, _, rfl, SqT.of (hs _ _ q1), rfl, _, _, rfl, _, _, rfl, _, _, rfl, rfl, ?_⟩
      refine ⟨_, rfl, _, rfl, (by show 2 ≤ sizeLine; decide), fun t ht => ?_⟩
      have nft : fa ≠ t := ne_of_none hf ht
      refine ⟨_, rfl, _, rfl, fa, _, rfl, DPut.k (k := Sum.inr (S.mak i)) (by rw [upd_ne nft]; exact hf) (small1000 (by omega)), ?_⟩
      have hft : (upd H' t (.tup [.str S.kd, .ref e])) fa = some (.dK kvs) := by rw [upd_ne nft]; exact hf
      have k1 : Tups H' (upd (upd H' t (.tup [.str S.kd, .ref e])) fa (.dK (putK kvs (.inr (S.mak i)) (.ref t)))) := ((Tups.refl H').new ht).dict hft
      refine ⟨_, _, _, _, rfl, same_put (same_put hs (hs.free ht)) hfa, upd_same, Nat.le_trans (length_putK _ _ _) (Nat.succ_le_succ hl), hin', fun j hj => ?_⟩
      by_cases ej : j = i
      · subst ej
        refine ⟨t, e, [], by rw [valV_put, if_pos rfl], by rw [upd_ne nft.symm, upd_same], k1 _ _ (hs _ _ q2), rfl⟩
      · have hj' : j < i := by omega
        exact ((hh j hj').kept k1).other (fun z => ej (O.mi j i (by omega) hin' z))
    · rintro σ H' ⟨a, b, c, kvs, rfl, hs, hf, hl, hin, hh⟩
      rw [List.length_map, n1] at hl hh
      refine ⟨_, rfl, p, _, _, _, rfl, rfl, SqT.of (hs _ _ h0), rfl, p2, rfl, ⟨_, SqT.of (hs _ _ h2)⟩,
        for_tup (K := K) (a := p2) (xs := l2.map V.ref) (fun i σ H' => ∃ a b c d e kvs, σ = [some (.ref p), some (.ref fa), a, b, c, d, e] ∧ Same H H' ∧ H' fa = some (.dK kvs) ∧ kvs.length ≤ S.nm + i ∧ i ≤ S.nt ∧ (∀ b, b < S.nm → HeadAt S.kd H' kvs (S.mak b) 0) ∧ ∀ a, a < i → HeadAt S.kd H' kvs (S.tak a) 1)
          ⟨a, b, c, none, none, kvs, rfl, hs, hf, hl, Nat.zero_le _, hh, fun b hb => absurd hb (Nat.not_lt_zero _)⟩ (fun i σ H' _ ⟨_, _, _, _, _, _, _, hs, _⟩ => SqT.of (hs _ _ h2)) ?_ ?_⟩
      · rintro i x σ H' hi ⟨a, b, c, d, e', kvs, rfl, hs, hf, hl, hin, hm, ht⟩
        obtain ⟨u, hu, rfl⟩ := ref_at hi
        obtain ⟨e, q1, q2⟩ := f2 i u hu
        have hin' : i < S.nt := by rw [← n2]; exact ix_lt hu
        have m8 := O.m8
        have t8 := O.t8
        refine ⟨u, _, rfl, SqT.of (hs _ _ q1), rfl, _, _, rfl, _, _, rfl, _, _, rfl, _, _, rfl, rfl, ?_⟩
        refine ⟨_, rfl, _, rfl, (by show 1 ≤ sizeLine; decide), fun y hy => ?_⟩
        have nfy : fa ≠ y := ne_of_none hf hy
        have sy : Same H (upd H' y (.tup [.str S.kd])) := same_put hs (hs.free hy)
        refine ⟨_, rfl, y, e, [.str S.kd], [], rfl, rfl, SqT.of upd_same, SqT.of (sy _ _ q2), (by simp), (by show 1 ≤ sizeLine; decide), fun _ => ?_, fun z => absurd rfl z⟩
        refine ⟨(by show 2 ≤ sizeLine; decide), fun t htt => ?_⟩
        have hfy : (upd H' y (.tup [.str S.kd])) fa = some (.dK kvs) := by rw [upd_ne nfy]; exact hf
        have nft : fa ≠ t := ne_of_none hfy htt
        have nyt : y ≠ t := by
          intro z
          subst z
          rw [upd_same] at htt
          cases htt
        have hft : (upd (upd H' y (.tup [.str S.kd])) t (.tup [.str S.kd, .ref y])) fa = some (.dK kvs) := by rw [upd_ne nft]; exact hfy
        have k1 : Tups H' (upd (upd (upd H' y (.tup [.str S.kd])) t (.tup [.str S.kd, .ref y])) fa (.dK (putK kvs (.inr (S.tak i)) (.ref t)))) := (((Tups.refl H').new hy).new htt).dict hft
        refine ⟨_, rfl, _, rfl, fa, _, rfl, DPut.k (k := Sum.inr (S.tak i)) hft (small1000 (by omega)), ?_⟩
        refine ⟨_, _, _, _, _, _, rfl, same_put (same_put sy (sy.free htt)) hfa, upd_same, Nat.le_trans (length_putK _ _ _) (by omega), hin', fun j hj => ?_, fun j hj => ?_⟩
        · exact ((hm j hj).kept k1).other (fun z => O.tm i j hin' hj z.symm)
        · by_cases ej : j = i
          · subst ej
            refine ⟨t, y, [.str S.kd], by rw [valV_put, if_pos rfl], by rw [upd_ne nft.symm, upd_same], by rw [upd_ne nfy.symm, upd_ne nyt, upd_same], rfl⟩
          · have hj' : j < i := by omega
            exact ((ht j hj').kept k1).other (fun z => ej (O.ti j i (by omega) hin' z))
      · rintro σ H' ⟨a, b, c, d, e, kvs, rfl, hs, hf, hl, hin, hm, ht⟩
        rw [List.length_map, n2] at ht
        exact ⟨_, rfl, k H' fa kvs hs hfa hf hm ht⟩
end
end Mine

namespace Mine
open PySem L2
def PairAt (S : Sys) (H : Hp) (ivs : List (Key × V)) (a b : Nat) : Prop := ∃ (q e x : Addr), valV ivs (.inr (S.mak b)) = some (.ref q) ∧ H q = some (.tup [.ref e, .ref x]) ∧ H e = some (.tup []) ∧ H x = some (.tup [.str (S.mak (S.g a b))])
/-- the table of calls -/
structure CallsAt (S : Sys) (H : Hp) (kvs : List (Key × V)) : Prop where
  no : ∀ b, b < S.nm → valV kvs (.inr (S.mak b)) = none
  at_ : ∀ a, a < S.nt → ∃ (d : Addr) (ivs : List (Key × V)), valV kvs (.inr (S.tak a)) = some (.ref d) ∧ H d = some (.dK ivs) ∧ ∀ b, b < S.nm → PairAt S H ivs a b
theorem PairAt.kept {S : Sys} {H H' : Hp} {ivs : List (Key × V)} {a b : Nat} (k : Tups H H') (h : PairAt S H ivs a b) : PairAt S H' ivs a b := let ⟨q, e, x, h1, h2, h3, h4⟩ := h; ⟨q, e, x, h1, k _ _ h2, k _ _ h3, k _ _ h4⟩
theorem CallsAt.kept {S : Sys} {H H' : Hp} {kvs : List (Key × V)} (k : Kept H H') (h : CallsAt S H kvs) : CallsAt S H' kvs :=
  ⟨h.no, fun a ha => let ⟨d, ivs, h1, h2, h3⟩ := h.at_ a ha; ⟨d, ivs, h1, k.dk h2, fun b hb => (h3 b hb).kept (.of k)⟩⟩
theorem tup_inj {H : Hp} {a : Addr} {xs ys : List V} (h : H a = some (.tup xs)) (h' : H a = some (.tup ys)) : xs = ys := by
  rw [h] at h'
  cases h'
  rfl
theorem RuleAt.same {S : Sys} (O : S.Ok) {H : Hp} {r : Addr} {a b a' b' : Nat} (ha : a < S.nt) (hb : b < S.nm) (ha' : a' < S.nt) (hb' : b' < S.nm) (h : RuleAt S H r a b) (h' : RuleAt S H r a' b') : a = a' ∧ b = b' := by
  obtain ⟨e, x, h1, _⟩ := h
  obtain ⟨e', x', h1', _⟩ := h'
  have q := tup_inj h1 h1'
  simp only [List.cons.injEq, V.str.injEq, V.ref.injEq] at q
  exact ⟨O.ti _ _ ha ha' q.1, O.mi _ _ hb hb' q.2.1⟩
section
variable {P : Program} {w : World} {K : PySem.W.Frag} {mg : Str → Option Value} {base : Heap}
/-! ### calls_of(program) -/
def spCalls (S : Sys) : Sp := fun vs H Q _ => ∃ p : Addr, vs = [.ref p] ∧ ProgAt S H p ∧
  ∀ (H' : Hp) (f : Addr) (kvs : List (Key × V)), Same H H' → H f = none → H' f = some (.dK kvs) → CallsAt S H' kvs → Q (.ref f) H'
theorem scCalls : FnScope ["program", "found", "row", "taker", "maker", "names", "words"] ["program"] (defScope sCalls) := ⟨rfl, rfl, rfl, by decide +kernel, rfl, by decide +kernel, by decide +kernel⟩
theorem ok_calls {S : Sys} (O : S.Ok) {f : Addr} {fd : FuncData} (F : Fun K "calls_of" "calls_of" sCalls f fd) : FnOk P w K mg base CX0 1 f fd ["program"] (spCalls S) := by
  refine F.ok scCalls (fun vs H Q E h => ?_) (fun cdv A outer s H vs Q E hr h => ?_)
  · obtain ⟨p, rfl, _⟩ := h
    rfl
  · obtain ⟨p, rfl, hP, k⟩ := h
    obtain ⟨p0, p1, p2, p3, l1, l2, l3, h0, h1, n1, f1, h2, n2, f2, h3, n3, f3, f4⟩ := hP.ex
    have m8 := O.m8
    have t8 := O.t8
    refine ⟨_, pss_cons (ps_set (i := 1) scCalls.nd rfl (Or.inl rfl) pe_dnewK)
      (pss_cons (ps_for PassesOwn.never rfl (pi_tup (pe_ix ix_tup (pv 0) pe_int (fun _ _ => rfl))) (pg_name (i := 2) scCalls.nd rfl (Or.inl rfl))
        (pss_one (ps_dput (hu_of hr) (pv 1) (pe_ix ix_tup (pv 2) pe_int (fun _ _ => rfl)) pe_dnewK rfl)))
      (pss_cons (ps_for PassesOwn.never rfl (pi_tup (pe_ix ix_tup (pv 0) pe_int (fun _ _ => rfl))) (pg_tup rfl (pgs_cons (pg_name (i := 3) scCalls.nd rfl (Or.inl rfl)) (pgs_cons (pg_name (i := 4) scCalls.nd rfl (Or.inl rfl)) (pgs_cons (pg_name (i := 5) scCalls.nd rfl (Or.inl rfl)) (pgs_cons (pg_name (i := 6) scCalls.nd rfl (Or.inl rfl)) pgs_nil)))))
        (pss_one (ps_dput (hu_of hr) (pe_dget (hu_of hr) (pv 1) (pv 3) (fun _ _ => rfl)) (pv 4) (pe_tup (pa_cons (pv 5) (pa_cons (pv 6) pa_nil))) rfl)))
      (pss_one (ps_ret (pv 1))))), ?_⟩
    intro fa hfa
    have sf : Same H (upd H fa (.dK [])) := same_put (Same.refl _) hfa
    refine ⟨_, rfl, p, _, _, _, rfl, rfl, SqT.of (sf _ _ h0), rfl, p2, rfl, ⟨_, SqT.of (sf _ _ h2)⟩,
      for_tup (K := K) (a := p2) (xs := l2.map V.ref) (fun i σ H' => ∃ r kvs, σ = [some (.ref p), some (.ref fa), r, none, none, none, none] ∧ Same H H' ∧ H' fa = some (.dK kvs) ∧ kvs.length ≤ i ∧ i ≤ S.nt ∧ (∀ b, b < S.nm → valV kvs (.inr (S.mak b)) = none) ∧
          ∃ D : Nat → Addr, (∀ j, j < i → valV kvs (.inr (S.tak j)) = some (.ref (D j)) ∧ H' (D j) = some (.dK []) ∧ H (D j) = none ∧ D j ≠ fa) ∧ ∀ j l, j < i → l < i → D j = D l → j = l)
        ⟨none, [], rfl, sf, upd_same, Nat.le_refl _, Nat.zero_le _, fun b hb => valV_nil, fun _ => 0, fun b hb => absurd hb (Nat.not_lt_zero _), fun b _ hb => absurd hb (Nat.not_lt_zero _)⟩ (fun i σ H' _ ⟨_, _, _, hs, _⟩ => SqT.of (hs _ _ h2)) ?_ ?_⟩
    · rintro i x σ H' hi ⟨r, kvs, rfl, hs, hf, hl, hin, hno, D, hD, hI⟩
      obtain ⟨u, hu, rfl⟩ := ref_at hi
      obtain ⟨e, q1, q2⟩ := f2 i u hu
      have hin' : i < S.nt := by rw [← n2]; exact ix_lt hu
      intro d hd
      have nfd : fa ≠ d := ne_of_none hf hd
      have sd : Same H (upd H' d (.dK [])) := same_put hs (hs.free hd)
      refine ⟨_, rfl, _, rfl, u, _, _, _, rfl, rfl, SqT.of (sd _ _ q1), rfl, fa, _, rfl, DPut.k (k := Sum.inr (S.tak i)) (by rw [upd_ne nfd]; exact hf) (small1000 (by omega)), ?_⟩
      refine ⟨_, _, rfl, same_put sd hfa, upd_same, Nat.le_trans (length_putK _ _ _) (Nat.succ_le_succ hl), hin', fun b hb => ?_, fun j => if j = i then d else D j, fun j hj => ?_, fun j l hj hl' ejl => ?_⟩
      · rw [valV_put, if_neg (fun z => O.tm i b hin' hb (Sum.inr.inj z).symm)]
        exact hno b hb
      · by_cases ej : j = i
        · subst ej
          simp only [if_pos]
          exact ⟨by rw [valV_put, if_pos rfl], by rw [upd_ne nfd.symm, upd_same], hs.free hd, nfd.symm⟩
        · have hj' : j < i := by omega
          simp only [if_neg ej]
          obtain ⟨a1, a2, a3, a4⟩ := hD j hj'
          refine ⟨by rw [valV_put, if_neg (fun z => ej (O.ti j i (by omega) hin' (Sum.inr.inj z)))]; exact a1, by rw [upd_ne a4, upd_ne (ne_of_none a2 hd)]; exact a2, a3, a4⟩
      · by_cases ej : j = i
        · by_cases el : l = i
          · rw [ej, el]
          · simp only [if_pos ej, if_neg el] at ejl
            obtain ⟨a1, a2, a3, a4⟩ := hD l (by omega)
            exact absurd ejl.symm (ne_of_none a2 hd)
        · by_cases el : l = i
          · simp only [if_neg ej, if_pos el] at ejl
            obtain ⟨a1, a2, a3, a4⟩ := hD j (by omega)
            exact absurd ejl (ne_of_none a2 hd)
          · simp only [if_neg ej, if_neg el] at ejl
            exact hI j l (by omega) (by omega) ejl
    · rintro σ H' ⟨r, kvs, rfl, hs, hf, hl, hin, hno, D, hD, hI⟩
      rw [List.length_map, n2] at hD hI
      refine ⟨_, rfl, p, _, _, _, rfl, rfl, SqT.of (hs _ _ h0), rfl, p3, rfl, ⟨_, SqT.of (hs _ _ h3)⟩,
        for_tup (K := K) (a := p3) (xs := l3.map V.ref) (fun i σ H' => ∃ a b c d, σ = [some (.ref p), some (.ref fa), r, a, b, c, d] ∧ Same H H' ∧ H' fa = some (.dK kvs) ∧ i ≤ 64 ∧
            ∃ iv : Nat → List (Key × V), ∀ a, a < S.nt → H' (D a) = some (.dK (iv a)) ∧ (iv a).length ≤ i ∧ ∀ j b rr, j < i → b < S.nm → l3[j]? = some rr → RuleAt S H rr a b → PairAt S H' (iv a) a b)
          ⟨none, none, none, none, rfl, hs, hf, Nat.zero_le _, fun _ => [], fun a ha => ⟨(hD a ha).2.1, Nat.le_refl _, fun j _ _ hj => absurd hj (Nat.not_lt_zero _)⟩⟩ (fun i σ H' _ ⟨_, _, _, _, _, hs, _⟩ => SqT.of (hs _ _ h3)) ?_ ?_⟩
      · rintro i x σ H' hi ⟨a, b, c, d, rfl, hs, hf, hin, iv, hiv⟩
        obtain ⟨u, hu, rfl⟩ := ref_at hi
        obtain ⟨a0, b0, ha0, hb0, hR⟩ := f3 u (List.mem_of_getElem? hu)
        obtain ⟨e, x, q1, q2, q3⟩ := id hR
        have hilt : i < 64 := Nat.lt_of_lt_of_le (ix_lt hu) n3
        refine ⟨u, _, rfl, SqT.of (hs _ _ q1), rfl, _, _, rfl, _, _, rfl, _, _, rfl, _, _, rfl, rfl, ?_⟩
        refine ⟨_, rfl, _, rfl, (by show 2 ≤ sizeLine; decide), fun q hq => ?_⟩
        obtain ⟨d1, d2, d3, d4⟩ := hD a0 ha0
        obtain ⟨i1, i2, i3⟩ := hiv a0 ha0
        have nfq : fa ≠ q := ne_of_none hf hq
        have ndq : D a0 ≠ q := ne_of_none i1 hq
        have hf1 : (upd H' q (.tup [.ref e, .ref x])) fa = some (.dK kvs) := by rw [upd_ne nfq]; exact hf
        have hd1 : (upd H' q (.tup [.ref e, .ref x])) (D a0) = some (.dK (iv a0)) := by rw [upd_ne ndq]; exact i1
        have s1 : Same H (upd H' q (.tup [.ref e, .ref x])) := same_put hs (hs.free hq)
        have tu : Tups H' (upd (upd H' q (.tup [.ref e, .ref x])) (D a0) (.dK (putK (iv a0) (.inr (S.mak b0)) (.ref q)))) := ((Tups.refl H').new hq).dict hd1
        refine ⟨_, rfl, _, rfl, fa, .ref (D a0), rfl, (by rw [← d1]; exact DGet.k (k := Sum.inr (S.tak a0)) hf1), _, rfl, D a0, _, rfl, DPut.k (k := Sum.inr (S.mak b0)) hd1 (small1000 (by omega)), ?_⟩
        refine ⟨_, _, _, _, rfl, same_put s1 d3, by rw [upd_ne d4.symm]; exact hf1, hilt, fun a => if a = a0 then putK (iv a0) (.inr (S.mak b0)) (.ref q) else iv a, fun a ha => ?_⟩
        by_cases ea : a = a0
        · subst ea
          simp only [if_pos]
          refine ⟨upd_same, Nat.le_trans (length_putK _ _ _) (Nat.succ_le_succ i2), fun j b rr hj hb hrr hR' => ?_⟩
          by_cases eb : b = b0
          · subst eb
            exact ⟨q, e, x, by rw [valV_put, if_pos rfl], by rw [upd_ne ndq.symm, upd_same], tu _ _ (hs _ _ q2), tu _ _ (hs _ _ q3)⟩
          · have hji : j < i := by
              rcases Nat.lt_or_ge j i with z | z
              · exact z
              · have eji : j = i := by omega
                rw [eji, hu] at hrr
                cases hrr
                exact absurd (hR'.same O ha hb ha0 hb0 hR).2 eb
            obtain ⟨q', e', x', z1, z2⟩ := (i3 j b rr hji hb hrr hR').kept tu
            exact ⟨q', e', x', by rw [valV_put, if_neg (fun z => eb (O.mi b b0 hb hb0 (Sum.inr.inj z)))]; exact z1, z2⟩
        · simp only [if_neg ea]
          obtain ⟨j1, j2, j3⟩ := hiv a ha
          have nda : D a ≠ D a0 := fun z => ea (hI a a0 ha ha0 z)
          refine ⟨by rw [upd_ne nda, upd_ne (ne_of_none j1 hq)]; exact j1, Nat.le_succ_of_le j2, fun j b rr hj hb hrr hR' => ?_⟩
          have hji : j < i := by
            rcases Nat.lt_or_ge j i with z | z
            · exact z
            · have eji : j = i := by omega
              rw [eji, hu] at hrr
              cases hrr
              exact absurd (hR'.same O ha hb ha0 hb0 hR).1 ea
          exact (j3 j b rr hji hb hrr hR').kept tu
      · rintro σ H' ⟨a, b, c, d, rfl, hs, hf, hin, iv, hiv⟩
        rw [List.length_map] at hiv
        refine ⟨_, rfl, k H' fa kvs hs hfa hf ⟨hno, fun a ha => ⟨D a, iv a, (hD a ha).1, (hiv a ha).1, fun b hb => ?_⟩⟩⟩
        obtain ⟨rr, hrr, hR⟩ := f4 a b ha hb
        obtain ⟨j, hj⟩ := List.getElem?_of_mem hrr
        exact (hiv a ha).2.2 j b rr (ix_lt hj) hb hj hR
end
end Mine

namespace Mine
open PySem L2
theorem same_but {d : Addr} {H H1 H2 : Hp} (s : Same H H1) (n : H d = none) (b : But d H1 H2) : Same H H2 := fun c o e => b c o (ne_of_none e n) (s c o e)
theorem upd_free {H : Hp} {a b : Addr} {o : HO} (h : upd H a o b = none) : H b = none ∧ b ≠ a := by
  have ne : b ≠ a := by
    intro z
    subst z
    rw [upd_same] at h
    cases h
  rw [upd_ne ne] at h
  exact ⟨h, ne⟩
theorem last_at {l : List V} {y : V} : (l ++ [y])[(l ++ [y]).length - 1]? = some y := by simp
theorem ifY {c : Bool} {A B : Prop} (h : c = true) (a : A) : if c = true then A else B := by
  rw [if_pos h]
  exact a
theorem ifN {c : Bool} {A B : Prop} (h : c = false) (b : B) : if c = true then A else B := by
  rw [h, if_neg Bool.false_ne_true]
  exact b
/-- what may be called, under its name -/
structure Cal (P : Program) (w : World) (K : PySem.W.Frag) (mg : Str → Option Value) (base : Heap) (CX : CXT) (k : Nat) (x : Str) (ps : List Str) (sp : Sp) (f : Addr) (fd : FuncData) : Prop where
  F : FnOk P w K mg base CX k f fd ps sp
  m : mg x = some (.ref f)
  kp : PySem.W.keepIn K (.ref f) = true
  b : Binds K fd ps []
/-- the built-in names that the module leaves as they are -/
structure Blt (mg : Str → Option Value) : Prop where
  len : mg "len" = none
  range : mg "range" = none
  list : mg "list" = none
  tuple : mg "tuple" = none
  isi : mg "isinstance" = none
  sum : mg "sum" = none
  zip : mg "zip" = none
  rev : mg "reversed" = none
  int : mg "int" = none
  bool : mg "bool" = none
  str : mg "str" = none
/-- the class Spent, at C -/
structure Spt (K : PySem.W.Frag) (mg : Str → Option Value) (C : Addr) : Prop where
  x : PySem.W.excIn K C [.type "ValueError", .type "Exception", .type "BaseException", .type "object"] "ValueError.__new__" = true
  g : mg "Spent" = some (.ref C)
  k : PySem.W.keepIn K (.ref C) = true
  b : PySem.W.subIn K (.ref C) (.type "BaseException") = some true
  t : PySem.W.typeIn K (.ref C) = some (.type "type")
  e : PySem.W.exmOne K (.ref C) (.ref C) = some true
/-- the two tables -/
structure Tab (S : Sys) (H : Hp) (f1 f2 : Addr) (kv1 kv2 : List (Key × V)) : Prop where
  h1 : H f1 = some (.dK kv1)
  h2 : H f2 = some (.dK kv2)
  m0 : ∀ b, b < S.nm → HeadAt S.kd H kv1 (S.mak b) 0
  t1 : ∀ a, a < S.nt → HeadAt S.kd H kv1 (S.tak a) 1
  c : CallsAt S H kv2
theorem Tab.kept {S : Sys} {H H' : Hp} {f1 f2 : Addr} {kv1 kv2 : List (Key × V)} (k : Kept H H') (h : Tab S H f1 f2 kv1 kv2) : Tab S H' f1 f2 kv1 kv2 :=
  ⟨k.dk h.h1, k.dk h.h2, fun b hb => (h.m0 b hb).kept (.of k), fun a ha => (h.t1 a ha).kept (.of k), h.c.kept k⟩
theorem fold_lt {S : Sys} (O : S.Ok) {m : Nat} (hm : m < S.nm) : ∀ {l : List Nat}, (∀ a ∈ l, a < S.nt) → l.foldr S.g m < S.nm
  | [], _ => hm
  | a :: l, h => O.gl a _ (h a (List.mem_cons_self ..)) (fold_lt O hm (l := l) fun b hb => h b (List.mem_cons_of_mem _ hb))
section
variable {P : Program} {w : World} {K : PySem.W.Frag} {mg : Str → Option Value} {base : Heap}
/-! ### worth(program, words, most) -/
def wdV (S : Sys) (ts : List Nat) : List V := ts.map fun a => V.str (S.tak a)
def spWorth (S : Sys) (C : Addr) : Sp := fun vs H Q E => ∃ (p wd : Addr) (ts : List Nat) (m : Nat) (most : Int), vs = [.ref p, .ref wd, .int most] ∧ ProgAt S H p ∧ H wd = some (.tup (wdV S ts ++ [.str (S.mak m)])) ∧
  (∀ a ∈ ts, a < S.nt) ∧ m < S.nm ∧ ts.length ≤ 120 ∧ 0 ≤ most ∧
  (most < (ts.length : Int) → ∀ H', Same H H' → E (.ref C) none H') ∧
  ((ts.length : Int) ≤ most → ∀ (H' : Hp) (r u : Addr), Same H H' → H' r = some (.tup [.ref u, .int (ts.length : Int), .int 0, .int 0]) → H' u = some (.tup [.str (S.mak (ts.foldr S.g m))]) → Q (.ref r) H')
theorem scWorth : FnScope ["program", "words", "most", "some", "calls", "due", "done", "counts", "item", "parts", "rule", "values"] ["program", "words", "most"] (defScope sWorth) := ⟨rfl, rfl, rfl, by decide +kernel, rfl, by decide +kernel, by decide +kernel⟩
theorem ok_worth {S : Sys} (O : S.Ok) {C : Addr} {f fH fC fO fV fW fN fP : Addr} {fd dH dC dO dV dW dN dP : FuncData} {dvs : List V} (F : FunD K "worth" "worth" (defArgs sWorth) (defBody sWorth) (defScope sWorth) dvs [] f fd) (B : Blt mg) (Z : Spt K mg C)
    (cH : Cal P w K mg base CX0 1 "heads_of" ["program"] (spHeads S) fH dH) (cC : Cal P w K mg base CX0 1 "calls_of" ["program"] (spCalls S) fC dC) (cO : Cal P w K mg base CX0 1 "off_the_end" ["done", "many"] spOff fO dO)
    (cV : Cal P w K mg base CX0 1 "value_of" ["name", "parts"] spVal fV dV) (cW : Cal P w K mg base CX0 1 "words_of" ["value"] spWds fW dW) (cN : Cal P w K mg base CX0 1 "count_call" ["counts", "rule", "values"] spCnt fN dN) (cP : Cal P w K mg base CX0 1 "put_in" ["rule", "values"] spPut fP dP) :
    FnOk P w K mg base (L2.CX P w) 2 f fd ["program", "words", "most"] (spWorth S C) := by
  refine F.ok (CX := L2.CX P w) scWorth (fun vs H Q E h => ?_) (fun cdv A outer s H vs Q E hr h => ?_)
  · obtain ⟨p, wd, ts, m, most, rfl, _⟩ := h
    rfl
  · obtain ⟨p, wd, ts, m, most, rfl, hP, hw, hts, hm, hlen, h0, kS, kQ⟩ := h
    have hu := hu_of hr
    refine ⟨_, pss_cons (ps_set (i := 3) scWorth.nd rfl (Or.inl rfl) (pe_call cH.F hr (by rfl) cH.m cH.kp cH.b .nil pass0 (pa_cons (pv 0) pa_nil)))
      (pss_cons (ps_set (i := 4) scWorth.nd rfl (Or.inl rfl) (pe_call cC.F hr (by rfl) cC.m cC.kp cC.b .nil pass0 (pa_cons (pv 0) pa_nil)))
      (pss_cons (ps_set (i := 5) scWorth.nd rfl (Or.inl rfl) (pe_callTy call_list_of (by rfl) B.list PyProof.Rows.boot_list (pa_cons (pv 1) pa_nil)))
      (pss_cons (ps_set (i := 6) scWorth.nd rfl (Or.inl rfl) (pe_lst pa_nil))
      (pss_cons (ps_set (i := 7) scWorth.nd rfl (Or.inl rfl) (pe_lst (pa_cons pe_int (pa_cons pe_int (pa_cons pe_int pa_nil)))))
      (pss_cons (ps_while (passes_of rfl) (pt_cmpR op_gt (pe_callB call_len_seq (by rfl) B.len PySem.boot_len (pa_cons (pv 5) pa_nil)) pe_int (nomark _)) (pss_cons (ps_set (i := 8) scWorth.nd rfl (Or.inl rfl) (pe_bm0 PySem.F.plainAttrs_list PySem.F.slot_list_pop PySem.F.type_list_pop mt_pop (pv 5)))
      (pss_cons (ps_if (pt_val (pe_callB call_isi (by rfl) B.isi PyProof.Rows.boot_isinstance (pa_cons (pv 8) (pa_cons (pe_bltn (v := .ty "tuple") (by rfl) B.tuple PyProof.Rows.boot_tuple rfl) pa_nil)))) (pss_never) (pss_nil))
      (pss_cons (ps_set (i := 9) scWorth.nd rfl (Or.inl rfl) (pe_call cO.F hr (by rfl) cO.m cO.kp cO.b .nil pass0 (pa_cons (pv 6) (pa_cons (pe_callB call_len_seq (by rfl) B.len PySem.boot_len (pa_cons (pe_ix ix_tup (pe_dget hu (pv 3) (pv 8) (fun _ _ => rfl)) pe_int (fun _ _ => rfl)) pa_nil)) pa_nil))))
      (pss_cons (ps_if (pt_cmp (pc_dnotin hu (pv 8) (pv 4))) (pss_cons (ps_expr (pe_bm PySem.F.plainAttrs_list PySem.F.slot_list_append PySem.F.type_list_append mt_append (pv 6) (pa_cons (pe_call cV.F hr (by rfl) cV.m cV.kp cV.b .nil pass0 (pa_cons (pv 8) (pa_cons (pv 9) pa_nil))) pa_nil)))
      (pss_one (ps_continue))) (pss_nil))
      (pss_cons (ps_set (i := 10) scWorth.nd rfl (Or.inl rfl) (pe_dget hu (pe_dget hu (pv 4) (pv 8) (fun _ _ => rfl)) (pe_ix ix_tup (pe_ix ix_list (pv 9) pe_int (fun _ _ => rfl)) pe_int (fun _ _ => rfl)) (fun _ _ => rfl)))
      (pss_cons (ps_set (i := 11) scWorth.nd rfl (Or.inl rfl) (pe_op op_cat (pe_callTy call_list_of (by rfl) B.list PyProof.Rows.boot_list (pa_cons (pe_ix ix_tup (pe_ix ix_list (pv 9) pe_int (fun _ _ => rfl)) pe_int (fun _ _ => rfl)) pa_nil)) (pe_slice sl_list (pv 9) (po_some pe_int) po_none)))
      (pss_cons (ps_expr (pe_call cN.F hr (by rfl) cN.m cN.kp cN.b .nil pass0 (pa_cons (pv 7) (pa_cons (pv 10) (pa_cons (pv 11) pa_nil)))))
      (pss_cons (ps_if (pt_cmpR op_gt (pe_callB (cr_sum rfl) (by rfl) B.sum PyProof.Rows.boot_sum (pa_cons (pv 7) pa_nil)) (pv 2) (nomark _)) (pss_one (ps_raise rfl (takes_of rfl rfl rfl rfl) (pmk_own PySem.F.excBase_ValueError Z.x Z.g Z.k (raises_own Z.b Z.t) (by rfl)))) (pss_nil))
      (pss_one (ps_expr (pe_bm PySem.F.plainAttrs_list PySem.F.slot_list_extend PySem.F.type_list_extend mt_extend (pv 5) (pa_cons (pe_call cP.F hr (by rfl) cP.m cP.kp cP.b .nil pass0 (pa_cons (pv 10) (pa_cons (pv 11) pa_nil))) pa_nil)))))))))))))
      (pss_one (ps_ret (pe_tup (pa_cons (pe_call cW.F hr (by rfl) cW.m cW.kp cW.b .nil pass0 (pa_cons (pe_ix ix_list (pv 6) pe_int (fun _ _ => rfl)) pa_nil)) (pa_cons (pe_ix ix_list (pv 7) pe_int (fun _ _ => rfl)) (pa_cons (pe_ix ix_list (pv 7) pe_int (fun _ _ => rfl)) (pa_cons (pe_ix ix_list (pv 7) pe_int (fun _ _ => rfl)) pa_nil)))))))))))), ?_⟩
    refine ⟨_, rfl, p, rfl, hP, fun H1 f1 kv1 s1 nf1 e1 m0 t1 => ?_⟩
    refine ⟨_, rfl, p, rfl, hP.kept (Kept.of s1), fun H2 f2 kv2 s2 nf2 e2 c2 => ?_⟩
    have s12 : Same H H2 := s1.trans s2
    refine ⟨_, rfl, wd, _, rfl, .inr (SqT.of (s12 _ _ hw)), fun du hdu => ?_⟩
    refine ⟨Nat.zero_le _, fun dn hdn => ?_⟩
    refine ⟨(by show 3 ≤ sizeLine; decide), fun co hco => ?_⟩
    have ndd : du ≠ dn := by
      intro z
      subst z
      rw [upd_same] at hdn
      cases hdn
    have ndc : dn ≠ co := by
      intro z
      subst z
      rw [upd_same] at hco
      cases hco
    have nuc : du ≠ co := by
      intro z
      subst z
      rw [upd_ne ndd, upd_same] at hco
      cases hco
    have zu : H du = none := s12.free hdu
    have zn : H dn = none := by
      rw [upd_ne ndd.symm] at hdn
      exact s12.free hdn
    have zc : H co = none := by
      rw [upd_ne ndc.symm, upd_ne nuc.symm] at hco
      exact s12.free hco
    have tab2 : Tab S H2 f1 f2 kv1 kv2 := ⟨s2 _ _ e1, e2, fun b hb => (m0 b hb).kept (.of (.of s2)), fun a ha => (t1 a ha).kept (.of (.of s2)), c2⟩
    refine ⟨fun mm σ H' => ∃ (k : Nat) (it pa ru va : Option V), σ = [some (.ref p), some (.ref wd), some (.int most), some (.ref f1), some (.ref f2), some (.ref du), some (.ref dn), some (.ref co), it, pa, ru, va] ∧
        Same H H' ∧ Tab S H' f1 f2 kv1 kv2 ∧ H' co = some (.lst [.int ((ts.length : Int) - (k : Int)), .int 0, .int 0]) ∧ k ≤ ts.length ∧ (k = ts.length ∨ (ts.length : Int) - (k : Int) ≤ most) ∧
        ((mm = 2 * k + 1 ∧ H' du = some (.lst (wdV S (ts.take k) ++ [.str (S.mak ((ts.drop k).foldr S.g m))])) ∧ H' dn = some (.lst [])) ∨
         (mm = 2 * k ∧ H' du = some (.lst (wdV S (ts.take k))) ∧ ∃ v t, H' dn = some (.lst [.ref v]) ∧ H' v = some (.tup [.str (S.mak ((ts.drop k).foldr S.g m)), .ref t, .int 1]) ∧ H' t = some (.tup []))),
      ⟨2 * ts.length + 1, ts.length, none, none, none, none, rfl, same_put (same_put (same_put s12 zu) zn) zc, ?_, ?_, Nat.le_refl _, .inl rfl, .inl ⟨rfl, ?_, ?_⟩⟩, ?_⟩
    · exact tab2.kept ((((Kept.refl H2).put (.inl hdu)).put (.inl hdn)).put (.inl hco))
    · rw [upd_same, Int.sub_self]
    · rw [upd_ne nuc, upd_ne ndd, upd_same, List.take_length, List.drop_length]
      rfl
    · rw [upd_ne ndc, upd_same]
    · rintro mm σ H' ⟨k, it, pa, ru, va, rfl, hs, tab, hco', hk, hkm, ⟨rfl, hdu', hdn'⟩ | ⟨rfl, hdu', v, t, hdn', hv, ht⟩⟩
      · -- a maker's word on top
        have hcur : (ts.drop k).foldr S.g m < S.nm := fold_lt O hm fun a ha => hts a (List.mem_of_mem_drop ha)
        generalize hcu : (ts.drop k).foldr S.g m = cu at hcur hdu'
        refine ⟨_, rfl, du, _, rfl, .inl (SqL.of hdu'), _, _, rfl, rfl, _, rfl, ifY (decide_eq_true (by rw [List.length_append]; simp)) ?_⟩
        refine ⟨fun σ2 H2' => ∃ m', m' < 2 * k + 1 ∧ ∃ (k : Nat) (it pa ru va : Option V), σ2 = [some (.ref p), some (.ref wd), some (.int most), some (.ref f1), some (.ref f2), some (.ref du), some (.ref dn), some (.ref co), it, pa, ru, va] ∧
          Same H H2' ∧ Tab S H2' f1 f2 kv1 kv2 ∧ H2' co = some (.lst [.int ((ts.length : Int) - (k : Int)), .int 0, .int 0]) ∧ k ≤ ts.length ∧ (k = ts.length ∨ (ts.length : Int) - (k : Int) ≤ most) ∧
          ((m' = 2 * k + 1 ∧ H2' du = some (.lst (wdV S (ts.take k) ++ [.str (S.mak ((ts.drop k).foldr S.g m))])) ∧ H2' dn = some (.lst [])) ∨
           (m' = 2 * k ∧ H2' du = some (.lst (wdV S (ts.take k))) ∧ ∃ v t, H2' dn = some (.lst [.ref v]) ∧ H2' v = some (.tup [.str (S.mak ((ts.drop k).foldr S.g m)), .ref t, .int 1]) ∧ H2' t = some (.tup []))),
          fun _ _ z => z, ?_⟩
        -- item = due.pop()
        refine ⟨_, rfl, .inl ⟨rfl, _, SqL.of hdu'⟩, du, _, _, rfl, rfl, hdu', last_at, ?_⟩
        rw [List.dropLast_concat]
        have sA : Same H (upd H' du (.lst (wdV S (ts.take k)))) := same_put hs zu
        have tA : Tab S (upd H' du (.lst (wdV S (ts.take k)))) f1 f2 kv1 kv2 := tab.kept ((Kept.refl H').put (.inr ⟨_, hdu'⟩))
        have aU : (upd H' du (.lst (wdV S (ts.take k)))) du = some (.lst (wdV S (ts.take k))) := upd_same
        have aN : (upd H' du (.lst (wdV S (ts.take k)))) dn = some (.lst []) := by rw [upd_ne ndd.symm]; exact hdn'
        have aC : (upd H' du (.lst (wdV S (ts.take k)))) co = some (.lst [.int ((ts.length : Int) - (k : Int)), .int 0, .int 0]) := by rw [upd_ne nuc.symm]; exact hco'
        generalize (upd H' du (.lst (wdV S (ts.take k)))) = HA at sA tA aU aN aC
        -- no tuple
        refine ⟨_, rfl, _, _, _, _, false, rfl, .ty "tuple", .base (.str _), kit_ty (by decide +kernel), false, rfl, ifN rfl ?_⟩
        -- parts = off_the_end(done, 0)
        obtain ⟨a, e, xs, q1, q2, q3, q4⟩ := tA.m0 _ hcur
        obtain rfl : xs = [] := List.eq_nil_of_length_eq_zero q4
        refine ⟨_, rfl, _, rfl, _, rfl, f1, .ref a, rfl, (by rw [← q1]; exact DGet.k (k := Sum.inr (S.mak cu)) tA.h1), a, _, _, _, rfl, rfl, SqT.of q2, rfl, e, [], rfl, .inr (SqT.of q3), ?_⟩
        refine ⟨dn, [], 0, rfl, aN, Nat.le_refl _, Nat.zero_le _, fun HB pl bB npl b1 b2 => ?_⟩
        have sB : Same H HB := same_but sA zn bB
        have tB : Tab S HB f1 f2 kv1 kv2 := tA.kept (bB.kept aN)
        have bU : HB du = some (.lst (wdV S (ts.take k))) := bB _ _ ndd aU
        have bC := bB _ _ ndc.symm aC
        -- a maker's
        refine ⟨_, rfl, _, rfl, f2, none, rfl, (by rw [← tB.c.no _ hcur]; exact DGet.k (k := Sum.inr (S.mak cu)) tB.h2), true, rfl, ifY rfl ?_⟩
        refine ⟨_, rfl, .inl ⟨rfl, _, SqL.of b1⟩, _, rfl, _, rfl, S.mak cu, pl, rfl, b2, fun HC v t sC hv ht => ?_⟩
        refine ⟨dn, _, _, rfl, rfl, sC _ _ b1, (by show 0 < sizeLine; decide), ?_⟩
        refine ⟨2 * k, Nat.lt_succ_self _, k, _, _, _, _, rfl, same_put (sB.trans sC) zn, tB.kept ((Kept.of sC).put (.inr ⟨_, sC _ _ b1⟩)), ?_, hk, hkm, .inr ⟨rfl, ?_, v, t, upd_same, ?_, ?_⟩⟩
        · rw [upd_ne ndc.symm]
          exact sC _ _ bC
        · rw [upd_ne ndd]
          exact sC _ _ bU
        · rw [upd_ne (ne_of hv (sC _ _ b1) (fun z => by cases z)), hcu]
          exact hv
        · rw [upd_ne (ne_of ht (sC _ _ b1) (fun z => by cases z))]
          exact ht
      · cases k with
        | zero =>
          -- no word is left
          refine ⟨_, rfl, du, _, rfl, .inl (SqL.of hdu'), _, _, rfl, rfl, _, rfl, ifN rfl ?_⟩
          refine ⟨_, rfl, dn, _, _, _, rfl, rfl, SqL.of hdn', rfl, v, t, _, _, rfl, hv, ht, fun H3 u s3 hu3 => ?_⟩
          have c3 := s3 _ _ hco'
          refine ⟨_, rfl, co, _, _, _, rfl, rfl, SqL.of c3, rfl, _, rfl, co, _, _, _, rfl, rfl, SqL.of c3, rfl, _, rfl, co, _, _, _, rfl, rfl, SqL.of c3, rfl, (by show 4 ≤ sizeLine; decide), fun r hr3 => ?_⟩
          have hle : (ts.length : Int) ≤ most := by
            rcases hkm with z | z
            · rw [← z]; exact h0
            · simpa using z
          refine kQ hle _ r u (same_put (hs.trans s3) (hs.free (s3.free hr3))) ?_ (by rw [upd_ne (ne_of_none hu3 hr3)]; exact hu3)
          have e0 : (ts.length : Int) - ((0 : Nat) : Int) = (ts.length : Int) := by omega
          rw [upd_same, e0]
        | succ j =>
          have hj : j < ts.length := hk
          have e1 : ts.take (j + 1) = ts.take j ++ [ts[j]] := List.take_succ_eq_append_getElem hj
          have e2 : ts.drop j = ts[j] :: ts.drop (j + 1) := List.drop_eq_getElem_cons hj
          have ha : ts[j] < S.nt := hts _ (List.getElem_mem hj)
          have hcur : (ts.drop (j + 1)).foldr S.g m < S.nm := fold_lt O hm fun a ha => hts a (List.mem_of_mem_drop ha)
          have e3 : (ts.drop j).foldr S.g m = S.g ts[j] ((ts.drop (j + 1)).foldr S.g m) := by rw [e2]; rfl
          have e4 : wdV S (ts.take (j + 1)) = wdV S (ts.take j) ++ [.str (S.tak ts[j])] := by rw [e1]; unfold wdV; rw [List.map_append]; rfl
          rw [e4] at hdu'
          generalize ts[j] = a at ha e3 hdu'
          generalize hcu : (ts.drop (j + 1)).foldr S.g m = cu at hcur e3 hv
          refine ⟨_, rfl, du, _, rfl, .inl (SqL.of hdu'), _, _, rfl, rfl, _, rfl, ifY (decide_eq_true (by rw [List.length_append]; simp)) ?_⟩
          refine ⟨fun σ2 H2' => ∃ m', m' < 2 * (j + 1) ∧ ∃ (k : Nat) (it pa ru va : Option V), σ2 = [some (.ref p), some (.ref wd), some (.int most), some (.ref f1), some (.ref f2), some (.ref du), some (.ref dn), some (.ref co), it, pa, ru, va] ∧
            Same H H2' ∧ Tab S H2' f1 f2 kv1 kv2 ∧ H2' co = some (.lst [.int ((ts.length : Int) - (k : Int)), .int 0, .int 0]) ∧ k ≤ ts.length ∧ (k = ts.length ∨ (ts.length : Int) - (k : Int) ≤ most) ∧
            ((m' = 2 * k + 1 ∧ H2' du = some (.lst (wdV S (ts.take k) ++ [.str (S.mak ((ts.drop k).foldr S.g m))])) ∧ H2' dn = some (.lst [])) ∨
             (m' = 2 * k ∧ H2' du = some (.lst (wdV S (ts.take k))) ∧ ∃ v t, H2' dn = some (.lst [.ref v]) ∧ H2' v = some (.tup [.str (S.mak ((ts.drop k).foldr S.g m)), .ref t, .int 1]) ∧ H2' t = some (.tup []))),
            fun _ _ z => z, ?_⟩
          -- item = due.pop()
          refine ⟨_, rfl, .inl ⟨rfl, _, SqL.of hdu'⟩, du, _, _, rfl, rfl, hdu', last_at, ?_⟩
          rw [List.dropLast_concat]
          have kA : Kept H' (upd H' du (.lst (wdV S (ts.take j)))) := (Kept.refl H').put (.inr ⟨_, hdu'⟩)
          have sA : Same H (upd H' du (.lst (wdV S (ts.take j)))) := same_put hs zu
          have aU : (upd H' du (.lst (wdV S (ts.take j)))) du = some (.lst (wdV S (ts.take j))) := upd_same
          have aN : (upd H' du (.lst (wdV S (ts.take j)))) dn = some (.lst [.ref v]) := by rw [upd_ne ndd.symm]; exact hdn'
          have aC : (upd H' du (.lst (wdV S (ts.take j)))) co = some (.lst [.int ((ts.length : Int) - ((j + 1 : Nat) : Int)), .int 0, .int 0]) := by rw [upd_ne nuc.symm]; exact hco'
          have tA : Tab S (upd H' du (.lst (wdV S (ts.take j)))) f1 f2 kv1 kv2 := tab.kept kA
          have aV := kA.tup hv
          have aT := kA.tup ht
          generalize (upd H' du (.lst (wdV S (ts.take j)))) = HA at sA tA aU aN aC aV aT
          refine ⟨_, rfl, _, _, _, _, false, rfl, .ty "tuple", .base (.str _), kit_ty (by decide +kernel), false, rfl, ifN rfl ?_⟩
          -- parts = off_the_end(done, 1)
          obtain ⟨ta, te, xs, q1, q2, q3, q4⟩ := tA.t1 _ ha
          refine ⟨_, rfl, _, rfl, _, rfl, f1, .ref ta, rfl, (by rw [← q1]; exact DGet.k (k := Sum.inr (S.tak a)) tA.h1), ta, _, _, _, rfl, rfl, SqT.of q2, rfl, te, xs, rfl, .inr (SqT.of q3), ?_⟩
          refine ⟨dn, [.ref v], 1, by rw [q4]; rfl, aN, Nat.le_refl _, by show 1 ≤ 1000; decide, fun HB pl bB npl b1 b2 => ?_⟩
          have b1 : HB dn = some (.lst []) := b1
          have b2 : HB pl = some (.lst [.ref v]) := b2
          have sB : Same H HB := same_but sA zn bB
          have kB : Kept HA HB := bB.kept aN
          have tB : Tab S HB f1 f2 kv1 kv2 := tA.kept kB
          have bU : HB du = some (.lst (wdV S (ts.take j))) := bB _ _ ndd aU
          have bC := bB _ _ ndc.symm aC
          have bV := kB.tup aV
          have bT := kB.tup aT
          obtain ⟨d, ivs, r1, r2, r3⟩ := tB.c.at_ _ ha
          obtain ⟨q, e, x, z1, z2, z3, z4⟩ := r3 _ hcur
          -- no maker's
          refine ⟨_, rfl, _, rfl, f2, some (.ref d), rfl, (by rw [← r1]; exact DGet.k (k := Sum.inr (S.tak a)) tB.h2), false, rfl, ifN rfl ?_⟩
          -- rule = calls[item][parts[0][0]]
          refine ⟨_, rfl, _, rfl, f2, .ref d, rfl, (by rw [← r1]; exact DGet.k (k := Sum.inr (S.tak a)) tB.h2), _, rfl, pl, _, _, _, rfl, rfl, SqL.of b2, rfl, v, _, _, _, rfl, rfl, SqT.of bV, rfl, d, .ref q, rfl, (by rw [← z1]; exact DGet.k (k := Sum.inr (S.mak cu)) r2), ?_⟩
          -- values = list(parts[0][1]) + parts[1:]
          refine ⟨_, rfl, pl, _, _, _, rfl, rfl, SqL.of b2, rfl, v, _, _, _, rfl, rfl, SqT.of bV, rfl, t, [], rfl, .inr (SqT.of bT), fun l1 hl1 => ?_⟩
          have n1 : ∀ {b : Addr} {o : HO}, HB b = some o → b ≠ l1 := fun q => ne_of_none q hl1
          refine ⟨_, rfl, 1, rfl, pl, [.ref v], rfl, SqL.of (by rw [upd_ne (n1 b2)]; exact b2), fun l2 hl2 => ?_⟩
          have nl : l1 ≠ l2 := by
            intro z
            subst z
            rw [upd_same] at hl2
            cases hl2
          refine ⟨l1, l2, [], [], rfl, rfl, (by rw [upd_ne nl]; exact upd_same), upd_same, (by show 0 ≤ sizeLine; decide), fun l3 hl3 => ?_⟩
          obtain ⟨y1, y2⟩ := upd_free hl3
          obtain ⟨y3, y4⟩ := upd_free y1
          have sD : Same HB (upd (upd (upd HB l1 (.lst [])) l2 (.lst (cutV [V.ref v] (some 1) none))) l3 (.lst ([] ++ []))) := same_put (same_put (same_put (Same.refl HB) hl1) (upd_free hl2).1) y3
          have dL : (upd (upd (upd HB l1 (.lst [])) l2 (.lst (cutV [V.ref v] (some 1) none))) l3 (.lst ([] ++ []))) l3 = some (.lst []) := upd_same
          have n3c : l3 ≠ co := (ne_of_none bC y3).symm
          generalize (upd (upd (upd HB l1 (.lst [])) l2 (.lst (cutV [V.ref v] (some 1) none))) l3 (.lst ([] ++ []))) = HD at sD dL
          -- count_call(counts, rule, values)
          refine ⟨_, rfl, _, rfl, _, rfl, co, q, l3, e, x, _, _, _, [], rfl, sD _ _ bC, sD _ _ z2, sD _ _ z3, dL, n3c, fun HE bE eC => ?_⟩
          have sE : Same H HE := same_but (sB.trans sD) zc bE
          have kE : Kept HB HE := (Kept.of sD).trans (bE.kept (sD _ _ bC))
          have eU : HE du = some (.lst (wdV S (ts.take j))) := bE _ _ nuc (sD _ _ bU)
          have eN : HE dn = some (.lst []) := bE _ _ ndc (sD _ _ b1)
          have eL : HE l3 = some (.lst []) := bE _ _ n3c dL
          have hsum : ([(ts.length : Int) - ((j + 1 : Nat) : Int) + 1, 0, 0] : List Int).sum = (ts.length : Int) - (j : Int) := by
            simp only [List.sum_cons, List.sum_nil]
            omega
          refine ⟨_, rfl, co, [(ts.length : Int) - ((j + 1 : Nat) : Int) + 1, 0, 0], rfl, SqL.of eC, _, rfl, _, _, rfl, rfl, _, rfl, ?_⟩
          by_cases c : most < (ts.length : Int) - (j : Int)
          · refine ifY (decide_eq_true (by rw [hsum]; exact c)) ?_
            exact kS (by omega) _ sE
          · refine ifN (decide_eq_false (by rw [hsum]; exact c)) ?_
            have hz : (wdV S (ts.take j)).length + [V.str (S.mak (S.g a cu))].length ≤ sizeLine := by
              unfold wdV
              rw [List.length_map, List.length_take]
              exact Nat.le_trans (by show min j ts.length + 1 ≤ 121; omega) (by decide)
            refine ⟨_, rfl, .inl ⟨rfl, _, SqL.of eU⟩, _, rfl, _, rfl, q, l3, e, x, S.mak (S.g a cu), [], rfl, kE.tup z2, kE.tup z3, kE.tup z4, eL, fun HF pf sF npf fL => ?_⟩
            refine ⟨du, pf, _, _, rfl, rfl, sF _ _ eU, fL, hz, ?_⟩
            refine ⟨2 * j + 1, by omega, j, _, _, _, _, rfl, same_put (sE.trans sF) zu, (tB.kept (kE.trans (Kept.of sF))).kept ((Kept.refl HF).put (.inr ⟨_, sF _ _ eU⟩)), ?_, by omega, .inr (by omega), .inl ⟨rfl, ?_, ?_⟩⟩
            · rw [upd_ne nuc.symm, sF _ _ eC]
              congr 4
              omega
            · rw [upd_same, e3]
            · rw [upd_ne ndd.symm]
              exact sF _ _ eN
end
end Mine

/-! the names that the law draws: twenty-six, no two alike -/
namespace Mine
open PySem L2
def ltr (n : Int) : Str := ⟨#[97 + (n % 26).toNat]⟩
def lets : Str := "abcdefghijklmnopqrstuvwxyz"
theorem lets_list : lets.cps.toList = (List.range 26).map (97 + ·) := by decide +kernel
theorem lets_at (n : Int) : atI lets.cps.toList (n % 26) = some (97 + (n % 26).toNat) := by
  have h0 : 0 ≤ n % 26 := Int.emod_nonneg _ (by decide)
  have h1 : n % 26 < 26 := Int.emod_lt_of_pos _ (by decide)
  have h2 : (n % 26).toNat < 26 := by omega
  have h3 : n % 26 = ((n % 26).toNat : Int) := by omega
  have e := atI_nat (xs := lets.cps.toList) (j := (n % 26).toNat) (v := 97 + (n % 26).toNat) (by rw [lets_list, List.getElem?_map, List.getElem?_range h2]; rfl)
  rw [← h3] at e
  exact e
theorem ltr_inj {a b : Int} (h : ltr a = ltr b) : a % 26 = b % 26 := by
  have e : (#[97 + (a % 26).toNat] : Array Nat) = #[97 + (b % 26).toNat] := congrArg Str.cps h
  have e2 : ([97 + (a % 26).toNat] : List Nat) = [97 + (b % 26).toNat] := congrArg Array.toList e
  have e3 : 97 + (a % 26).toNat = 97 + (b % 26).toNat := by simpa using e2
  have ha : 0 ≤ a % 26 := Int.emod_nonneg _ (by decide)
  have hb : 0 ≤ b % 26 := Int.emod_nonneg _ (by decide)
  omega
theorem app_list (a b : Str) : (a ++ b).cps.toList = a.cps.toList ++ b.cps.toList := by
  show (a.cps ++ b.cps).toList = _
  simp
theorem app_right {a b c : Str} (h : a ++ c = b ++ c) : a = b := by
  have e := congrArg (fun s : Str => s.cps.toList) h
  simp only [app_list] at e
  have e2 := List.append_cancel_right e
  exact Str.ext' (by rw [← Array.toArray_toList (xs := a.cps), e2, Array.toArray_toList])
theorem app_left {a b c : Str} (h : c ++ a = c ++ b) : a = b := by
  have e := congrArg (fun s : Str => s.cps.toList) h
  simp only [app_list] at e
  have e2 := List.append_cancel_left e
  exact Str.ext' (by rw [← Array.toArray_toList (xs := a.cps), e2, Array.toArray_toList])
theorem fold_list (c : Nat) : ∀ (n : Nat) (acc : Array Nat), ((List.replicate n (#[c] : Array Nat)).foldl (· ++ ·) acc).toList = acc.toList ++ List.replicate n c
  | 0, acc => by simp
  | n + 1, acc => by
    rw [List.replicate_succ, List.foldl_cons, fold_list c n, List.replicate_succ]
    simp
theorem mul_list (c : Nat) {n : Int} (h : 1 ≤ n) : (Txt.mul ⟨#[c]⟩ n).cps.toList = List.replicate n.toNat c := by
  have h1 : ¬ n < 1 := by omega
  unfold Txt.mul
  rw [if_neg h1]
  by_cases e : n = 1
  · subst e
    rfl
  · have e1 : (n == 1 || (⟨#[c]⟩ : Str).length == 0) = false := by
      rw [Bool.or_eq_false_iff]
      exact ⟨by simpa using e, rfl⟩
    rw [e1, if_neg Bool.false_ne_true]
    show ((List.replicate n.toNat (#[c] : Array Nat)).foldl (· ++ ·) #[]).toList = _
    rw [fold_list]
    rfl
theorem mul_inj {a b n m : Int} (hn : 1 ≤ n) (hm : 1 ≤ m) (h : Txt.mul (ltr a) n = Txt.mul (ltr b) m) : n = m ∧ a % 26 = b % 26 := by
  have e := congrArg (fun s : Str => s.cps.toList) h
  simp only [ltr] at e
  rw [mul_list _ hn, mul_list _ hm] at e
  have e1 := congrArg List.length e
  simp only [List.length_replicate] at e1
  have e2 : n = m := by omega
  subst e2
  refine ⟨rfl, ltr_inj ?_⟩
  have e3 := List.replicate_inj.mp e
  rcases e3.2 with z | z
  · omega
  · unfold ltr
    rw [z]
theorem nodup_range {α : Type} (f : Nat → α) : ∀ n : Nat, (∀ i j, i < n → j < n → f i = f j → i = j) → ((List.range n).map f).Nodup
  | n, h => by
    refine List.pairwise_iff_getElem.mpr fun i j hi hj hij => ?_
    rw [List.length_map, List.length_range] at hi hj
    intro e
    simp only [List.getElem_map, List.getElem_range] at e
    have := h i j hi hj e
    omega
/-- the names, all alike but in one letter -/
def nm1 (base : Str) (at_ c : Int) (k : Nat) : Str := cutS base none (some at_) ++ ltr (c + 7 * (0 + (k : Int))) ++ cutS base (some at_) none
theorem nm1_inj {base : Str} {at_ c : Int} {i j : Nat} (hi : i < 26) (hj : j < 26) (h : nm1 base at_ c i = nm1 base at_ c j) : i = j := by
  have e := ltr_inj (app_left (app_right h))
  omega
/-- .. or in length -/
def nm2 (c : Int) (k : Nat) : Str := Txt.mul (ltr (c + (0 + (k : Int)) % 4)) (1 + (0 + (k : Int)) / 4)
theorem nm2_inj {c : Int} {i j : Nat} (hi : i < 26) (hj : j < 26) (h : nm2 c i = nm2 c j) : i = j := by
  have e := mul_inj (by omega) (by omega) h
  omega
theorem ltr_len (n : Int) : (ltr n).length = 1 := rfl
theorem nm1_len {base : Str} (h : base.length ≤ 7) (at_ c : Int) (k : Nat) : (nm1 base at_ c k).length ≤ 100 := by
  have h1 := cutS_length base none (some at_)
  have h2 := cutS_length base (some at_) none
  unfold nm1
  rw [Str.length_append, Str.length_append, ltr_len]
  omega
theorem nm2_len (c : Int) {k : Nat} (hk : k < 26) : (nm2 c k).length ≤ 100 := by
  have e : (nm2 c k).length = (nm2 c k).cps.toList.length := (Array.length_toList).symm
  unfold nm2 ltr at e ⊢
  rw [e, mul_list _ (by omega), List.length_replicate]
  omega
theorem sum_ones {α : Type} (f : α → Nat) (hf : ∀ x, f x = 1) : ∀ l : List α, (l.map f).sum = l.length
  | [] => rfl
  | x :: l => by rw [List.map_cons, List.sum_cons, sum_ones f hf l, hf x, List.length_cons]; omega
theorem join_len {ys : List Str} : (Txt.join "" ys).length ≤ (ys.map (·.length)).sum + ys.length * ("" : Str).length := by
  have h : Txt.join "" ys = Str.join "" ys := StrLaws.glued_eq_join ..
  rw [h]
  exact StrLaws.join_length_le _ _
theorem range_snoc {α : Type} (f : Nat → α) (i : Nat) : (List.range (i + 1)).map f = (List.range i).map f ++ [f i] := by
  rw [List.range_succ, List.map_append]
  rfl
theorem nodup_app {ns : List Str} (s : Str) (h : ns.Nodup) : (ns.map (· ++ s)).Nodup := by
  refine List.Pairwise.map _ (fun a b ne e => ne (app_right e)) h
end Mine

namespace Mine
open PySem L2
section
variable {P : Program} {w : World} {K : PySem.W.Frag} {mg : Str → Option Value} {base : Heap}
/-! ### _law_cell_at(script, k) -/
def spCl (K : PySem.W.Frag) : Sp := fun vs H Q _ => ∃ (a : Addr) (ns : List Int) (k : Nat), vs = [.ref a, .int (k : Int)] ∧ SqL K H a (ns.map V.int) ∧ ∀ i : Int, Q (.int i) H
theorem scCell : FnScope ["script", "k"] ["script", "k"] (defScope sCell) := ⟨rfl, rfl, rfl, by decide +kernel, rfl, by decide +kernel, by decide +kernel⟩
theorem ok_cell {f : Addr} {fd : FuncData} (F : Fun K "_law_cell_at" "_law_cell_at" sCell f fd) (B : Blt mg) : FnOk P w K mg base CX0 1 f fd ["script", "k"] (spCl K) := by
  refine F.ok scCell (fun vs H Q E h => ?_) (fun cdv A outer s H vs Q E hr h => ?_)
  · obtain ⟨a, ns, k, rfl, _⟩ := h
    rfl
  · obtain ⟨a, ns, k, rfl, hS, q⟩ := h
    refine ⟨_, pss_cons (ps_if (pt_cmpR op_lt (pv 1) (pe_callB call_len_seq (by rfl) B.len PySem.boot_len (pa_cons (pv 0) pa_nil)) (nomark _)) (pss_one (ps_ret (pe_ix ix_list (pv 0) (pv 1) (fun _ _ => rfl)))) (pss_nil))
      (pss_one (ps_ret pe_int)), ?_⟩
    refine ⟨_, rfl, _, rfl, a, _, rfl, .inl hS, _, _, rfl, rfl, _, rfl, ?_⟩
    by_cases hk : k < ns.length
    · refine ifY (decide_eq_true (by rw [List.length_map]; omega)) ?_
      exact ⟨_, rfl, _, rfl, a, _, _, V.int ns[k], rfl, rfl, hS, atI_nat (by rw [List.getElem?_map, List.getElem?_eq_getElem hk]; rfl), q _⟩
    · refine ifN (decide_eq_false (by rw [List.length_map]; omega)) ?_
      exact q _
/-! ### _law_goes(seed, i, j, many) -/
def goesI (seed i j many : Int) : Int := (seed % 1000003 + 31 * i * i + 17 * j + 5 * i * j) * (2 * i + 3 + j * j) % 1013 % many
def spGoes : Sp := fun vs H Q _ => ∃ (s i j n : Int), vs = [.int s, .int i, .int j, .int n] ∧ 0 ≤ i ∧ i ≤ 100 ∧ 0 ≤ j ∧ j ≤ 100 ∧ 0 < n ∧ Q (.int (goesI s i j n)) H
theorem scGoes : FnScope ["seed", "i", "j", "many", "mark"] ["seed", "i", "j", "many"] (defScope sGoes) := ⟨rfl, rfl, rfl, by decide +kernel, rfl, by decide +kernel, by decide +kernel⟩
theorem ok_goes {f : Addr} {fd : FuncData} (F : Fun K "_law_goes" "_law_goes" sGoes f fd) : FnOk P w K mg base CX0 1 f fd ["seed", "i", "j", "many"] spGoes := by
  refine F.ok scGoes (fun vs H Q E h => ?_) (fun cdv A outer s H vs Q E hr h => ?_)
  · obtain ⟨s, i, j, n, rfl, _⟩ := h
    rfl
  · obtain ⟨sd, i, j, n, rfl, i0, i1, j0, j1, n0, q⟩ := h
    refine ⟨_, pss_cons (ps_set (i := 4) scGoes.nd rfl (Or.inl rfl) (pe_op op_add (pe_op op_add (pe_op op_add (pe_op op_mod (pv 0) pe_int) (pe_op op_mul (pe_op op_mul pe_int (pv 1)) (pv 1))) (pe_op op_mul pe_int (pv 2))) (pe_op op_mul (pe_op op_mul pe_int (pv 1)) (pv 2))))
      (pss_one (ps_ret (pe_op op_mod (pe_op op_mod (pe_op op_mul (pv 4) (pe_op op_add (pe_op op_add (pe_op op_mul pe_int (pv 1)) pe_int) (pe_op op_mul (pv 2) (pv 2)))) pe_int) (pv 3)))), ?_⟩
    have b31 : (-(2 ^ 64) < (31 : Int)) ∧ (31 : Int) < 2 ^ 64 := by decide
    have b5 : (-(2 ^ 64) < (5 : Int)) ∧ (5 : Int) < 2 ^ 64 := by decide
    have b17 : (-(2 ^ 64) < (17 : Int)) ∧ (17 : Int) < 2 ^ 64 := by decide
    have b2 : (-(2 ^ 64) < (2 : Int)) ∧ (2 : Int) < 2 ^ 64 := by decide
    have bi : -(2 ^ 64) < i ∧ i < 2 ^ 64 := by omega
    have bj : -(2 ^ 64) < j ∧ j < 2 ^ 64 := by omega
    have hjj : 0 ≤ j * j ∧ j * j ≤ 10000 := ⟨Int.mul_nonneg j0 j0, by
      have := Int.mul_le_mul j1 j1 j0 (by decide : (0 : Int) ≤ 100)
      simpa using this⟩
    have bf : -(2 ^ 64) < 2 * i + 3 + j * j ∧ 2 * i + 3 + j * j < 2 ^ 64 := by omega
    refine ⟨_, rfl, _, _, rfl, rfl, (by show (0 : Int) < 1000003; decide), _, rfl, _, _, rfl, rfl, .inl b31, _, rfl, _, _, rfl, rfl, .inr bi, _, _, rfl, rfl, _, rfl, _, _, rfl, rfl, .inl b17, _, _, rfl, rfl, _, rfl, _, _, rfl, rfl, .inl b5, _, rfl, _, _, rfl, rfl, .inr bj, _, _, rfl, rfl, ?_⟩
    refine ⟨_, rfl, _, rfl, _, _, rfl, rfl, .inl b2, _, _, rfl, rfl, _, rfl, _, rfl, _, _, rfl, rfl, .inl bj, _, _, rfl, rfl, _, _, rfl, rfl, .inr bf, _, _, rfl, rfl, (by show (0 : Int) < 1013; decide), _, rfl, _, _, rfl, rfl, n0, ?_⟩
    exact q
/-! ### _law_right(found, word, calls) -/
def spRight : Sp := fun vs H Q _ => ∃ (r u : Addr) (x : Str) (c : Int), vs = [.ref r, .str x, .int c] ∧ H r = some (.tup [.ref u, .int c, .int 0, .int 0]) ∧ H u = some (.tup [.str x]) ∧ ∀ H', Same H H' → Q (.bl true) H'
theorem scRight : FnScope ["found", "word", "calls", "k"] ["found", "word", "calls"] (defScope sRight) := ⟨rfl, rfl, rfl, by decide +kernel, rfl, by decide +kernel, by decide +kernel⟩
theorem ok_right {f : Addr} {fd : FuncData} (F : Fun K "_law_right" "_law_right" sRight f fd) (B : Blt mg) : FnOk P w K mg base CX0 1 f fd ["found", "word", "calls"] spRight := by
  refine F.ok scRight (fun vs H Q E h => ?_) (fun cdv A outer s H vs Q E hr h => ?_)
  · obtain ⟨r, u, x, c, rfl, _⟩ := h
    rfl
  · obtain ⟨r, u, x, c, rfl, h1, h2, q⟩ := h
    refine ⟨_, pss_cons (ps_if (pw_or (pt_not (pt_val (pe_callB call_isi (by rfl) B.isi PyProof.Rows.boot_isinstance (pa_cons (pv 0) (pa_cons (pe_bltn (v := .ty "tuple") (by rfl) B.tuple PyProof.Rows.boot_tuple rfl) pa_nil))))) (pw_or (pt_cmpR op_ne (pe_callB call_len_seq (by rfl) B.len PySem.boot_len (pa_cons (pv 0) pa_nil)) pe_int (nomark _)) (pw_or1 (pt_not (pt_val (pe_callB call_isi (by rfl) B.isi PyProof.Rows.boot_isinstance (pa_cons (pe_ix ix_tup (pv 0) pe_int (fun _ _ => rfl)) (pa_cons (pe_bltn (v := .ty "tuple") (by rfl) B.tuple PyProof.Rows.boot_tuple rfl) pa_nil)))))))).pt (pss_one (ps_ret pe_bl)) pss_nil)
      (pss_cons (ps_if (pw_or (pt_cmpR op_ne (pe_callB call_len_seq (by rfl) B.len PySem.boot_len (pa_cons (pe_ix ix_tup (pv 0) pe_int (fun _ _ => rfl)) pa_nil)) pe_int (nomark _)) (pw_or (pt_not (pt_val (pe_callB call_isi (by rfl) B.isi PyProof.Rows.boot_isinstance (pa_cons (pe_ix ix_tup (pe_ix ix_tup (pv 0) pe_int (fun _ _ => rfl)) pe_int (fun _ _ => rfl)) (pa_cons (pe_bltn (v := .ty "str") (by rfl) B.str PyProof.Rows.boot_str rfl) pa_nil))))) (pw_or1 (pt_cmpR op_ne (pe_ix ix_tup (pe_ix ix_tup (pv 0) pe_int (fun _ _ => rfl)) pe_int (fun _ _ => rfl)) (pv 1) (nomark _))))).pt (pss_one (ps_ret pe_bl)) pss_nil)
      (pss_cons (ps_for PassesOwn.never rfl (pi_list (pe_lst (pa_cons pe_int (pa_cons pe_int (pa_cons pe_int pa_nil))))) (pg_name (i := 3) scRight.nd rfl (Or.inl rfl)) (pss_one (ps_if (pw_or (pt_not (pt_val (pe_callB call_isi (by rfl) B.isi PyProof.Rows.boot_isinstance (pa_cons (pe_ix ix_tup (pv 0) (pv 3) (fun _ _ => rfl)) (pa_cons (pe_bltn (v := .ty "int") (by rfl) B.int PyProof.Rows.boot_int rfl) pa_nil))))) (pw_or (pt_val (pe_callB call_isi (by rfl) B.isi PyProof.Rows.boot_isinstance (pa_cons (pe_ix ix_tup (pv 0) (pv 3) (fun _ _ => rfl)) (pa_cons (pe_bltn (v := .ty "bool") (by rfl) B.bool PyProof.Rows.boot_bool rfl) pa_nil)))) (pw_or1 (pt_cmpR op_ne (pe_ix ix_tup (pv 0) (pv 3) (fun _ _ => rfl)) (pe_ix ix_list (pe_lst (pa_cons (pv 2) (pa_cons pe_int (pa_cons pe_int pa_nil)))) (pe_op op_sub (pv 3) pe_int) (fun _ _ => rfl)) (nomark _))))).pt (pss_one (ps_ret pe_bl)) pss_nil)))
      (pss_one (ps_ret pe_bl)))), ?_⟩
    refine ⟨_, rfl, _, _, _, _, true, rfl, .ty "tuple", .base (.tup h1), kit_ty (by decide +kernel), true, rfl, ifN rfl ?_⟩
    refine ⟨_, rfl, r, _, rfl, .inr (SqT.of h1), rfl, _, rfl, iteNS rfl ?_⟩
    refine ⟨_, rfl, r, _, _, _, rfl, rfl, SqT.of h1, rfl, _, _, _, _, true, rfl, .ty "tuple", .base (.tup h2), kit_ty (by decide +kernel), true, rfl, ifN rfl ?_⟩
    refine ⟨_, rfl, r, _, _, _, rfl, rfl, SqT.of h1, rfl, u, _, rfl, .inr (SqT.of h2), rfl, _, rfl, iteNS rfl ?_⟩
    refine ⟨_, rfl, r, _, _, _, rfl, rfl, SqT.of h1, rfl, u, _, _, _, rfl, rfl, SqT.of h2, rfl, _, _, _, _, true, rfl, .ty "str", .base (.str _), kit_ty (by decide +kernel), true, rfl, ifN rfl ?_⟩
    refine ⟨_, rfl, r, _, _, _, rfl, rfl, SqT.of h1, rfl, u, _, _, _, rfl, rfl, SqT.of h2, rfl, _, rfl, rfl, _, rfl, iteNS rfl ?_⟩
    refine ⟨(by show 3 ≤ sizeLine; decide), fun l hl => ⟨l, rfl, ⟨_, SqL.of upd_same⟩, for_list (K := K) (a := l) (xs := [.int 1, .int 2, .int 3]) (fun i σ H' => ∃ v, σ = [some (.ref r), some (.str x), some (.int c), v] ∧ Same H H' ∧ H' l = some (.lst [.int 1, .int 2, .int 3]))
      ⟨none, rfl, same_put (Same.refl _) hl, upd_same⟩ (fun i σ H' _ ⟨_, _, _, e⟩ => SqL.of e) ?_ ?_⟩⟩
    · rintro i y σ H' hi ⟨v, rfl, hs, hL⟩
      obtain ⟨z, n, rfl, a1, a2⟩ : ∃ z n : Int, y = .int z ∧ atI [V.ref u, V.int c, V.int 0, V.int 0] z = some (V.int n) ∧ atI [V.int c, V.int 0, V.int 0] (z - 1) = some (V.int n) := by
        match i, hi with
        | 0, hi => exact ⟨1, c, (Option.some.inj hi).symm, rfl, rfl⟩
        | 1, hi => exact ⟨2, 0, (Option.some.inj hi).symm, rfl, rfl⟩
        | 2, hi => exact ⟨3, 0, (Option.some.inj hi).symm, rfl, rfl⟩
        | i + 3, hi => simp at hi
      have h1' := hs _ _ h1
      refine ⟨_, rfl, _, rfl, r, _, _, _, rfl, rfl, SqT.of h1', a1, _, _, _, _, true, rfl, .ty "int", .base (.int _), kit_ty (by decide +kernel), true, rfl, ifN rfl ?_⟩
      refine ⟨_, rfl, _, rfl, r, _, _, _, rfl, rfl, SqT.of h1', a1, _, _, _, _, false, rfl, .ty "bool", .base (.int _), kit_ty (by decide +kernel), false, rfl, ifN rfl ?_⟩
      refine ⟨_, rfl, _, rfl, r, _, _, _, rfl, rfl, SqT.of h1', a1, _, rfl, (by show 3 ≤ sizeLine; decide), fun l2 hl2 => ⟨_, rfl, _, _, rfl, rfl, l2, _, _, _, rfl, rfl, SqL.of upd_same, a2, rfl, _, rfl, iteNS rfl ?_⟩⟩
      exact ⟨_, rfl, same_put hs (hs.free hl2), by rw [upd_ne (ne_of_none hL hl2)]; exact hL⟩
    · rintro σ H' ⟨v, rfl, hs, hL⟩
      exact q _ hs
/-! ### _law_spent(program, words, bound), a bound too small -/
def spSpent (S : Sys) : Sp := fun vs H Q _ => ∃ (p wd : Addr) (ts : List Nat) (m : Nat) (most : Int), vs = [.ref p, .ref wd, .int most] ∧ ProgAt S H p ∧ H wd = some (.tup (wdV S ts ++ [.str (S.mak m)])) ∧
  (∀ a ∈ ts, a < S.nt) ∧ m < S.nm ∧ ts.length ≤ 120 ∧ 0 ≤ most ∧ most < (ts.length : Int) ∧ ∀ H', Same H H' → Q (.bl true) H'
theorem scSpent : FnScope ["program", "words", "bound", "caught", "e"] ["program", "words", "bound"] (defScope sSpent) := ⟨rfl, rfl, rfl, by decide +kernel, rfl, by decide +kernel, by decide +kernel⟩
theorem ok_spent {S : Sys} {C f fW : Addr} {fd dW : FuncData} (F : Fun K "_law_spent" "_law_spent" sSpent f fd) (Z : Spt K mg C) (cW : Cal P w K mg base (L2.CX P w) 2 "worth" ["program", "words", "most"] (spWorth S C) fW dW) :
    FnOk P w K mg base CX0 3 f fd ["program", "words", "bound"] (spSpent S) := by
  refine F.ok scSpent (fun vs H Q E h => ?_) (fun cdv A outer s H vs Q E hr h => ?_)
  · obtain ⟨p, wd, ts, m, most, rfl, _⟩ := h
    rfl
  · obtain ⟨p, wd, ts, m, most, rfl, hP, hw, hts, hm, hlen, h0, hlt, q⟩ := h
    refine ⟨_, pss_cons (ps_set (i := 3) scSpent.nd rfl (Or.inl rfl) pe_non)
      (pss_cons (ps_try_as (i := 4) (tb := fun W => tDrop (tCallS (spWorth S C) (WE W) (tCons (tVar 0) (tCons (tVar 1) (tCons (tVar 2) tNil))))) (ts := fun _ _ _ => tAsg (tVar 4) (gName 3)) (Wout := fun _ _ _ _ => False) rfl rfl scSpent.nd rfl rfl ⟨rfl, by decide, Or.inl Z.g⟩ takes0
        (fun W pn xe tk _ => pss_one (ps_expr (by exact (pe_callS cW.F hr (by rfl) cW.m cW.kp cW.b (fun σ => passAt tk σ) (by exact (pa_cons (pv 0) (pa_cons (pv 1) (pa_cons (pv 2) pa_nil))))))))
        (fun a oe cls d pn hz hf => pss_one (ps_set (i := 3) scSpent.nd rfl (Or.inl rfl) (by exact (pv 4)))))
      (pss_one (ps_ret (pe_cmpR op_notN (pv 3) pe_non (nomark _))))), ?_⟩
    refine ⟨_, rfl, _, rfl, _, rfl, p, wd, ts, m, most, rfl, hP, hw, hts, hm, hlen, h0, fun _ H' hs => ?_, fun le => absurd le (by omega)⟩
    refine ⟨true, Z.e, fun _ a ha => ?_, fun z => Bool.noConfusion z⟩
    exact ⟨_, rfl, _, rfl, rfl, q _ hs⟩
end
end Mine

namespace Mine
open PySem L2
/-! ### a test known in part, a cut -/
theorem PT.weak {X : Cx} {e : Expr} {t t' : TT} (h : PT X e t) (w : ∀ σ H Q, t' σ H Q → t σ H Q) : PT X e t' := ⟨fun pins s σ H Q I q => h.run pins s σ H Q I (w σ H Q q)⟩
def tCut (t u : TS) : TS := fun D σ H => ∃ Mid : St → Hp → Prop, t { D with nx := Mid } σ H ∧ ∀ σ' H', Mid σ' H' → u D σ' H'
theorem pss_cut {X : Cx} {st : Stmt} {rest : List Stmt} {t u : TS} (h1 : PS X st t) (h2 : PSs X rest u) : PSs X (st :: rest) (tCut t u) := by
  refine ⟨fun pins s σ H D I h => ?_⟩
  obtain ⟨Mid, ha, hb⟩ := h
  refine wpAny_execs_cons (thn (h1.run pins s σ H { D with nx := Mid } I ha) fun f s1 q => ?_)
  cases f with
  | next =>
    obtain ⟨σ', H', I', q⟩ := q
    exact h2.run pins s1 σ' H' D I' (hb σ' H' q)
  | ret v => exact q
  | brk => exact q
  | cont => exact q
section
variable {P : Program} {w : World} {K : PySem.W.Frag} {mg : Str → Option Value} {base : Heap}
/-! ### _law_names(cell) -/
def spNames : Sp := fun vs H Q _ => ∃ c : Int, vs = [.int c] ∧ ∀ (H' : Hp) (p : Addr) (ns : List Str), Same H H' → H p = none → H' p = some (.lst (ns.map V.str)) → ns.length = 26 → ns.Nodup → Q (.ref p) H'
theorem scNames : FnScope ["cell", "letters", "size", "at", "base", "names", "k", "sign", "j", "name"] ["cell"] (defScope sNames) := ⟨rfl, rfl, rfl, by decide +kernel, rfl, by decide +kernel, by decide +kernel⟩
/-- the first test, the second: whatever they tell -/
def tAny0 : TT := fun σ H Q => (∃ c : Int, σ[0]? = some (some (.int c))) ∧ ∀ b, Q b H
def tAny5 : TT := fun σ H Q => (∃ (p : Addr) (ns : List Str), σ[5]? = some (some (.ref p)) ∧ H p = some (.lst (ns.map V.str))) ∧ ∀ b, Q b H
theorem wk1 : ∀ σ H Q, tAny0 σ H Q → (tTest (tOp rEq (tOp (rI (fun _ j => 0 < j) fun i j => .int (i % j)) (tOp (rI CDiv fun i j => .int (i / j)) (tVar 0) (tC (.int 72))) (tC (.int 3))) (tC (.int 1)))) σ H Q := by
  rintro σ H Q ⟨⟨c, hc⟩, q⟩
  exact ⟨_, hc, _, _, rfl, rfl, ⟨by decide, by decide⟩, _, _, rfl, rfl, (by show (0 : Int) < 3; decide), rfl, _, rfl, q _⟩
theorem flat_strs (ns : List Str) : (ns.map V.str).all flatV = true := by
  rw [List.all_map]
  exact List.all_eq_true.mpr fun _ _ => rfl
theorem wk2 : ∀ σ H Q, tAny5 σ H Q → (tOr (tTest (tOp (rIn K false) (tC (.str "copy")) (tVar 5))) (tTest (tOp (rIn K false) (tC (.str "drop")) (tVar 5)))) σ H Q := by
  rintro σ H Q ⟨⟨p, ns, hp, hl⟩, q⟩
  refine ⟨_, hp, p, _, rfl, .inl (SqL.of hl), rfl, flat_strs ns, _, rfl, ?_⟩
  refine ite2 (fun _ => q _) (fun _ => ?_)
  exact ⟨_, hp, p, _, rfl, .inl (SqL.of hl), rfl, flat_strs ns, _, rfl, q _⟩
theorem ok_names {f : Addr} {fd : FuncData} (F : Fun K "_law_names" "_law_names" sNames f fd) (B : Blt mg) : FnOk P w K mg base CX0 1 f fd ["cell"] spNames := by
  refine F.ok scNames (fun vs H Q E h => ?_) (fun cdv A outer s H vs Q E hr h => ?_)
  · obtain ⟨c, rfl, _⟩ := h
    rfl
  · obtain ⟨c, rfl, k⟩ := h
    refine ⟨_, pss_cons (ps_set (i := 1) scNames.nd rfl (Or.inr rfl) pe_str)
      (pss_cons (ps_set (i := 2) scNames.nd rfl (Or.inl rfl) (pe_op op_mod (pv 0) pe_int))
      (pss_cons (ps_set (i := 3) scNames.nd rfl (Or.inl rfl) (pe_op op_mod (pe_op op_fdiv (pv 0) pe_int) (pe_op op_add (pv 2) pe_int)))
      (pss_cons (ps_set (i := 4) scNames.nd rfl (Or.inl rfl) (pe_join pe_str (pe_lc (own := [("j", 8)]) (g := gName 8) (tt := tYes) rfl scNames.nd (pi_range1 (by rfl) B.range (pa_cons (pv 2) pa_nil)) (blkOk_by (N := ["cell", "letters", "size", "at", "base", "names", "k", "sign", "j", "name"]) (sc := defScope sNames) (by decide +kernel)) (fun _ _ _ _ _ => pg_name (i := 8) scNames.nd rfl (Or.inl rfl)) (fun _ _ _ _ _ => pts_nil) (fun _ _ _ _ _ => pe_ix ix_str (pv 1) (pe_op op_mod (pe_op op_add (pe_op op_fdiv (pv 0) pe_int) (pe_op op_mul (pv 8) (pv 8))) pe_int) (fun _ _ => rfl)))))
      (pss_cons (ps_set (i := 5) scNames.nd rfl (Or.inl rfl) (pe_lst pa_nil))
      (pss_cons (ps_for PassesOwn.never rfl (pi_range1 (by rfl) B.range (pa_cons pe_int pa_nil)) (pg_name (i := 6) scNames.nd rfl (Or.inl rfl)) (pss_cons (ps_set (i := 7) scNames.nd rfl (Or.inl rfl) (pe_ix ix_str (pv 1) (pe_op op_mod (pe_op op_add (pe_op op_fdiv (pv 0) pe_int) (pe_op op_mul pe_int (pv 6))) pe_int) (fun _ _ => rfl)))
      (pss_one (ps_expr (pe_bm PySem.F.plainAttrs_list PySem.F.slot_list_append PySem.F.type_list_append mt_append (pv 5) (pa_cons (pe_op op_add_str (pe_op op_add_str (pe_slice sl_str (pv 4) po_none (po_some (pv 3))) (pv 7)) (pe_slice sl_str (pv 4) (po_some (pv 3)) po_none)) pa_nil))))))
      (pss_cut (ps_if (PT.weak (pt_cmpR op_eq (pe_op op_mod (pe_op op_fdiv (pv 0) pe_int) pe_int) pe_int (nomark _)) wk1) (pss_one (ps_setLc (i := 5) (own := [("k", 6)]) (g := gName 6) (tt := tYes) rfl scNames.nd rfl rfl (sw_true rfl rfl rfl (by decide +kernel)) (pi_range1 (by rfl) B.range (pa_cons pe_int pa_nil)) (blkOk_by (N := ["cell", "letters", "size", "at", "base", "names", "k", "sign", "j", "name"]) (sc := defScope sNames) (by decide +kernel)) (fun _ _ _ _ _ => pg_name (i := 6) scNames.nd rfl (Or.inl rfl)) (fun _ _ _ _ _ => pts_nil) (fun _ _ _ _ _ => pe_op op_mulS (pe_ix ix_str (pv 1) (pe_op op_mod (pe_op op_add (pe_op op_fdiv (pv 0) pe_int) (pe_op op_mod (pv 6) pe_int)) pe_int) (fun _ _ => rfl)) (pe_op op_add pe_int (pe_op op_fdiv (pv 6) pe_int))))) pss_nil)
      (pss_cut (ps_if (PT.weak (pw_or (pt_cmpR op_in_seq pe_str (pv 5) (by rfl)) (pw_or1 (pt_cmpR op_in_seq pe_str (pv 5) (by rfl)))).pt wk2) (pss_one (ps_setLc (i := 5) (own := [("name", 9)]) (g := gName 9) (tt := tYes) rfl scNames.nd rfl rfl (sw_true rfl rfl rfl (by decide +kernel)) (pi_list (pv 5)) (blkOk_by (N := ["cell", "letters", "size", "at", "base", "names", "k", "sign", "j", "name"]) (sc := defScope sNames) (by decide +kernel)) (fun _ _ _ _ _ => pg_name (i := 9) scNames.nd rfl (Or.inl rfl)) (fun _ _ _ _ _ => pts_nil) (fun _ _ _ _ _ => pe_op op_add_str (pv 9) pe_str))) pss_nil)
      (pss_one (ps_ret (pv 5)))))))))), ?_⟩
    have hsz0 : 0 ≤ c % 8 := Int.emod_nonneg _ (by decide)
    have hsz1 : c % 8 < 8 := Int.emod_lt_of_pos _ (by decide)
    -- letters, size, at
    refine ⟨_, rfl, _, _, rfl, rfl, (by show (0 : Int) < 8; decide), _, rfl, _, _, rfl, rfl, ⟨by decide, by decide⟩, _, rfl, _, _, rfl, rfl, _, _, rfl, rfl, (by show (0 : Int) < c % 8 + 1; omega), ?_⟩
    -- base
    refine ⟨⟨_, rfl⟩, _, rfl, c % 8, rfl, by omega, by omega, fun D hD => ?_⟩
    refine lc_range (lo := 0) (n := (c % 8).toNat) (fun i H' => Same H H' ∧ H' D = some (.lst (((List.range i).map fun j : Nat => ltr (c / 72 + (0 + (j : Int)) * (0 + (j : Int)))).map V.str))) ⟨same_put (Same.refl _) hD, upd_same⟩ ?_ ?_
    · rintro i H' hi ⟨hs, hL⟩
      refine ⟨rfl, _, rfl, _, rfl, _, _, rfl, rfl, ⟨by decide, by decide⟩, _, rfl, _, rfl, _, _, rfl, rfl, .inl ⟨by omega, by omega⟩, _, _, rfl, rfl, _, _, rfl, rfl, (by show (0 : Int) < 26; decide), lets, _, _, rfl, rfl, (by decide +kernel), lets_at _, ?_⟩
      refine ⟨_, hL, ?_, same_put hs hD, ?_⟩
      · rw [List.length_map, List.length_map, List.length_range]
        exact Nat.lt_of_lt_of_le hi (Nat.le_trans (by omega : (c % 8).toNat ≤ 8) (by decide))
      · rw [upd_same, range_snoc, List.map_append]
        rfl
    · rintro H' ⟨hs, hL⟩
      have hlen : (((List.range (c % 8).toNat).map fun j : Nat => ltr (c / 72 + (0 + (j : Int)) * (0 + (j : Int)))).map (·.length)).sum = (c % 8).toNat := by
        rw [List.map_map]
        exact (sum_ones _ (fun _ => rfl) _).trans List.length_range
      have hb : (Txt.join "" ((List.range (c % 8).toNat).map fun j : Nat => ltr (c / 72 + (0 + (j : Int)) * (0 + (j : Int))))).length ≤ 7 := by
        refine Nat.le_trans join_len ?_
        rw [hlen]
        show (c % 8).toNat + _ * 0 ≤ 7
        omega
      refine ⟨_, D, _, rfl, rfl, .inl (SqL.of hL), ?_, ?_⟩
      · rw [hlen]
        show (c % 8).toNat + _ * 0 ≤ 16777216
        omega
      generalize Txt.join "" ((List.range (c % 8).toNat).map fun j : Nat => ltr (c / 72 + (0 + (j : Int)) * (0 + (j : Int)))) = base at hb
      -- names
      refine ⟨Nat.zero_le _, fun nl hnl => ?_⟩
      have hnl0 : H nl = none := hs.free hnl
      refine ⟨26, rfl, by decide, by decide, for_range (lo := 0) (n := 26) (fun i σ H' => ∃ kv sg, σ = [some (.int c), some (.str lets), some (.int (c % 8)), some (.int (c / 8 % (c % 8 + 1))), some (.str base), some (.ref nl), kv, sg, none, none] ∧ Same H H' ∧ H' nl = some (.lst (((List.range i).map (nm1 base (c / 8 % (c % 8 + 1)) (c / 72))).map V.str)))
        ⟨none, none, rfl, same_put hs hnl0, upd_same⟩ ?_ ?_⟩
      · rintro i σ H' hi ⟨kv, sg, rfl, hs, hN⟩
        refine ⟨_, rfl, _, rfl, _, _, rfl, rfl, ⟨by decide, by decide⟩, _, rfl, _, _, rfl, rfl, .inl ⟨by decide, by decide⟩, _, _, rfl, rfl, _, _, rfl, rfl, (by show (0 : Int) < 26; decide), lets, _, _, rfl, rfl, (by decide +kernel), lets_at _, ?_⟩
        have l1 := cutS_length base none (some (c / 8 % (c % 8 + 1)))
        have l2 := cutS_length base (some (c / 8 % (c % 8 + 1))) none
        have z : (1000 : Nat) ≤ sizeLine := by decide
        refine ⟨_, rfl, .inl ⟨rfl, _, SqL.of hN⟩, _, rfl, _, rfl, _, rfl, base, rfl, (by omega), _, rfl, _, _, rfl, rfl, ?_, _, rfl, _, rfl, _, rfl, base, rfl, (by omega), _, _, rfl, rfl, ?_, nl, _, _, rfl, rfl, hN, ?_, ?_⟩
        · show (cutS base none (some (c / 8 % (c % 8 + 1)))).length + 1 ≤ sizeLine
          omega
        · rw [Str.length_append]
          show (cutS base none (some (c / 8 % (c % 8 + 1)))).length + 1 + (cutS base (some (c / 8 % (c % 8 + 1))) none).length ≤ sizeLine
          omega
        · rw [List.length_map, List.length_map, List.length_range]
          exact Nat.lt_of_lt_of_le hi (by decide)
        · refine ⟨_, _, rfl, same_put hs hnl0, ?_⟩
          rw [upd_same, range_snoc, List.map_append]
          rfl
      · rintro σ H' ⟨kv, sg, rfl, hs, hN⟩
        -- the two ifs, one behind the other
        refine ⟨fun σ' H' => ∃ (nl : Addr) (ns : List Str) (a b : Option V), σ' = [some (.int c), some (.str lets), some (.int (c % 8)), some (.int (c / 8 % (c % 8 + 1))), some (.str base), some (.ref nl), a, b, none, none] ∧ Same H H' ∧ H nl = none ∧ H' nl = some (.lst (ns.map V.str)) ∧ ns.length = 26 ∧ ns.Nodup ∧ ∀ x ∈ ns, x.length ≤ 100, ?_, ?_⟩
        · refine ⟨⟨c, rfl⟩, fun b => ?_⟩
          cases b with
          | false =>
            refine ifN rfl ?_
            refine ⟨nl, _, _, _, rfl, hs, hnl0, hN, by rw [List.length_map, List.length_range], nodup_range _ 26 fun i j hi hj e => nm1_inj hi hj e, fun x hx => ?_⟩
            obtain ⟨j, _, rfl⟩ := List.mem_map.mp hx
            exact nm1_len hb _ _ _
          | true =>
            refine ifY rfl ?_
            refine ⟨26, rfl, by decide, by decide, fun D hD => ?_⟩
            have hD0 : H D = none := hs.free hD
            refine lc_range (lo := 0) (n := 26) (fun i H' => Same H H' ∧ H' D = some (.lst (((List.range i).map (nm2 (c / 216))).map V.str))) ⟨same_put hs hD0, upd_same⟩ ?_ ?_
            · rintro i H' hi ⟨hs, hL⟩
              refine ⟨rfl, _, rfl, _, rfl, _, _, rfl, rfl, ⟨by decide, by decide⟩, _, rfl, _, _, rfl, rfl, (by show (0 : Int) < 4; decide), _, _, rfl, rfl, _, _, rfl, rfl, (by show (0 : Int) < 26; decide), lets, _, _, rfl, rfl, (by decide +kernel), lets_at _, _, rfl, _, _, rfl, rfl, ⟨by decide, by decide⟩, _, _, rfl, rfl, _, _, rfl, rfl, (by omega), (by omega), (by show 1 ≤ 1000; decide), ?_⟩
              refine ⟨_, hL, ?_, same_put hs hD0, ?_⟩
              · rw [List.length_map, List.length_map, List.length_range]
                exact Nat.lt_of_lt_of_le hi (by decide)
              · rw [upd_same, range_snoc, List.map_append]
                rfl
            · rintro H' ⟨hs, hL⟩
              refine ⟨D, _, _, _, rfl, hs, hD0, hL, by rw [List.length_map, List.length_range], nodup_range _ 26 fun i j hi hj e => nm2_inj hi hj e, fun x hx => ?_⟩
              obtain ⟨j, hj, rfl⟩ := List.mem_map.mp hx
              exact nm2_len _ (List.mem_range.mp hj)
        · rintro σ H' ⟨nl, ns, a, b, rfl, hs, hn0, hN, h26, hnd, hln⟩
          refine ⟨fun σ' H' => ∃ (nl : Addr) (ns : List Str) (a b : Option V), σ' = [some (.int c), some (.str lets), some (.int (c % 8)), some (.int (c / 8 % (c % 8 + 1))), some (.str base), some (.ref nl), a, b, none, none] ∧ Same H H' ∧ H nl = none ∧ H' nl = some (.lst (ns.map V.str)) ∧ ns.length = 26 ∧ ns.Nodup, ?_, ?_⟩
          · refine ⟨⟨nl, ns, rfl, hN⟩, fun t => ?_⟩
            cases t with
            | false =>
              refine ifN rfl ?_
              exact ⟨nl, ns, _, _, rfl, hs, hn0, hN, h26, hnd⟩
            | true =>
              refine ifY rfl ?_
              refine ⟨_, rfl, nl, rfl, ⟨_, SqL.of hN⟩, fun D hD => ?_⟩
              have hD0 : H D = none := hs.free hD
              have nnD : nl ≠ D := ne_of_none hN hD
              refine lc_list (K := K) (a := nl) (xs := ns.map V.str) (fun i H' => Same H H' ∧ H' nl = some (.lst (ns.map V.str)) ∧ H' D = some (.lst (((ns.take i).map (· ++ ("e" : Str))).map V.str))) ⟨same_put hs hD0, by rw [upd_ne nnD]; exact hN, upd_same⟩ (fun i H' _ h => SqL.of h.2.1) ?_ ?_
              · rintro i y H' hi ⟨hs, h1, h2⟩
                obtain ⟨x, hx, rfl⟩ : ∃ x, ns[i]? = some x ∧ y = V.str x := by
                  rw [List.getElem?_map] at hi
                  cases e : ns[i]? with
                  | none => rw [e] at hi; cases hi
                  | some x => rw [e] at hi; exact ⟨x, rfl, (Option.some.inj hi).symm⟩
                have lx := hln x (List.mem_of_getElem? hx)
                have hi26 : i < 26 := by rw [← h26]; exact ix_lt hx
                refine ⟨rfl, _, rfl, _, _, rfl, rfl, ?_, ?_⟩
                · show x.length + 1 ≤ sizeLine
                  exact Nat.le_trans (by omega : x.length + 1 ≤ 101) (by decide)
                · refine ⟨_, h2, ?_, same_put hs hD0, by rw [upd_ne nnD]; exact h1, ?_⟩
                  · rw [List.length_map, List.length_map, List.length_take]
                    exact Nat.lt_of_le_of_lt (by omega : min i ns.length ≤ 26) (by decide)
                  · rw [upd_same, List.take_add_one, hx, List.map_append, List.map_append]
                    rfl
              · rintro H' ⟨hs, h1, h2⟩
                rw [List.length_map, List.take_length] at h2
                exact ⟨D, _, _, _, rfl, hs, hD0, h2, by rw [List.length_map]; exact h26, nodup_app _ hnd⟩
          · rintro σ H' ⟨nl, ns, a, b, rfl, hs, hn0, hN, h26, hnd⟩
            exact ⟨_, rfl, k H' nl ns hs hn0 hN h26 hnd⟩
end
end Mine

namespace Mine
open PySem L2
def rLen (K : PySem.W.Frag) : List V → Hp → VK → Prop := fun xs H Q => ∃ p ys, xs = [.ref p] ∧ (SqL K H p ys ∨ SqT K H p ys) ∧ Q (.int ys.length) H
/-! ### plain parts -/
theorem getD_at {ns : List Str} {i : Nat} (h : i < ns.length) : ns[i]? = some (ns.getD i "") := by
  rw [List.getD_eq_getElem?_getD, List.getElem?_eq_getElem h]
  rfl
theorem getD_inj {ns : List Str} (nd : ns.Nodup) {i j : Nat} (hi : i < ns.length) (hj : j < ns.length) (e : ns.getD i "" = ns.getD j "") : i = j := by
  have a := getD_at hi
  have b := getD_at hj
  rw [e] at a
  exact (List.getElem?_inj hi nd).mp (a.trans b.symm)
theorem cut_names {ns : List Str} {k n : Nat} (h : k + n ≤ ns.length) {lo hi : Int} (hlo : lo = (k : Int)) (hhi : hi = ((k + n : Nat) : Int)) : cutV (ns.map V.str) (some lo) (some hi) = (List.range n).map fun i => V.str (ns.getD (k + i) "") := by
  subst hlo hhi
  have e1 : HT.sIx (ns.map V.str).length 0 (some (k : Int)) = k := by rw [HT.sIx_nat, List.length_map]; omega
  have e2 : HT.sIx (ns.map V.str).length (ns.map V.str).length (some ((k + n : Nat) : Int)) = k + n := by rw [HT.sIx_nat, List.length_map]; omega
  unfold cutV
  rw [e1, e2]
  apply List.ext_getElem?
  intro i
  rw [List.getElem?_take, List.getElem?_drop, List.getElem?_map, List.getElem?_map]
  by_cases c : i < k + n - k
  · rw [if_pos c, getD_at (by omega : k + i < ns.length), List.getElem?_range (by omega : i < n)]
    rfl
  · rw [if_neg c, List.getElem?_eq_none (by rw [List.length_range]; omega)]
    rfl
theorem cut_lo {us : List Addr} {k : Nat} (h : k ≤ us.length) : cutV (us.map V.ref) (some (k : Int)) none = (us.drop k).map V.ref := by
  have e1 : HT.sIx (us.map V.ref).length 0 (some (k : Int)) = k := by rw [HT.sIx_nat, List.length_map]; omega
  unfold cutV
  rw [e1, HT.sIx_none, List.map_drop, List.take_of_length_le (by simp)]
theorem cut_hi {us : List Addr} {k : Nat} (h : k ≤ us.length) : cutV (us.map V.ref) none (some (k : Int)) = (us.take k).map V.ref := by
  have e1 : HT.sIx (us.map V.ref).length (us.map V.ref).length (some (k : Int)) = k := by rw [HT.sIx_nat, List.length_map]; omega
  unfold cutV
  rw [e1, HT.sIx_none, List.map_take, List.drop_zero, Nat.sub_zero]
theorem cut_ints (cs : List Int) (lo hi : Option Int) : ∃ ds : List Int, cutV (cs.map V.int) lo hi = ds.map V.int ∧ ds.length ≤ cs.length := by
  refine ⟨(cs.drop (HT.sIx (cs.map V.int).length 0 lo)).take (HT.sIx (cs.map V.int).length (cs.map V.int).length hi - HT.sIx (cs.map V.int).length 0 lo), ?_, ?_⟩
  · unfold cutV
    rw [List.map_take, List.map_drop]
  · rw [List.length_take, List.length_drop]
    omega
/-- the program that the law's cells tell -/
def sysOf (ns : List Str) (shape seed : Int) : Sys :=
  { nt := (shape / 8 % 8 + 1).toNat, nm := (shape % 8 + 1).toNat, kd := ns.getD 0 "", tak := fun a => ns.getD (9 + a) "", mak := fun b => ns.getD (1 + b) "",
    g := fun a b => (goesI seed a b ((shape % 8 + 1).toNat : Int)).toNat }
theorem goes_lo (s i j : Int) {n : Int} (h : 0 < n) : 0 ≤ goesI s i j n := Int.emod_nonneg _ (by omega)
theorem goes_hi (s i j : Int) {n : Int} (h : 0 < n) : goesI s i j n < n := Int.emod_lt_of_pos _ h
theorem sys_ok {ns : List Str} (h26 : ns.length = 26) (nd : ns.Nodup) (shape seed : Int) : (sysOf ns shape seed).Ok := by
  have a0 : 0 ≤ shape / 8 % 8 := Int.emod_nonneg _ (by decide)
  have a1 : shape / 8 % 8 < 8 := Int.emod_lt_of_pos _ (by decide)
  have b0 : 0 ≤ shape % 8 := Int.emod_nonneg _ (by decide)
  have b1 : shape % 8 < 8 := Int.emod_lt_of_pos _ (by decide)
  have t8 : (shape / 8 % 8 + 1).toNat ≤ 8 := by omega
  have m8 : (shape % 8 + 1).toNat ≤ 8 := by omega
  have m1 : 0 < (shape % 8 + 1).toNat := by omega
  refine ⟨t8, m8, fun a b ha hb e => ?_, fun a b ha hb e => ?_, fun a b ha hb e => ?_, fun a b ha hb => ?_⟩
  · have ha : a < (shape / 8 % 8 + 1).toNat := ha
    have hb : b < (shape / 8 % 8 + 1).toNat := hb
    have := getD_inj nd (by omega) (by omega) e
    omega
  · have ha : a < (shape % 8 + 1).toNat := ha
    have hb : b < (shape % 8 + 1).toNat := hb
    have := getD_inj nd (by omega) (by omega) e
    omega
  · have ha : a < (shape / 8 % 8 + 1).toNat := ha
    have hb : b < (shape % 8 + 1).toNat := hb
    have := getD_inj nd (by omega) (by omega) e
    omega
  · show (goesI seed a b ((shape % 8 + 1).toNat : Int)).toNat < (shape % 8 + 1).toNat
    have h := goes_hi seed a b (n := ((shape % 8 + 1).toNat : Int)) (by omega)
    have h' := goes_lo seed a b (n := ((shape % 8 + 1).toNat : Int)) (by omega)
    omega
/-- the rules drawn so far: all of the takers below i, of taker i the makers below j -/
structure Rls (S : Sys) (H : Hp) (us : List Addr) (i j : Nat) : Prop where
  n : us.length = i * S.nm + j
  f : ∀ r ∈ us, ∃ a b, a < S.nt ∧ b < S.nm ∧ RuleAt S H r a b
  c : ∀ a b, a < S.nt → b < S.nm → (a < i ∨ (a = i ∧ b < j)) → ∃ r ∈ us, RuleAt S H r a b
theorem Rls.kept {S : Sys} {H H' : Hp} {us : List Addr} {i j : Nat} (k : Kept H H') (h : Rls S H us i j) : Rls S H' us i j := by
  refine ⟨h.n, fun r hr => ?_, fun a b ha hb o => ?_⟩
  · obtain ⟨a, b, ha, hb, q⟩ := h.f r hr
    exact ⟨a, b, ha, hb, q.kept k⟩
  · obtain ⟨r, hr, q⟩ := h.c a b ha hb o
    exact ⟨r, hr, q.kept k⟩
theorem Rls.zero (S : Sys) (H : Hp) : Rls S H [] 0 0 := ⟨by simp, fun r hr => (by cases hr), fun a b _ _ o => (by omega)⟩
theorem Rls.row {S : Sys} {H : Hp} {us : List Addr} {i : Nat} (h : Rls S H us i S.nm) : Rls S H us (i + 1) 0 := by
  refine ⟨by rw [h.n, Nat.succ_mul]; omega, h.f, fun a b ha hb o => h.c a b ha hb ?_⟩
  omega
theorem Rls.step {S : Sys} {H H' : Hp} {us : List Addr} {i j : Nat} {r : Addr} (k : Kept H H') (h : Rls S H us i j) (hi : i < S.nt) (hj : j < S.nm) (q : RuleAt S H' r i j) : Rls S H' (us ++ [r]) i (j + 1) := by
  have h := h.kept k
  refine ⟨by rw [List.length_append, h.n]; rfl, fun x hx => ?_, fun a b ha hb o => ?_⟩
  · rcases List.mem_append.mp hx with z | z
    · exact h.f x z
    · obtain rfl : x = r := by simpa using z
      exact ⟨i, j, hi, hj, q⟩
  · by_cases c : a = i ∧ b = j
    · obtain ⟨rfl, rfl⟩ := c
      exact ⟨r, by simp, q⟩
    · obtain ⟨x, hx, y⟩ := h.c a b ha hb (by omega)
      exact ⟨x, List.mem_append.mpr (.inl hx), y⟩
theorem Rls.small {S : Sys} (O : S.Ok) {H : Hp} {us : List Addr} {i j : Nat} (h : Rls S H us i j) (hi : i ≤ S.nt) (hj : i = S.nt → j = 0) (hj' : j ≤ S.nm) : us.length ≤ 64 := by
  have t8 := O.t8
  have m8 := O.m8
  rw [h.n]
  have : i * S.nm + j ≤ S.nt * S.nm := by
    by_cases c : i = S.nt
    · rw [hj c, c]
      exact Nat.le_refl _
    · have e : (i + 1) * S.nm ≤ S.nt * S.nm := Nat.mul_le_mul_right _ (by omega)
      rw [Nat.succ_mul] at e
      omega
  have h2 : S.nt * S.nm ≤ 8 * 8 := Nat.mul_le_mul t8 m8
  omega
theorem at_range {n i : Nat} (f : Nat → V) (h : i < n) {z : Int} (hz : z = (i : Int)) : atI ((List.range n).map f) z = some (f i) := by
  subst hz
  refine atI_nat ?_
  rw [List.getElem?_map, List.getElem?_range h]
  rfl
theorem range_at {n i : Nat} {f : Nat → V} {x : V} (h : ((List.range n).map f)[i]? = some x) : i < n ∧ x = f i := by
  have hi : i < n := by
    have := (List.getElem?_eq_some_iff.mp h).1
    rw [List.length_map, List.length_range] at this
    exact this
  rw [List.getElem?_map, List.getElem?_range hi] at h
  exact ⟨hi, (Option.some.inj h).symm⟩
def tkV (S : Sys) : List V := (List.range S.nt).map fun i => V.str (S.tak i)
def mkV (S : Sys) : List V := (List.range S.nm).map fun i => V.str (S.mak i)
theorem tkV_len (S : Sys) : (tkV S).length = S.nt := by unfold tkV; rw [List.length_map, List.length_range]
theorem mkV_len (S : Sys) : (mkV S).length = S.nm := by unfold mkV; rw [List.length_map, List.length_range]
theorem sys_of {ns : List Str} (h26 : ns.length = 26) (nd : ns.Nodup) (shape seed : Int) : ∃ S : Sys, S.Ok ∧ 0 < S.nm ∧ 0 < S.nt ∧ (∀ a b : Nat, goesI seed (a : Int) (b : Int) (S.nm : Int) = (S.g a b : Int)) ∧ atI (ns.map V.str) 0 = some (V.str S.kd) ∧
    cutV (ns.map V.str) (some 1) (some (2 + shape % 8)) = mkV S ∧ cutV (ns.map V.str) (some 9) (some (10 + shape / 8 % 8)) = tkV S := by
  have a0 : 0 ≤ shape / 8 % 8 := Int.emod_nonneg _ (by decide)
  have a1 : shape / 8 % 8 < 8 := Int.emod_lt_of_pos _ (by decide)
  have b0 : 0 ≤ shape % 8 := Int.emod_nonneg _ (by decide)
  have b1 : shape % 8 < 8 := Int.emod_lt_of_pos _ (by decide)
  have m1 : 0 < (shape % 8 + 1).toNat := by omega
  have t1 : 0 < (shape / 8 % 8 + 1).toNat := by omega
  refine ⟨sysOf ns shape seed, sys_ok h26 nd shape seed, m1, t1, fun a b => ?_, ?_, ?_, ?_⟩
  · have h' := goes_lo seed a b (n := ((shape % 8 + 1).toNat : Int)) (by omega)
    exact (Int.toNat_of_nonneg h').symm
  · refine atI_nat (j := 0) ?_
    rw [List.getElem?_map, getD_at (by omega)]
    rfl
  · exact cut_names (k := 1) (n := (shape % 8 + 1).toNat) (by omega) rfl (by omega)
  · exact cut_names (k := 9) (n := (shape / 8 % 8 + 1).toNat) (by omega) rfl (by omega)
theorem gset {i : Nat} {x y : V} {σ : St} {H : Hp} {Q : St → Hp → Prop} (e : x = y) (h : gName i y σ H Q) : gName i x σ H Q := by
  rw [e]
  exact h
section
variable {P : Program} {w : World} {K : PySem.W.Frag} {mg : Str → Option Value} {base : Heap}
theorem FnOk.exS {CX : CXT} {k : Nat} {f : Addr} {fd : FuncData} {ps : List Str} {sp : Sys → Sp} (h : ∀ S, S.Ok → FnOk P w K mg base CX k f fd ps (sp S)) : FnOk P w K mg base CX k f fd ps (fun vs H Q E => ∃ S, S.Ok ∧ sp S vs H Q E) :=
  ⟨fun vs H Q E ⟨S, O, q⟩ => (h S O).len vs H Q E q, fun A outer s H args us vs Q E hr e b v ⟨S, O, q⟩ => (h S O).run A outer s H args us vs Q E hr e b v q⟩
/-! ### law(script) -/
def spLaw (K : PySem.W.Frag) : Sp := fun vs H Q _ => ∃ (a : Addr) (ns : List Int), vs = [.ref a] ∧ SqL K H a (ns.map V.int) ∧ ns.length ≤ 63 ∧ ∀ H', Q (.bl true) H'
theorem scLaw : FnScope ["script", "names", "shape", "seed", "kind", "makers", "takers", "rules", "i", "j", "goal", "at", "rows", "leaves", "program", "steps", "stand", "words", "calls", "name", "cell"] ["script"] (defScope sLaw) := ⟨rfl, rfl, rfl, by decide +kernel, rfl, by decide +kernel, by decide +kernel⟩
def exW (C : Addr) : Sp := fun vs H Q E => ∃ S, S.Ok ∧ spWorth S C vs H Q E
def exSp : Sp := fun vs H Q E => ∃ S, S.Ok ∧ spSpent S vs H Q E
theorem ok_law {C f fL fN fG fR fS fW : Addr} {fd dL dN dG dR dS dW : FuncData} {dsW : List Value} (F : Fun K "law" "law" sLaw f fd) (B : Blt mg)
    (cL : Cal P w K mg base CX0 1 "_law_cell_at" ["script", "k"] (spCl K) fL dL) (cN : Cal P w K mg base CX0 1 "_law_names" ["cell"] spNames fN dN) (cG : Cal P w K mg base CX0 1 "_law_goes" ["seed", "i", "j", "many"] spGoes fG dG)
    (cR : Cal P w K mg base CX0 1 "_law_right" ["found", "word", "calls"] spRight fR dR) (cS : Cal P w K mg base CX0 3 "_law_spent" ["program", "words", "bound"] exSp fS dS)
    (cW : Cal P w K mg base (L2.CX P w) 2 "worth" ["program", "words", "most"] (exW C) fW dW) (bW : Binds K dW ["program", "words", "most"] dsW) (vW : Vals [.int 400] dsW) : FnOk P w K mg base CX0 4 f fd ["script"] (spLaw K) := by
  refine F.ok scLaw (fun vs H Q E h => ?_) (fun cdv A outer s H vs Q E hr h => ?_)
  · obtain ⟨a, ns, rfl, _⟩ := h
    rfl
  · obtain ⟨sa, cs, rfl, hS, hlen, q⟩ := h
    have h1 : Room 1 _ := hr.mono (by decide)
    have h2 : Room 2 _ := hr.mono (by decide)
    refine ⟨_, pss_cons (ps_set (i := 1) scLaw.nd rfl (Or.inl rfl) (pe_call cN.F h1 (by rfl) cN.m cN.kp cN.b .nil pass0 (pa_cons (pe_call cL.F h1 (by rfl) cL.m cL.kp cL.b .nil pass0 (pa_cons (pv 0) (pa_cons pe_int pa_nil))) pa_nil)))
      (pss_cons (ps_set (i := 2) scLaw.nd rfl (Or.inl rfl) (pe_call cL.F h1 (by rfl) cL.m cL.kp cL.b .nil pass0 (pa_cons (pv 0) (pa_cons pe_int pa_nil))))
      (pss_cons (ps_set (i := 3) scLaw.nd rfl (Or.inl rfl) (pe_call cL.F h1 (by rfl) cL.m cL.kp cL.b .nil pass0 (pa_cons (pv 0) (pa_cons pe_int pa_nil))))
      (pss_cons (ps_set (i := 4) scLaw.nd rfl (Or.inr rfl) (pe_ix ix_list (pv 1) pe_int (fun _ _ => rfl)))
      (pss_cons (ps_set (i := 5) scLaw.nd rfl (Or.inl rfl) (pe_slice sl_list (pv 1) (po_some pe_int) (po_some (pe_op op_add pe_int (pe_op op_mod (pv 2) pe_int)))))
      (pss_cons (ps_set (i := 6) scLaw.nd rfl (Or.inr rfl) (pe_slice sl_list (pv 1) (po_some pe_int) (po_some (pe_op op_add pe_int (pe_op op_mod (pe_op op_fdiv (pv 2) pe_int) pe_int)))))
      (pss_cons (ps_set (i := 7) scLaw.nd rfl (Or.inl rfl) (pe_lst pa_nil))
      (pss_cons (ps_for PassesOwn.never rfl (pi_range1 (by rfl) B.range (pa_cons (pe_callB call_len_seq (by rfl) B.len PySem.boot_len (pa_cons (pv 6) pa_nil)) pa_nil)) (pg_name (i := 8) scLaw.nd rfl (Or.inl rfl)) (pss_one (ps_for PassesOwn.never rfl (pi_range1 (by rfl) B.range (pa_cons (pe_callB call_len_seq (by rfl) B.len PySem.boot_len (pa_cons (pv 5) pa_nil)) pa_nil)) (pg_name (i := 9) scLaw.nd rfl (Or.inl rfl)) (pss_cons (ps_set (i := 10) scLaw.nd rfl (Or.inl rfl) (pe_ix ix_list (pv 5) (pe_call cG.F h1 (by rfl) cG.m cG.kp cG.b .nil pass0 (pa_cons (pv 3) (pa_cons (pv 8) (pa_cons (pv 9) (pa_cons (pe_callB call_len_seq (by rfl) B.len PySem.boot_len (pa_cons (pv 5) pa_nil)) pa_nil))))) (fun _ _ => rfl)))
      (pss_one (ps_expr (pe_bm PySem.F.plainAttrs_list PySem.F.slot_list_append PySem.F.type_list_append mt_append (pv 7) (pa_cons (pe_tup (pa_cons (pe_ix ix_list (pv 6) (pv 8) (fun _ _ => rfl)) (pa_cons (pe_ix ix_list (pv 5) (pv 9) (fun _ _ => rfl)) (pa_cons (pe_tup pa_nil) (pa_cons (pe_tup (pa_cons (pv 10) pa_nil)) pa_nil))))) pa_nil))))))))
      (pss_cons (ps_set (i := 11) scLaw.nd rfl (Or.inl rfl) (pe_op op_mod (pe_op op_fdiv (pv 2) pe_int) (pe_callB call_len_seq (by rfl) B.len PySem.boot_len (pa_cons (pv 7) pa_nil))))
      (pss_cons (ps_set (i := 12) scLaw.nd rfl (Or.inl rfl) (pe_tupleOf (by rfl) B.tuple (pe_lc (own := [("name", 19)]) (g := gName 19) (tt := tYes) rfl scLaw.nd (pi_list (pv 6)) (blkOk_by (N := ["script", "names", "shape", "seed", "kind", "makers", "takers", "rules", "i", "j", "goal", "at", "rows", "leaves", "program", "steps", "stand", "words", "calls", "name", "cell"]) (sc := defScope sLaw) (by decide +kernel)) (fun _ _ _ _ _ => pg_name (i := 19) scLaw.nd rfl (Or.inl rfl)) (fun _ _ _ _ _ => pts_nil) (fun _ _ _ _ _ => pe_tup (pa_cons (pv 19) (pa_cons (pv 4) (pa_cons (pv 4) (pa_cons (pe_tup pa_nil) pa_nil))))))))
      (pss_cons (ps_set (i := 13) scLaw.nd rfl (Or.inl rfl) (pe_tupleOf (by rfl) B.tuple (pe_lc (own := [("name", 19)]) (g := gName 19) (tt := tYes) rfl scLaw.nd (pi_list (pv 5)) (blkOk_by (N := ["script", "names", "shape", "seed", "kind", "makers", "takers", "rules", "i", "j", "goal", "at", "rows", "leaves", "program", "steps", "stand", "words", "calls", "name", "cell"]) (sc := defScope sLaw) (by decide +kernel)) (fun _ _ _ _ _ => pg_name (i := 19) scLaw.nd rfl (Or.inl rfl)) (fun _ _ _ _ _ => pts_nil) (fun _ _ _ _ _ => pe_tup (pa_cons (pv 19) (pa_cons (pv 4) (pa_cons (pe_tup pa_nil) pa_nil)))))))
      (pss_cons (ps_set (i := 14) scLaw.nd rfl (Or.inl rfl) (pe_tup (pa_cons (pe_tup (pa_cons (pv 4) pa_nil)) (pa_cons (pv 13) (pa_cons (pv 12) (pa_cons (pe_tupleOf (by rfl) B.tuple (pe_op op_cat (pe_slice sl_list (pv 7) (po_some (pv 11)) po_none) (pe_slice sl_list (pv 7) po_none (po_some (pv 11))))) pa_nil))))))
      (pss_cons (ps_setLc (i := 15) (own := [("cell", 20)]) (g := gName 20) (tt := tYes) (te := tOp (rI (fun _ j => 0 < j) fun i j => .int (i % j)) (tVar 20) (tCB (rLen K) (tCons (tVar 6) tNil))) rfl scLaw.nd rfl rfl (sw_true rfl rfl rfl (by decide +kernel)) (pi_list (pe_slice sl_list (pv 0) (po_some pe_int) (po_some pe_int))) (blkOk_by (N := ["script", "names", "shape", "seed", "kind", "makers", "takers", "rules", "i", "j", "goal", "at", "rows", "leaves", "program", "steps", "stand", "words", "calls", "name", "cell"]) (sc := defScope sLaw) (by decide +kernel)) (fun _ _ _ _ _ => pg_name (i := 20) scLaw.nd rfl (Or.inl rfl)) (fun _ _ _ _ _ => pts_nil) (fun _ _ _ _ _ => pe_op op_mod (pv 20) (pe_callB call_len_seq (by rfl) B.len PySem.boot_len (pa_cons (pv 6) pa_nil))))
      (pss_cons (ps_set (i := 16) scLaw.nd rfl (Or.inl rfl) (pe_op op_mod (pe_op op_fdiv (pv 2) pe_int) (pe_callB call_len_seq (by rfl) B.len PySem.boot_len (pa_cons (pv 5) pa_nil))))
      (pss_cons (ps_set (i := 17) scLaw.nd rfl (Or.inl rfl) (pe_tupleOf (by rfl) B.tuple (pe_op op_cat (pe_lc (own := [("i", 8)]) (g := gName 8) (tt := tYes) (te := tOp (rIxL K) (tVar 6) (tVar 8)) rfl scLaw.nd (pi_list (pv 15)) (blkOk_by (N := ["script", "names", "shape", "seed", "kind", "makers", "takers", "rules", "i", "j", "goal", "at", "rows", "leaves", "program", "steps", "stand", "words", "calls", "name", "cell"]) (sc := defScope sLaw) (by decide +kernel)) (fun _ _ _ _ _ => pg_name (i := 8) scLaw.nd rfl (Or.inl rfl)) (fun _ _ _ _ _ => pts_nil) (fun _ _ _ _ _ => pe_ix ix_list (pv 6) (pv 8) (fun _ _ => rfl))) (pe_lst (pa_cons (pe_ix ix_list (pv 5) (pv 16) (fun _ _ => rfl)) pa_nil)))))
      (pss_cons (ps_for PassesOwn.never rfl (RT.pi_revA (by rfl) B.rev (pv 15)) (pg_name (i := 8) scLaw.nd rfl (Or.inl rfl)) (pss_one (ps_set (i := 16) scLaw.nd rfl (Or.inl rfl) (pe_call cG.F h1 (by rfl) cG.m cG.kp cG.b .nil pass0 (pa_cons (pv 3) (pa_cons (pv 8) (pa_cons (pv 16) (pa_cons (pe_callB call_len_seq (by rfl) B.len PySem.boot_len (pa_cons (pv 5) pa_nil)) pa_nil))))))))
      (pss_cons (ps_set (i := 18) scLaw.nd rfl (Or.inl rfl) (pe_callB call_len_seq (by rfl) B.len PySem.boot_len (pa_cons (pv 15) pa_nil)))
      (pss_cut (ps_if (pw_and (pt_cmpR op_gt (pv 18) pe_int (nomark _)) (pw_and1 (pt_not (pt_val (pe_call cS.F hr (by rfl) cS.m cS.kp cS.b .nil pass0 (pa_cons (pv 14) (pa_cons (pv 17) (pa_cons (pe_op op_sub (pv 18) pe_int) pa_nil)))))))).pt (pss_one (ps_ret pe_bl)) pss_nil)
      (pss_cut (ps_if (pt_not (pt_val (pe_call cR.F h1 (by rfl) cR.m cR.kp cR.b .nil pass0 (pa_cons (pe_call cW.F h2 (by rfl) cW.m cW.kp bW vW passL (pa_cons (pv 14) (pa_cons (pv 17) pa_nil))) (pa_cons (pe_ix ix_list (pv 5) (pv 16) (fun _ _ => rfl)) (pa_cons (pv 18) pa_nil)))))) (pss_one (ps_ret pe_bl)) pss_nil)
      (pss_one (ps_ret (pe_call cR.F h1 (by rfl) cR.m cR.kp cR.b .nil pass0 (pa_cons (pe_call cW.F h2 (by rfl) cW.m cW.kp cW.b .nil passL (pa_cons (pv 14) (pa_cons (pv 17) (pa_cons (pv 18) pa_nil)))) (pa_cons (pe_ix ix_list (pv 5) (pv 16) (fun _ _ => rfl)) (pa_cons (pv 18) pa_nil)))))))))))))))))))))))), ?_⟩
    refine ⟨_, rfl, sa, cs, 0, rfl, hS, fun c0 => ?_⟩
    refine ⟨c0, rfl, fun H1 nl ns s1 nn e1 l26 nd => ?_⟩
    refine ⟨_, rfl, sa, cs, 1, rfl, s1.seq hS, fun shape => ?_⟩
    refine ⟨_, rfl, sa, cs, 2, rfl, s1.seq hS, fun seed => ?_⟩
    obtain ⟨S, O, hm0, ht0, hg, hkd, eM, eT⟩ := sys_of l26 nd shape seed
    have m8 := O.m8
    have t8 := O.t8
    have line : 1000 ≤ sizeLine := by decide
    -- kind, makers, takers
    refine ⟨_, rfl, nl, _, _, V.str S.kd, rfl, rfl, SqL.of e1, hkd, ?_⟩
    refine ⟨_, rfl, _, rfl, _, rfl, _, _, rfl, rfl, (by show (0 : Int) < 8; decide), _, _, rfl, rfl, _, rfl, nl, _, rfl, SqL.of e1, fun ml hml => ?_⟩
    rw [eM]
    refine ⟨_, rfl, _, rfl, _, rfl, _, _, rfl, rfl, ⟨by decide, by decide⟩, _, _, rfl, rfl, (by show (0 : Int) < 8; decide), _, _, rfl, rfl, _, rfl, nl, _, rfl, SqL.of (by rw [upd_ne (ne_of_none e1 hml)]; exact e1), fun tl htl => ?_⟩
    rw [eT]
    have nmt : ml ≠ tl := by
      intro z
      subst z
      rw [upd_same] at htl
      cases htl
    have sB : Same H (upd (upd H1 ml (.lst (mkV S))) tl (.lst (tkV S))) := same_put (same_put s1 (s1.free hml)) (s1.free (upd_free htl).1)
    have bM : (upd (upd H1 ml (.lst (mkV S))) tl (.lst (tkV S))) ml = some (.lst (mkV S)) := by rw [upd_ne nmt, upd_same]
    have bT : (upd (upd H1 ml (.lst (mkV S))) tl (.lst (tkV S))) tl = some (.lst (tkV S)) := upd_same
    generalize upd (upd H1 ml (.lst (mkV S))) tl (.lst (tkV S)) = HB at sB bM bT
    -- rules
    refine ⟨Nat.zero_le _, fun rl hrl => ?_⟩
    refine ⟨_, rfl, tl, _, rfl, .inl (SqL.of (same_put (Same.refl HB) hrl _ _ bT)), _, rfl, ?_, ?_, for_range (lo := 0) (n := (tkV S).length) (fun i σ H' => ∃ iv jv gv us, σ = [some (.ref sa), some (.ref nl), some (.int shape), some (.int seed), some (.str S.kd), some (.ref ml), some (.ref tl), some (.ref rl), iv, jv, gv, none, none, none, none, none, none, none, none, none, none] ∧
        Same HB H' ∧ H' rl = some (.lst (us.map V.ref)) ∧ Rls S H' us i 0) ⟨none, none, none, [], rfl, same_put (Same.refl HB) hrl, upd_same, Rls.zero S _⟩ ?_ ?_⟩
    · rw [tkV_len]; omega
    · rw [tkV_len]; omega
    · rintro i σ H' hi ⟨iv, jv, gv, us, rfl, hs, hR, hU⟩
      rw [tkV_len] at hi
      refine ⟨_, rfl, ml, _, rfl, .inl (SqL.of (hs _ _ bM)), _, rfl, ?_, ?_, for_range (lo := 0) (n := (mkV S).length) (fun j σ H' => ∃ jv gv us, σ = [some (.ref sa), some (.ref nl), some (.int shape), some (.int seed), some (.str S.kd), some (.ref ml), some (.ref tl), some (.ref rl), some (.int (0 + (i : Int))), jv, gv, none, none, none, none, none, none, none, none, none, none] ∧
        Same HB H' ∧ H' rl = some (.lst (us.map V.ref)) ∧ Rls S H' us i j) ⟨jv, gv, us, rfl, hs, hR, hU⟩ ?_ ?_⟩
      · rw [mkV_len]; omega
      · rw [mkV_len]; omega
      · rintro j σ H' hj ⟨jv, gv, us, rfl, hs, hR, hU⟩
        rw [mkV_len] at hj
        have eg : goesI seed (0 + (i : Int)) (0 + (j : Int)) ((mkV S).length : Int) = (S.g i j : Int) := by rw [mkV_len, Int.zero_add, Int.zero_add]; exact hg i j
        have hgl := O.gl i j hi hj
        refine ⟨_, rfl, _, rfl, _, rfl, _, rfl, _, rfl, ml, _, rfl, .inl (SqL.of (hs _ _ bM)), seed, _, _, _, rfl, by omega, by omega, by omega, by omega, (by rw [mkV_len]; omega), ?_⟩
        refine ⟨ml, _, _, V.str (S.mak (S.g i j)), rfl, rfl, SqL.of (hs _ _ bM), at_range (fun i => V.str (S.mak i)) hgl eg, ?_⟩
        refine ⟨_, rfl, .inl ⟨rfl, _, SqL.of hR⟩, _, rfl, _, rfl, tl, _, _, V.str (S.tak i), rfl, rfl, SqL.of (hs _ _ bT), at_range (fun i => V.str (S.tak i)) hi (by omega), _, rfl, _, rfl, ml, _, _, V.str (S.mak j), rfl, rfl, SqL.of (hs _ _ bM), at_range (fun i => V.str (S.mak i)) hj (by omega), Nat.zero_le _, fun e he => ?_⟩
        refine ⟨_, rfl, (by show 1 ≤ sizeLine; decide), fun x hx => ⟨(by show 4 ≤ sizeLine; decide), fun r hr => ?_⟩⟩
        have nex : e ≠ x := ne_of_none (H := upd H' e (.tup [])) upd_same hx
        have ner : e ≠ r := ne_of_none (H := upd (upd H' e (.tup [])) x (.tup [.str (S.mak (S.g i j))])) (by rw [upd_ne nex, upd_same]) hr
        have nxr : x ≠ r := ne_of_none (H := upd (upd H' e (.tup [])) x (.tup [.str (S.mak (S.g i j))])) upd_same hr
        have sR : Same H' (upd (upd (upd H' e (.tup [])) x (.tup [.str (S.mak (S.g i j))])) r (.tup [.str (S.tak i), .str (S.mak j), .ref e, .ref x])) := same_put (same_put (same_put (Same.refl H') he) (upd_free hx).1) (upd_free (upd_free hr).1).1
        have qR : RuleAt S (upd (upd (upd H' e (.tup [])) x (.tup [.str (S.mak (S.g i j))])) r (.tup [.str (S.tak i), .str (S.mak j), .ref e, .ref x])) r i j := ⟨e, x, upd_same, by rw [upd_ne ner, upd_ne nex, upd_same], by rw [upd_ne nxr, upd_same]⟩
        generalize upd (upd (upd H' e (.tup [])) x (.tup [.str (S.mak (S.g i j))])) r (.tup [.str (S.tak i), .str (S.mak j), .ref e, .ref x]) = HR at sR qR
        have kR : Kept HR (upd HR rl (.lst ((us ++ [r]).map V.ref))) := (Kept.refl HR).put (.inr ⟨_, sR _ _ hR⟩)
        refine ⟨rl, _, _, rfl, rfl, sR _ _ hR, ?_, ?_⟩
        · have := hU.small O (by omega) (by omega) (by omega)
          rw [List.length_map]
          omega
        · refine ⟨_, _, us ++ [r], rfl, same_put (hs.trans sR) hrl, ?_, ?_⟩
          · rw [upd_same, List.map_append]
            rfl
          · have z := Rls.step ((Kept.of sR).trans kR) hU hi hj (qR.kept kR)
            rw [List.map_append] at z
            exact z
      · rintro σ H' ⟨jv, gv, us, rfl, hs, hR, hU⟩
        rw [mkV_len] at hU
        exact ⟨_, _, _, us, rfl, hs, hR, hU.row⟩
    · rintro σ HC ⟨iv, jv, gv, us, rfl, hs, hR, hU⟩
      rw [tkV_len] at hU
      have us64 := hU.small O (Nat.le_refl _) (fun _ => rfl) (Nat.zero_le _)
      have us0 : 0 < us.length := by
        rw [hU.n]
        exact Nat.lt_of_lt_of_le (Nat.mul_pos ht0 hm0) (Nat.le_add_right _ _)
      -- at
      refine ⟨_, rfl, _, _, rfl, rfl, ⟨by decide, by decide⟩, _, rfl, rl, _, rfl, .inl (SqL.of hR), _, _, rfl, rfl, (by rw [List.length_map]; omega), ?_⟩
      obtain ⟨k, ek, hk⟩ : ∃ k : Nat, shape / 64 % ((us.map V.ref).length : Int) = (k : Int) ∧ k ≤ us.length := by
        rw [List.length_map]
        have x0 := Int.emod_nonneg (shape / 64) (b := (us.length : Int)) (by omega)
        have x1 := Int.emod_lt_of_pos (shape / 64) (b := (us.length : Int)) (by omega)
        exact ⟨(shape / 64 % (us.length : Int)).toNat, by omega, by omega⟩
      refine gset (congrArg V.int ek) ?_
      have sC : Same H HC := sB.trans hs
      have cM := hs _ _ bM
      have cT := hs _ _ bT
      clear hs hrl sB bM bT
      -- rows
      refine ⟨_, rfl, tl, rfl, ⟨_, SqL.of cT⟩, fun D hD => ?_⟩
      refine lc_list (K := K) (a := tl) (xs := tkV S) (fun i H' => ∃ rs : List Addr, Same HC H' ∧ H' D = some (.lst (rs.map V.ref)) ∧ rs.length = i ∧ ∀ j a, rs[j]? = some a → RowAt S.kd H' a (S.tak j)) ⟨[], same_put (Same.refl HC) hD, upd_same, rfl, fun j a e => by cases e⟩ (fun i H' _ ⟨_, h, _⟩ => SqL.of (h _ _ cT)) ?_ ?_
      · rintro i y H' hi ⟨rs, hs, hL, hn, hx⟩
        obtain ⟨hi, rfl⟩ := range_at hi
        refine ⟨rfl, _, rfl, _, rfl, _, rfl, Nat.zero_le _, fun e he => ⟨(by show 4 ≤ sizeLine; decide), fun r hr => ?_⟩⟩
        have ner : e ≠ r := ne_of_none (H := upd H' e (.tup [])) upd_same hr
        have sR : Same H' (upd (upd H' e (.tup [])) r (.tup [.str (S.tak i), .str S.kd, .str S.kd, .ref e])) := same_put (same_put (Same.refl H') he) (upd_free hr).1
        have qR : RowAt S.kd (upd (upd H' e (.tup [])) r (.tup [.str (S.tak i), .str S.kd, .str S.kd, .ref e])) r (S.tak i) := ⟨e, upd_same, by rw [upd_ne ner, upd_same]⟩
        generalize upd (upd H' e (.tup [])) r (.tup [.str (S.tak i), .str S.kd, .str S.kd, .ref e]) = HR at sR qR
        have kR : Kept HR (upd HR D (.lst (rs.map V.ref ++ [.ref r]))) := (Kept.refl HR).put (.inr ⟨_, sR _ _ hL⟩)
        refine ⟨_, sR _ _ hL, ?_, rs ++ [r], same_put (hs.trans sR) hD, ?_, ?_, fun j a ej => ?_⟩
        · rw [List.length_map]
          omega
        · rw [upd_same, List.map_append]
          rfl
        · rw [List.length_append, hn]
          rfl
        · rcases Nat.lt_or_ge j rs.length with z | z
          · rw [List.getElem?_append_left z] at ej
            exact ((hx j a ej).kept (Kept.of sR)).kept kR
          · rw [List.getElem?_append_right z] at ej
            have e0 : j - rs.length = 0 := by
              have := ix_lt ej
              simp at this
              omega
            rw [e0] at ej
            obtain rfl : r = a := by simpa using ej
            have e1 : j = i := by omega
            rw [e1]
            exact qR.kept kR
      · rintro HD ⟨rs, sD, dL, rn, rx⟩
        rw [tkV_len] at rn
        refine .inl ⟨D, _, rfl, SqL.of dL, fun rw_ hrw => ?_⟩
        have k1 : Same HD (upd HD rw_ (.tup (rs.map V.ref))) := same_put (Same.refl HD) hrw
        have rw1 : (upd HD rw_ (.tup (rs.map V.ref))) rw_ = some (.tup (rs.map V.ref)) := upd_same
        have rx1 : ∀ j a, rs[j]? = some a → RowAt S.kd (upd HD rw_ (.tup (rs.map V.ref))) a (S.tak j) := fun j a e => (rx j a e).kept (Kept.of k1)
        have sE := sD.trans k1
        generalize upd HD rw_ (.tup (rs.map V.ref)) = HE at sE rw1 rx1
        clear k1 hrw dL rx sD hD
        have eM := sE _ _ cM
        -- leaves
        refine ⟨_, rfl, ml, rfl, ⟨_, SqL.of eM⟩, fun D hD => ?_⟩
        refine lc_list (K := K) (a := ml) (xs := mkV S) (fun i H' => ∃ rs : List Addr, Same HE H' ∧ H' D = some (.lst (rs.map V.ref)) ∧ rs.length = i ∧ ∀ j a, rs[j]? = some a → LeafAt S.kd H' a (S.mak j)) ⟨[], same_put (Same.refl HE) hD, upd_same, rfl, fun j a e => by cases e⟩ (fun i H' _ ⟨_, h, _⟩ => SqL.of (h _ _ eM)) ?_ ?_
        · rintro i y H' hi ⟨ls, hs, hL, hn, hx⟩
          obtain ⟨hi, rfl⟩ := range_at hi
          refine ⟨rfl, _, rfl, _, rfl, Nat.zero_le _, fun e he => ⟨(by show 3 ≤ sizeLine; decide), fun r hr => ?_⟩⟩
          have ner : e ≠ r := ne_of_none (H := upd H' e (.tup [])) upd_same hr
          have sR : Same H' (upd (upd H' e (.tup [])) r (.tup [.str (S.mak i), .str S.kd, .ref e])) := same_put (same_put (Same.refl H') he) (upd_free hr).1
          have qR : LeafAt S.kd (upd (upd H' e (.tup [])) r (.tup [.str (S.mak i), .str S.kd, .ref e])) r (S.mak i) := ⟨e, upd_same, by rw [upd_ne ner, upd_same]⟩
          generalize upd (upd H' e (.tup [])) r (.tup [.str (S.mak i), .str S.kd, .ref e]) = HR at sR qR
          have kR : Kept HR (upd HR D (.lst (ls.map V.ref ++ [.ref r]))) := (Kept.refl HR).put (.inr ⟨_, sR _ _ hL⟩)
          refine ⟨_, sR _ _ hL, ?_, ls ++ [r], same_put (hs.trans sR) hD, ?_, ?_, fun j a ej => ?_⟩
          · rw [List.length_map]
            omega
          · rw [upd_same, List.map_append]
            rfl
          · rw [List.length_append, hn]
            rfl
          · rcases Nat.lt_or_ge j ls.length with z | z
            · rw [List.getElem?_append_left z] at ej
              exact ((hx j a ej).kept (Kept.of sR)).kept kR
            · rw [List.getElem?_append_right z] at ej
              have e0 : j - ls.length = 0 := by
                have := ix_lt ej
                simp at this
                omega
              rw [e0] at ej
              obtain rfl : r = a := by simpa using ej
              have e1 : j = i := by omega
              rw [e1]
              exact qR.kept kR
        · rintro HF ⟨ls, sF, dL, ln, lx⟩
          rw [mkV_len] at ln
          refine .inl ⟨D, _, rfl, SqL.of dL, fun lv hlv => ?_⟩
          have k1 : Same HF (upd HF lv (.tup (ls.map V.ref))) := same_put (Same.refl HF) hlv
          have lv1 : (upd HF lv (.tup (ls.map V.ref))) lv = some (.tup (ls.map V.ref)) := upd_same
          have lx1 : ∀ j a, ls[j]? = some a → LeafAt S.kd (upd HF lv (.tup (ls.map V.ref))) a (S.mak j) := fun j a e => (lx j a e).kept (Kept.of k1)
          have sG := sF.trans k1
          generalize upd HF lv (.tup (ls.map V.ref)) = HG at sG lv1 lx1
          clear k1 hlv dL lx sF hD
          -- program
          have sCG := sE.trans sG
          refine ⟨_, rfl, (by show 1 ≤ sizeLine; decide), fun k0 hk0 => ?_⟩
          have g1 : Same HG (upd HG k0 (.tup [.str S.kd])) := same_put (Same.refl HG) hk0
          have k01 : (upd HG k0 (.tup [.str S.kd])) k0 = some (.tup [.str S.kd]) := upd_same
          generalize upd HG k0 (.tup [.str S.kd]) = HH at g1 k01
          have rH := g1 _ _ (sCG _ _ hR)
          refine ⟨_, rfl, _, rfl, _, rfl, _, rfl, _, rfl, rl, _, rfl, SqL.of rH, fun d1 hd1 => ?_⟩
          refine ⟨_, rfl, _, rfl, _, rfl, rl, _, rfl, SqL.of (same_put (Same.refl HH) hd1 _ _ rH), fun d2 hd2 => ?_⟩
          rw [cut_lo hk, cut_hi hk] at *
          have n1 : rl ≠ d1 := ne_of_none rH hd1
          have n12 : d1 ≠ d2 := ne_of_none (H := upd HH d1 (.lst ((us.drop k).map V.ref))) upd_same hd2
          have g2 : Same HH (upd (upd HH d1 (.lst ((us.drop k).map V.ref))) d2 (.lst ((us.take k).map V.ref))) := same_put (same_put (Same.refl HH) hd1) (upd_free hd2).1
          have d1e : (upd (upd HH d1 (.lst ((us.drop k).map V.ref))) d2 (.lst ((us.take k).map V.ref))) d1 = some (.lst ((us.drop k).map V.ref)) := by rw [upd_ne n12, upd_same]
          have d2e : (upd (upd HH d1 (.lst ((us.drop k).map V.ref))) d2 (.lst ((us.take k).map V.ref))) d2 = some (.lst ((us.take k).map V.ref)) := upd_same
          generalize upd (upd HH d1 (.lst ((us.drop k).map V.ref))) d2 (.lst ((us.take k).map V.ref)) = H2 at g2 d1e d2e
          refine ⟨d1, d2, _, _, rfl, rfl, d1e, d2e, ?_, fun d3 hd3 => .inl ⟨d3, _, rfl, SqL.of upd_same, fun p3 hp3 => ?_⟩⟩
          · rw [List.length_map, List.length_map, List.length_drop, List.length_take]
            omega
          have g3 : Same H2 (upd (upd H2 d3 (.lst ((us.drop k).map V.ref ++ (us.take k).map V.ref))) p3 (.tup ((us.drop k).map V.ref ++ (us.take k).map V.ref))) := same_put (same_put (Same.refl H2) hd3) (upd_free hp3).1
          have p3e : (upd (upd H2 d3 (.lst ((us.drop k).map V.ref ++ (us.take k).map V.ref))) p3 (.tup ((us.drop k).map V.ref ++ (us.take k).map V.ref))) p3 = some (.tup ((us.drop k ++ us.take k).map V.ref)) := by rw [upd_same, List.map_append]
          generalize upd (upd H2 d3 (.lst ((us.drop k).map V.ref ++ (us.take k).map V.ref))) p3 (.tup ((us.drop k).map V.ref ++ (us.take k).map V.ref)) = HI at g3 p3e
          refine ⟨(by show 4 ≤ sizeLine; decide), fun p hp => ?_⟩
          have sJ : Same HI (upd HI p (.tup [.ref k0, .ref lv, .ref rw_, .ref p3])) := same_put (Same.refl HI) hp
          have sGJ : Same HG (upd HI p (.tup [.ref k0, .ref lv, .ref rw_, .ref p3])) := ((g1.trans g2).trans g3).trans sJ
          have memL : ∀ r, r ∈ us.drop k ++ us.take k ↔ r ∈ us := fun r => by
            have e : r ∈ us.take k ++ us.drop k ↔ r ∈ us := by rw [List.take_append_drop]
            rw [← e, List.mem_append, List.mem_append]
            exact Or.comm
          have prog : ProgAt S (upd HI p (.tup [.ref k0, .ref lv, .ref rw_, .ref p3])) p := by
            have hU' := hU.kept (Kept.of (sCG.trans sGJ))
            refine ⟨k0, lv, rw_, p3, ls, rs, us.drop k ++ us.take k, upd_same, sGJ _ _ lv1, ln, fun j a e => (lx1 j a e).kept (Kept.of sGJ), sGJ _ _ (sG _ _ rw1), rn, fun j a e => (rx1 j a e).kept (Kept.of (sG.trans sGJ)), sJ _ _ p3e, ?_, fun r hr => hU'.f r ((memL r).mp hr), fun a b ha hb => ?_⟩
            · rw [List.length_append, List.length_drop, List.length_take]
              omega
            · obtain ⟨r, hr, z⟩ := hU'.c a b ha hb (.inl ha)
              exact ⟨r, (memL r).mpr hr, z⟩
          have sCJ := sCG.trans sGJ
          generalize upd HI p (.tup [.ref k0, .ref lv, .ref rw_, .ref p3]) = HJ at prog sCJ
          have jM := sCJ _ _ cM
          have jT := sCJ _ _ cT
          have sJ0 := sC.trans sCJ
          clear hp p3e hp3 hd3 d1e d2e hd2 hd1 hk0 k01 lv1 lx1 rw1 rx1 sJ sGJ g1 g2 g3 sG sE sCG hU hR cM cT memL rH eM sC
          -- steps
          obtain ⟨ds, ed, ld⟩ := cut_ints cs (some 3) (some 123)
          refine ⟨_, rfl, _, rfl, _, rfl, sa, _, rfl, sJ0.seq hS, fun sl hsl => ?_⟩
          rw [ed]
          refine ⟨sl, rfl, ⟨_, SqL.of upd_same⟩, fun D hD => ?_⟩
          have s1' : Same HJ (upd HJ sl (.lst (ds.map V.int))) := same_put (Same.refl HJ) hsl
          have sle : (upd HJ sl (.lst (ds.map V.int))) sl = some (.lst (ds.map V.int)) := upd_same
          generalize upd HJ sl (.lst (ds.map V.int)) = HL at s1' sle hD
          have lM := s1' _ _ jM
          have lT := s1' _ _ jT
          refine lc_list (K := K) (a := sl) (xs := ds.map V.int) (fun i H' => ∃ ts : List Nat, Same HL H' ∧ H' D = some (.lst (ts.map fun t : Nat => V.int (t : Int))) ∧ ts.length = i ∧ ∀ t ∈ ts, t < S.nt) ⟨[], same_put (Same.refl HL) hD, upd_same, rfl, fun t ht => by cases ht⟩ (fun i H' _ ⟨_, h, _⟩ => SqL.of (h _ _ sle)) ?_ ?_
          · rintro i y H' hi ⟨ts, hs, hL, hn, hx⟩
            have hi63 : i < ds.length := by
              have := ix_lt hi
              rw [List.length_map] at this
              exact this
            obtain ⟨c, rfl⟩ : ∃ c, y = V.int c := by
              rw [List.getElem?_map] at hi
              cases e : ds[i]? with
              | none => rw [e] at hi; cases hi
              | some c => rw [e] at hi; exact ⟨c, (Option.some.inj hi).symm⟩
            obtain ⟨t, et, ht⟩ : ∃ t : Nat, c % ((tkV S).length : Int) = (t : Int) ∧ t < S.nt := by
              rw [tkV_len]
              have x0 := Int.emod_nonneg c (b := (S.nt : Int)) (by omega)
              have x1 := Int.emod_lt_of_pos c (b := (S.nt : Int)) (by omega)
              exact ⟨(c % (S.nt : Int)).toNat, by omega, by omega⟩
            refine ⟨rfl, _, rfl, _, rfl, tl, _, rfl, .inl (SqL.of (hs _ _ lT)), _, _, rfl, rfl, (by rw [tkV_len]; omega), _, hL, ?_, ts ++ [t], same_put hs hD, ?_, ?_, fun x hx' => ?_⟩
            · rw [List.length_map]
              omega
            · rw [upd_same, List.map_append]
              show some (HO.lst (_ ++ [V.int (c % ((tkV S).length : Int))])) = _
              rw [et]
              rfl
            · rw [List.length_append, hn]
              rfl
            · rcases List.mem_append.mp hx' with z | z
              · exact hx x z
              · obtain rfl : x = t := by simpa using z
                exact ht
          · rintro HM ⟨ts, sM, dL, tn, tx⟩
            rw [List.length_map] at tn
            have mM := sM _ _ lM
            have mT := sM _ _ lT
            have progM := prog.kept (Kept.of (s1'.trans sM))
            clear prog s1' sM sle lM lT jM jT sCJ sJ0
            -- stand
            refine ⟨_, rfl, _, _, rfl, rfl, ⟨by decide, by decide⟩, _, rfl, ml, _, rfl, .inl (SqL.of mM), _, _, rfl, rfl, (by rw [mkV_len]; omega), ?_⟩
            obtain ⟨m, em, hm⟩ : ∃ m : Nat, shape / 640 % ((mkV S).length : Int) = (m : Int) ∧ m < S.nm := by
              rw [mkV_len]
              have x0 := Int.emod_nonneg (shape / 640) (b := (S.nm : Int)) (by omega)
              have x1 := Int.emod_lt_of_pos (shape / 640) (b := (S.nm : Int)) (by omega)
              exact ⟨(shape / 640 % (S.nm : Int)).toNat, by omega, by omega⟩
            refine gset (congrArg V.int em) ?_
            -- words
            refine ⟨_, rfl, D, rfl, ⟨_, SqL.of dL⟩, fun D2 hD2 => ?_⟩
            refine lc_list (K := K) (a := D) (xs := ts.map fun t : Nat => V.int (t : Int)) (fun i H' => Same HM H' ∧ H' D2 = some (.lst (wdV S (ts.take i)))) ⟨same_put (Same.refl HM) hD2, upd_same⟩ (fun i H' _ h => SqL.of (h.1 _ _ dL)) ?_ ?_
            · rintro i y H' hi ⟨hs, hL⟩
              obtain ⟨t, hti, rfl⟩ : ∃ t : Nat, ts[i]? = some t ∧ y = V.int (t : Int) := by
                rw [List.getElem?_map] at hi
                cases e : ts[i]? with
                | none => rw [e] at hi; cases hi
                | some c => rw [e] at hi; exact ⟨c, rfl, (Option.some.inj hi).symm⟩
              have ht := tx t (List.mem_of_getElem? hti)
              have hil := ix_lt hti
              refine ⟨rfl, _, rfl, _, rfl, tl, _, _, V.str (S.tak t), rfl, rfl, SqL.of (hs _ _ mT), at_range (fun i => V.str (S.tak i)) ht rfl, _, hL, ?_, same_put hs hD2, ?_⟩
              · unfold wdV
                rw [List.length_map, List.length_take]
                omega
              · rw [upd_same, List.take_add_one, hti]
                unfold wdV
                rw [List.map_append]
                rfl
            · rintro HN ⟨sN, d2L⟩
              rw [List.length_map, List.take_length] at d2L
              refine ⟨_, rfl, _, rfl, ml, _, _, V.str (S.mak m), rfl, rfl, SqL.of (sN _ _ mM), at_range (fun i => V.str (S.mak i)) hm rfl, (by show 1 ≤ sizeLine; decide), fun l hl => ?_⟩
              have n2 : D2 ≠ l := ne_of_none d2L hl
              refine ⟨D2, l, _, _, rfl, rfl, (by rw [upd_ne n2]; exact d2L), upd_same, ?_, fun l2 hl2 => .inl ⟨l2, _, rfl, SqL.of upd_same, fun wd hwd => ?_⟩⟩
              · unfold wdV
                rw [List.length_map]
                show ts.length + 1 ≤ sizeLine
                omega
              have sX : Same HM (upd (upd (upd HN l (.lst [.str (S.mak m)])) l2 (.lst (wdV S ts ++ [.str (S.mak m)]))) wd (.tup (wdV S ts ++ [.str (S.mak m)]))) := same_put (same_put (same_put sN (sN.free hl)) (sN.free (upd_free hl2).1)) (sN.free (upd_free (upd_free hwd).1).1)
              have xW : (upd (upd (upd HN l (.lst [.str (S.mak m)])) l2 (.lst (wdV S ts ++ [.str (S.mak m)]))) wd (.tup (wdV S ts ++ [.str (S.mak m)]))) wd = some (.tup (wdV S ts ++ [.str (S.mak m)])) := upd_same
              generalize upd (upd (upd HN l (.lst [.str (S.mak m)])) l2 (.lst (wdV S ts ++ [.str (S.mak m)]))) wd (.tup (wdV S ts ++ [.str (S.mak m)])) = HX at sX xW
              have xM := sX _ _ mM
              have xD := sX _ _ dL
              have progX := progM.kept (Kept.of sX)
              clear sX sN d2L hl2 hl hD2 progM mM mT dL hwd
              -- the mirror: the last word's maker
              refine ⟨_, rfl, D, _, rfl, .inl ⟨SqL.of xD, RT.for_Itv (K := K) (xs := ts.map fun t : Nat => V.int (t : Int)) (fun i σ H' => ∃ iv, σ = [some (.ref sa), some (.ref nl), some (.int shape), some (.int seed), some (.str S.kd), some (.ref ml), some (.ref tl), some (.ref rl), iv, jv, gv, some (.int (k : Int)), some (.ref rw_), some (.ref lv), some (.ref p), some (.ref D), some (.int (((ts.drop (ts.length - i)).foldr S.g m : Nat) : Int)), some (.ref wd), none, none, none] ∧ H' = HX) ⟨iv, ?_, rfl⟩ (fun i σ H' h => by obtain ⟨_, _, rfl⟩ := h; exact SqL.of xD) ?_ ?_⟩⟩
              · rw [Nat.sub_zero, List.drop_length]
                rfl
              · rintro i y σ H' hi hy ⟨iv, rfl, rfl⟩
                rw [List.length_map] at hi hy
                have e2 : ts.drop (ts.length - (i + 1)) = ts[ts.length - (i + 1)]'(by omega) :: ts.drop (ts.length - i) := by
                  have e3 : ts.length - i = ts.length - (i + 1) + 1 := by omega
                  rw [e3]
                  exact List.drop_eq_getElem_cons (by omega)
                obtain ⟨t, ht, rfl⟩ : ∃ t : Nat, ts[ts.length - (i + 1)]'(by omega) = t ∧ y = V.int (t : Int) := by
                  refine ⟨_, rfl, ?_⟩
                  have e4 : ts.length - 1 - i = ts.length - (i + 1) := by omega
                  rw [e4, List.getElem?_map, List.getElem?_eq_getElem (by omega)] at hy
                  exact (Option.some.inj hy).symm
                have htn : t < S.nt := by
                  rw [← ht]
                  exact tx _ (List.getElem_mem ..)
                have hb : (ts.drop (ts.length - i)).foldr S.g m < S.nm := fold_lt O hm fun a ha => tx a (List.mem_of_mem_drop ha)
                refine ⟨_, rfl, _, rfl, _, rfl, _, rfl, ml, _, rfl, .inl (SqL.of xM), seed, _, _, _, rfl, by omega, by omega, by omega, by omega, (by rw [mkV_len]; omega), ?_⟩
                have eg : goesI seed (t : Int) (((ts.drop (ts.length - i)).foldr S.g m : Nat) : Int) ((mkV S).length : Int) = ((S.g t ((ts.drop (ts.length - i)).foldr S.g m) : Nat) : Int) := by rw [mkV_len]; exact hg t _
                refine gset (congrArg V.int eg) ?_
                refine ⟨some (V.int (t : Int)), ?_, rfl⟩
                rw [e2, ht]
                rfl
              · rintro σ HX ⟨iv, rfl, rfl⟩
                rw [List.length_map, Nat.sub_self, List.drop_zero]
                have hst : ts.foldr S.g m < S.nm := fold_lt O hm tx
                have t120 : ts.length ≤ 120 := by omega
                -- calls
                refine ⟨_, rfl, D, _, rfl, .inl (SqL.of xD), ?_⟩
                refine gset (congrArg (fun n : Nat => V.int (n : Int)) (List.length_map _)) ?_
                -- _law_spent
                refine ⟨fun σ' H' => σ' = [some (.ref sa), some (.ref nl), some (.int shape), some (.int seed), some (.str S.kd), some (.ref ml), some (.ref tl), some (.ref rl), iv, jv, gv, some (.int (k : Int)), some (.ref rw_), some (.ref lv), some (.ref p), some (.ref D), some (.int ((ts.foldr S.g m : Nat) : Int)), some (.ref wd), some (.int (ts.length : Int)), none, none] ∧ Same HX H', ?_, ?_⟩
                · refine ⟨_, rfl, _, _, rfl, rfl, _, rfl, ?_⟩
                  by_cases c : 0 < ts.length
                  · refine ifY (decide_eq_true (by omega)) ?_
                    exact ⟨_, rfl, _, rfl, _, rfl, _, _, rfl, rfl, S, O, p, wd, ts, m, _, rfl, progX, xW, tx, hm, t120, by omega, by omega, fun H' hs => ⟨true, rfl, ifN rfl ⟨rfl, hs⟩⟩⟩
                  · exact ifN (decide_eq_false (by omega)) (ifN rfl ⟨rfl, Same.refl _⟩)
                · rintro σ HY ⟨rfl, sY⟩
                  have yM := sY _ _ xM
                  have yW := sY _ _ xW
                  have progY := progX.kept (Kept.of sY)
                  refine ⟨fun σ' H' => σ' = [some (.ref sa), some (.ref nl), some (.int shape), some (.int seed), some (.str S.kd), some (.ref ml), some (.ref tl), some (.ref rl), iv, jv, gv, some (.int (k : Int)), some (.ref rw_), some (.ref lv), some (.ref p), some (.ref D), some (.int ((ts.foldr S.g m : Nat) : Int)), some (.ref wd), some (.int (ts.length : Int)), none, none] ∧ Same HX H', ?_, ?_⟩
                  · refine ⟨_, rfl, _, rfl, S, O, p, wd, ts, m, 400, rfl, progY, yW, tx, hm, t120, by decide, fun lt => absurd lt (by omega), fun _ H2 r u s2 er eu => ?_⟩
                    exact ⟨_, rfl, _, rfl, ml, _, _, V.str (S.mak (ts.foldr S.g m)), rfl, rfl, SqL.of (s2 _ _ yM), at_range (fun i => V.str (S.mak i)) hst rfl, _, rfl, r, u, _, _, rfl, er, eu, fun H3 s3 => ⟨true, rfl, ifN rfl ⟨rfl, (sY.trans s2).trans s3⟩⟩⟩
                  · rintro σ HZ ⟨rfl, sZ⟩
                    refine ⟨_, rfl, _, rfl, _, rfl, S, O, p, wd, ts, m, _, rfl, progX.kept (Kept.of sZ), sZ _ _ xW, tx, hm, t120, by omega, fun lt => absurd lt (by omega), fun _ H2 r u s2 er eu => ?_⟩
                    exact ⟨_, rfl, _, rfl, ml, _, _, V.str (S.mak (ts.foldr S.g m)), rfl, rfl, SqL.of (s2 _ _ (sZ _ _ xM)), at_range (fun i => V.str (S.mak i)) hst rfl, _, rfl, r, u, _, _, rfl, er, eu, fun H3 s3 => q H3⟩
end
end Mine

namespace Mine
open PySem L2
theorem exm_self {K : PySem.W.Frag} {S : Addr} (h1 : PySem.W.subIn K (.ref S) (.type "BaseException") = some true) (h2 : PySem.W.isClsIn K S = true) (h3 : PySem.W.typeIn K (.ref S) = some (.type "type")) (h4 : PySem.W.subIn K (.ref S) (.ref S) = some true) :
    PySem.W.exmOne K (.ref S) (.ref S) = some true := by
  have e1 : (PySem.W.subIn K (.ref S) (.type "BaseException") == some true) = true := by rw [h1] <;> rfl
  have e2 : ((PySem.W.clsIn K S).isSome && PySem.W.typeIn K (.ref S) == some (.type "type")) = true := by
    have h2' : (PySem.W.clsIn K S).isSome = true := h2
    rw [h2', h3] <;> rfl
  show (if (PySem.W.subIn K (.ref S) (.type "BaseException") == some true) = true then (if ((PySem.W.clsIn K S).isSome && PySem.W.typeIn K (.ref S) == some (.type "type")) = true then PySem.W.subIn K (.ref S) (.ref S) else none) else none) = some true
  rw [if_pos e1, if_pos e2]
  exact h4
theorem all_mk {l : PySem.W.OpenLaw} {w : World} {K : PySem.W.Frag} {h : Heap} {mg : Str → Option Value} {fa : Addr} {fh fq fo fv fw fn fp fx fe fm fg fr ft fz C T : Addr} {od_T : Option Addr} {oc_T : Value} {sl_T : Array (Option Value)} {tk_T : Tok} {n_T : Nat} (X : K.In h) (G : h.Ns mainGlobals mg) (hfa : mg "law" = some (.ref fa))
    {od_h an_h od_q an_q od_o an_o od_v an_v od_w an_w od_n an_n od_p an_p od_x an_x od_e an_e od_m an_m od_g an_g od_r an_r od_t an_t od_z an_z : Option Addr} {sl_h sl_q sl_o sl_v sl_w sl_n sl_p sl_x sl_e sl_m sl_g sl_r sl_t sl_z : Array (Option Value)} {oc_h kV_h dc_h pm_h cd_h ct_h oc_q kV_q dc_q pm_q cd_q ct_q oc_o kV_o dc_o pm_o cd_o ct_o oc_v kV_v dc_v pm_v cd_v ct_v oc_w kV_w dc_w pm_w cd_w ct_w oc_n kV_n dc_n pm_n cd_n ct_n oc_p kV_p dc_p pm_p cd_p ct_p oc_x kV_x dc_x pm_x cd_x ct_x oc_e kV_e dc_e pm_e cd_e ct_e oc_m kV_m dc_m pm_m cd_m ct_m oc_g kV_g dc_g pm_g cd_g ct_g oc_r kV_r dc_r pm_r cd_r ct_r oc_t kV_t dc_t pm_t cd_t ct_t oc_z kV_z dc_z pm_z cd_z ct_z : Value}
    (a_h : PySem.W.nsIn K mainGlobals "heads_of" = some (some (.ref fh))) (l_h : K.lookup fh = some ⟨oc_h, od_h, .func (PySem.W.fnOf "heads_of" "heads_of" (defArgs sHeads) (defBody sHeads) (defScope sHeads) .none kV_h dc_h pm_h an_h cd_h ct_h), sl_h⟩) (c_h : PySem.W.codeIn K cd_h "heads_of" = true) (k_h : PySem.W.keepIn K (.ref fh) = true)
    (a_q : PySem.W.nsIn K mainGlobals "calls_of" = some (some (.ref fq))) (l_q : K.lookup fq = some ⟨oc_q, od_q, .func (PySem.W.fnOf "calls_of" "calls_of" (defArgs sCalls) (defBody sCalls) (defScope sCalls) .none kV_q dc_q pm_q an_q cd_q ct_q), sl_q⟩) (c_q : PySem.W.codeIn K cd_q "calls_of" = true) (k_q : PySem.W.keepIn K (.ref fq) = true)
    (a_o : PySem.W.nsIn K mainGlobals "off_the_end" = some (some (.ref fo))) (l_o : K.lookup fo = some ⟨oc_o, od_o, .func (PySem.W.fnOf "off_the_end" "off_the_end" (defArgs sOff) (defBody sOff) (defScope sOff) .none kV_o dc_o pm_o an_o cd_o ct_o), sl_o⟩) (c_o : PySem.W.codeIn K cd_o "off_the_end" = true) (k_o : PySem.W.keepIn K (.ref fo) = true)
    (a_v : PySem.W.nsIn K mainGlobals "value_of" = some (some (.ref fv))) (l_v : K.lookup fv = some ⟨oc_v, od_v, .func (PySem.W.fnOf "value_of" "value_of" (defArgs sVal) (defBody sVal) (defScope sVal) .none kV_v dc_v pm_v an_v cd_v ct_v), sl_v⟩) (c_v : PySem.W.codeIn K cd_v "value_of" = true) (k_v : PySem.W.keepIn K (.ref fv) = true)
    (a_w : PySem.W.nsIn K mainGlobals "words_of" = some (some (.ref fw))) (l_w : K.lookup fw = some ⟨oc_w, od_w, .func (PySem.W.fnOf "words_of" "words_of" (defArgs sWds) (defBody sWds) (defScope sWds) .none kV_w dc_w pm_w an_w cd_w ct_w), sl_w⟩) (c_w : PySem.W.codeIn K cd_w "words_of" = true) (k_w : PySem.W.keepIn K (.ref fw) = true)
    (a_n : PySem.W.nsIn K mainGlobals "count_call" = some (some (.ref fn))) (l_n : K.lookup fn = some ⟨oc_n, od_n, .func (PySem.W.fnOf "count_call" "count_call" (defArgs sCnt) (defBody sCnt) (defScope sCnt) .none kV_n dc_n pm_n an_n cd_n ct_n), sl_n⟩) (c_n : PySem.W.codeIn K cd_n "count_call" = true) (k_n : PySem.W.keepIn K (.ref fn) = true)
    (a_p : PySem.W.nsIn K mainGlobals "put_in" = some (some (.ref fp))) (l_p : K.lookup fp = some ⟨oc_p, od_p, .func (PySem.W.fnOf "put_in" "put_in" (defArgs sPut) (defBody sPut) (defScope sPut) .none kV_p dc_p pm_p an_p cd_p ct_p), sl_p⟩) (c_p : PySem.W.codeIn K cd_p "put_in" = true) (k_p : PySem.W.keepIn K (.ref fp) = true)
    (a_x : PySem.W.nsIn K mainGlobals "worth" = some (some (.ref fx))) (l_x : K.lookup fx = some ⟨oc_x, od_x, .func (PySem.W.fnOf "worth" "worth" (defArgs sWorth) (defBody sWorth) (defScope sWorth) (.ref T) kV_x dc_x pm_x an_x cd_x ct_x), sl_x⟩) (c_x : PySem.W.codeIn K cd_x "worth" = true) (k_x : PySem.W.keepIn K (.ref fx) = true)
    (l_T : K.lookup T = some ⟨oc_T, od_T, .seq #[.int 400 tk_T] n_T, sl_T⟩)
    (a_e : PySem.W.nsIn K mainGlobals "_law_cell_at" = some (some (.ref fe))) (l_e : K.lookup fe = some ⟨oc_e, od_e, .func (PySem.W.fnOf "_law_cell_at" "_law_cell_at" (defArgs sCell) (defBody sCell) (defScope sCell) .none kV_e dc_e pm_e an_e cd_e ct_e), sl_e⟩) (c_e : PySem.W.codeIn K cd_e "_law_cell_at" = true) (k_e : PySem.W.keepIn K (.ref fe) = true)
    (a_m : PySem.W.nsIn K mainGlobals "_law_names" = some (some (.ref fm))) (l_m : K.lookup fm = some ⟨oc_m, od_m, .func (PySem.W.fnOf "_law_names" "_law_names" (defArgs sNames) (defBody sNames) (defScope sNames) .none kV_m dc_m pm_m an_m cd_m ct_m), sl_m⟩) (c_m : PySem.W.codeIn K cd_m "_law_names" = true) (k_m : PySem.W.keepIn K (.ref fm) = true)
    (a_g : PySem.W.nsIn K mainGlobals "_law_goes" = some (some (.ref fg))) (l_g : K.lookup fg = some ⟨oc_g, od_g, .func (PySem.W.fnOf "_law_goes" "_law_goes" (defArgs sGoes) (defBody sGoes) (defScope sGoes) .none kV_g dc_g pm_g an_g cd_g ct_g), sl_g⟩) (c_g : PySem.W.codeIn K cd_g "_law_goes" = true) (k_g : PySem.W.keepIn K (.ref fg) = true)
    (a_r : PySem.W.nsIn K mainGlobals "_law_right" = some (some (.ref fr))) (l_r : K.lookup fr = some ⟨oc_r, od_r, .func (PySem.W.fnOf "_law_right" "_law_right" (defArgs sRight) (defBody sRight) (defScope sRight) .none kV_r dc_r pm_r an_r cd_r ct_r), sl_r⟩) (c_r : PySem.W.codeIn K cd_r "_law_right" = true) (k_r : PySem.W.keepIn K (.ref fr) = true)
    (a_t : PySem.W.nsIn K mainGlobals "_law_spent" = some (some (.ref ft))) (l_t : K.lookup ft = some ⟨oc_t, od_t, .func (PySem.W.fnOf "_law_spent" "_law_spent" (defArgs sSpent) (defBody sSpent) (defScope sSpent) .none kV_t dc_t pm_t an_t cd_t ct_t), sl_t⟩) (c_t : PySem.W.codeIn K cd_t "_law_spent" = true) (k_t : PySem.W.keepIn K (.ref ft) = true)
    (a_z : PySem.W.nsIn K mainGlobals "law" = some (some (.ref fz))) (l_z : K.lookup fz = some ⟨oc_z, od_z, .func (PySem.W.fnOf "law" "law" (defArgs sLaw) (defBody sLaw) (defScope sLaw) .none kV_z dc_z pm_z an_z cd_z ct_z), sl_z⟩) (c_z : PySem.W.codeIn K cd_z "law" = true) (k_z : PySem.W.keepIn K (.ref fz) = true)
    (g_C : PySem.W.nsIn K mainGlobals "Spent" = some (some (.ref C))) (x_C : PySem.W.excIn K C [.type "ValueError", .type "Exception", .type "BaseException", .type "object"] "ValueError.__new__" = true) (k_C : PySem.W.keepIn K (.ref C) = true) (b_C : PySem.W.subIn K (.ref C) (.type "BaseException") = some true) (t_C : PySem.W.typeIn K (.ref C) = some (.type "type")) (i_C : PySem.W.isClsIn K C = true) (s_C : PySem.W.subIn K (.ref C) (.ref C) = some true)
    (z_len : PySem.W.nsIn K mainGlobals "len" = some none) (z_range : PySem.W.nsIn K mainGlobals "range" = some none) (z_list : PySem.W.nsIn K mainGlobals "list" = some none) (z_tuple : PySem.W.nsIn K mainGlobals "tuple" = some none) (z_isi : PySem.W.nsIn K mainGlobals "isinstance" = some none) (z_sum : PySem.W.nsIn K mainGlobals "sum" = some none) (z_zip : PySem.W.nsIn K mainGlobals "zip" = some none) (z_rev : PySem.W.nsIn K mainGlobals "reversed" = some none) (z_int : PySem.W.nsIn K mainGlobals "int" = some none) (z_bool : PySem.W.nsIn K mainGlobals "bool" = some none) (z_str : PySem.W.nsIn K mainGlobals "str" = some none)
    : ∃ fd : FuncData, (∀ (s : Shared) (v : Value), BindsTo s fd ⟨[v], []⟩ [("script", v)]) ∧ ∀ base : Heap, K.In base → base.Ns mainGlobals mg → FnOk l.prog w K mg base CX0 4 fa fd ["script"] (spLaw K) := by
  have e := hfa.symm.trans (PySem.W.mg_of X G a_z)
  cases e
  have B : Blt mg := ⟨PySem.W.mg_none_of X G z_len, PySem.W.mg_none_of X G z_range, PySem.W.mg_none_of X G z_list, PySem.W.mg_none_of X G z_tuple, PySem.W.mg_none_of X G z_isi, PySem.W.mg_none_of X G z_sum, PySem.W.mg_none_of X G z_zip, PySem.W.mg_none_of X G z_rev, PySem.W.mg_none_of X G z_int, PySem.W.mg_none_of X G z_bool, PySem.W.mg_none_of X G z_str⟩
  have Z : Spt K mg C := ⟨x_C, PySem.W.mg_of X G g_C, k_C, b_C, t_C, exm_self b_C i_C t_C s_C⟩
  have F_h := fun_mk (st := sHeads) l_h c_h k_h
  have b_h := F_h.binds (ps := ["program"]) fun _ _ _ _ _ _ us hl => match us, hl with | [_], _ => rfl
  have F_q := fun_mk (st := sCalls) l_q c_q k_q
  have b_q := F_q.binds (ps := ["program"]) fun _ _ _ _ _ _ us hl => match us, hl with | [_], _ => rfl
  have F_o := fun_mk (st := sOff) l_o c_o k_o
  have b_o := F_o.binds (ps := ["done", "many"]) fun _ _ _ _ _ _ us hl => match us, hl with | [_, _], _ => rfl
  have F_v := fun_mk (st := sVal) l_v c_v k_v
  have b_v := F_v.binds (ps := ["name", "parts"]) fun _ _ _ _ _ _ us hl => match us, hl with | [_, _], _ => rfl
  have F_w := fun_mk (st := sWds) l_w c_w k_w
  have b_w := F_w.binds (ps := ["value"]) fun _ _ _ _ _ _ us hl => match us, hl with | [_], _ => rfl
  have F_n := fun_mk (st := sCnt) l_n c_n k_n
  have b_n := F_n.binds (ps := ["counts", "rule", "values"]) fun _ _ _ _ _ _ us hl => match us, hl with | [_, _, _], _ => rfl
  have F_p := fun_mk (st := sPut) l_p c_p k_p
  have b_p := F_p.binds (ps := ["rule", "values"]) fun _ _ _ _ _ _ us hl => match us, hl with | [_, _], _ => rfl
  have F_x : FunD K "worth" "worth" (defArgs sWorth) (defBody sWorth) (defScope sWorth) [.int 400] [] fx (PySem.W.fnOf "worth" "worth" (defArgs sWorth) (defBody sWorth) (defScope sWorth) (.ref T) kV_x dc_x pm_x an_x cd_x ct_x) := ⟨⟨_, _, _, _, _, _, _, _, _, _, rfl, l_x, c_x, .inr ⟨by simp, T, _, [.int 400 tk_T], n_T, rfl, l_T, rfl, .cons ⟨tk_T, rfl⟩ .nil⟩, .inl rfl⟩, k_x⟩
  obtain ⟨ds3, v3, b3⟩ := F_x.binds1 (ps := ["program", "words", "most"]) 3 1 (by simp) rfl fun _ _ _ _ _ _ _ us its hu hi => match us, its, hu, hi with | [_, _, _], [_], _, _ => ⟨_, rfl, rfl⟩
  obtain ⟨ds2, v2, b2⟩ := F_x.binds1 (ps := ["program", "words", "most"]) 2 0 (by simp) rfl fun _ _ _ _ _ _ _ us its hu hi => match us, its, hu, hi with | [_, _], [_], _, _ => ⟨_, rfl, rfl⟩
  cases v3
  have F_e := fun_mk (st := sCell) l_e c_e k_e
  have b_e := F_e.binds (ps := ["script", "k"]) fun _ _ _ _ _ _ us hl => match us, hl with | [_, _], _ => rfl
  have F_m := fun_mk (st := sNames) l_m c_m k_m
  have b_m := F_m.binds (ps := ["cell"]) fun _ _ _ _ _ _ us hl => match us, hl with | [_], _ => rfl
  have F_g := fun_mk (st := sGoes) l_g c_g k_g
  have b_g := F_g.binds (ps := ["seed", "i", "j", "many"]) fun _ _ _ _ _ _ us hl => match us, hl with | [_, _, _, _], _ => rfl
  have F_r := fun_mk (st := sRight) l_r c_r k_r
  have b_r := F_r.binds (ps := ["found", "word", "calls"]) fun _ _ _ _ _ _ us hl => match us, hl with | [_, _, _], _ => rfl
  have F_t := fun_mk (st := sSpent) l_t c_t k_t
  have b_t := F_t.binds (ps := ["program", "words", "bound"]) fun _ _ _ _ _ _ us hl => match us, hl with | [_, _, _], _ => rfl
  have F_z := fun_mk (st := sLaw) l_z c_z k_z
  refine ⟨PySem.W.fnOf "law" "law" (defArgs sLaw) (defBody sLaw) (defScope sLaw) .none kV_z dc_z pm_z an_z cd_z ct_z, fun s v => .of_eq rfl, fun base _ _ => ?_⟩
  have C_o : Cal l.prog w K mg base CX0 1 "off_the_end" ["done", "many"] spOff fo _ := ⟨ok_off F_o B.range, PySem.W.mg_of X G a_o, k_o, b_o⟩
  have C_v : Cal l.prog w K mg base CX0 1 "value_of" ["name", "parts"] spVal fv _ := ⟨ok_val F_v B.tuple, PySem.W.mg_of X G a_v, k_v, b_v⟩
  have C_w : Cal l.prog w K mg base CX0 1 "words_of" ["value"] spWds fw _ := ⟨ok_wds F_w B.len B.list B.rev B.tuple, PySem.W.mg_of X G a_w, k_w, b_w⟩
  have C_n : Cal l.prog w K mg base CX0 1 "count_call" ["counts", "rule", "values"] spCnt fn _ := ⟨ok_cnt F_n B.zip, PySem.W.mg_of X G a_n, k_n, b_n⟩
  have C_p : Cal l.prog w K mg base CX0 1 "put_in" ["rule", "values"] spPut fp _ := ⟨ok_put F_p B.zip, PySem.W.mg_of X G a_p, k_p, b_p⟩
  have C_e : Cal l.prog w K mg base CX0 1 "_law_cell_at" ["script", "k"] (spCl K) fe _ := ⟨ok_cell F_e B, PySem.W.mg_of X G a_e, k_e, b_e⟩
  have C_m : Cal l.prog w K mg base CX0 1 "_law_names" ["cell"] spNames fm _ := ⟨ok_names F_m B, PySem.W.mg_of X G a_m, k_m, b_m⟩
  have C_g : Cal l.prog w K mg base CX0 1 "_law_goes" ["seed", "i", "j", "many"] spGoes fg _ := ⟨ok_goes F_g, PySem.W.mg_of X G a_g, k_g, b_g⟩
  have C_r : Cal l.prog w K mg base CX0 1 "_law_right" ["found", "word", "calls"] spRight fr _ := ⟨ok_right F_r B, PySem.W.mg_of X G a_r, k_r, b_r⟩
  have W1 : ∀ S : Sys, S.Ok → FnOk l.prog w K mg base (L2.CX l.prog w) 2 fx _ ["program", "words", "most"] (spWorth S C) := fun S O =>
    ok_worth O F_x B Z ⟨ok_heads O F_h, PySem.W.mg_of X G a_h, k_h, b_h⟩ ⟨ok_calls O F_q, PySem.W.mg_of X G a_q, k_q, b_q⟩ C_o C_v C_w C_n C_p
  exact ok_law F_z B C_e C_m C_g C_r ⟨FnOk.exS fun S O => ok_spent F_t Z ⟨W1 S O, PySem.W.mg_of X G a_x, k_x, b3⟩, PySem.W.mg_of X G a_t, k_t, b_t⟩ ⟨FnOk.exS W1, PySem.W.mg_of X G a_x, k_x, b3⟩ b2 v2
theorem walk {l : PySem.W.OpenLaw} {q : Program} {loose : List Str} {XP : (Str → Option Value) → Heap → Prop} {YP : World → Heap → Prop} {d : DefRec} {K : Params → PySem.W.Frag} (hn : l.most = some 63) (hdf : d.params.defaults = [])
    (hY : ∀ (w : World) (h : Heap), YP w h → (K w.params).In h)
    (F : ∀ (w : World) (mg : Str → Option Value) (fa : Addr) (h : Heap), (K w.params).In h → h.Ns mainGlobals mg → mg d.name = some (.ref fa) →
      ∃ fd : FuncData, (∀ (s : Shared) (u : Value), BindsTo s fd ⟨[u], []⟩ [("script", u)]) ∧ ∀ base : Heap, (K w.params).In base → base.Ns mainGlobals mg → FnOk l.prog w (K w.params) mg base CX0 4 fa fd ["script"] (spLaw (K w.params))) :
    PySem.W.WalkO q loose XP YP l.row.toRowW d [] (fun f vs => PySem.call f vs) :=
  L2.walk_of (n := 63) (k := 4) (x := "script") (CX := fun _ => CX0) (sp := fun w => spLaw (K w.params)) hn (by decide) hdf ⟨rfl, by decide, by decide⟩ hY F (fun _ _ a ns hl _ hS => ⟨a, ns, rfl, hS, hl, fun _ => rfl⟩) fun _ _ _ _ _ z => z
end Mine

open PySem PySem.W PyProof.Rows in
set_option maxRecDepth 100000 in
set_option maxHeartbeats 0 in
theorem PySem.Challenge.cw_hookmill_k58_whole_many_rules_holds : PySem.Challenge.rw_hookmill_k58_whole_many_rules.Holds := by
  w_on; o_law; k_head; (case hw => w_witness2)
  k_fill
  refine Mine.walk (l := PySem.Challenge.rw_hookmill_k58_whole_many_rules) rfl rfl (fun w h Y => PySem.W.kIn_of Y) ?F
  case F =>
    intro w mg fa h KX G hmg
    refine' Mine.all_mk KX G hmg ?a_h ?l_h ?c_h ?k_h ?a_q ?l_q ?c_q ?k_q ?a_o ?l_o ?c_o ?k_o ?a_v ?l_v ?c_v ?k_v ?a_w ?l_w ?c_w ?k_w ?a_n ?l_n ?c_n ?k_n ?a_p ?l_p ?c_p ?k_p ?a_x ?l_x ?c_x ?k_x ?l_T ?a_e ?l_e ?c_e ?k_e ?a_m ?l_m ?c_m ?k_m ?a_g ?l_g ?c_g ?k_g ?a_r ?l_r ?c_r ?k_r ?a_t ?l_t ?c_t ?k_t ?a_z ?l_z ?c_z ?k_z ?g_C ?x_C ?k_C ?b_C ?t_C ?i_C ?s_C ?z_len ?z_range ?z_list ?z_tuple ?z_isi ?z_sum ?z_zip ?z_rev ?z_int ?z_bool ?z_str
    (case a_h => k_is)
    (case l_h => k_is)
    (case c_h => k_is)
    (case k_h => k_is)
    (case a_q => k_is)
    (case l_q => k_is)
    (case c_q => k_is)
    (case k_q => k_is)
    (case a_o => k_is)
    (case l_o => k_is)
    (case c_o => k_is)
    (case k_o => k_is)
    (case a_v => k_is)
    (case l_v => k_is)
    (case c_v => k_is)
    (case k_v => k_is)
    (case a_w => k_is)
    (case l_w => k_is)
    (case c_w => k_is)
    (case k_w => k_is)
    (case a_n => k_is)
    (case l_n => k_is)
    (case c_n => k_is)
    (case k_n => k_is)
    (case a_p => k_is)
    (case l_p => k_is)
    (case c_p => k_is)
    (case k_p => k_is)
    (case a_x => k_is)
    (case l_x => k_is)
    (case c_x => k_is)
    (case k_x => k_is)
    (case l_T => k_is)
    (case a_e => k_is)
    (case l_e => k_is)
    (case c_e => k_is)
    (case k_e => k_is)
    (case a_m => k_is)
    (case l_m => k_is)
    (case c_m => k_is)
    (case k_m => k_is)
    (case a_g => k_is)
    (case l_g => k_is)
    (case c_g => k_is)
    (case k_g => k_is)
    (case a_r => k_is)
    (case l_r => k_is)
    (case c_r => k_is)
    (case k_r => k_is)
    (case a_t => k_is)
    (case l_t => k_is)
    (case c_t => k_is)
    (case k_t => k_is)
    (case a_z => k_is)
    (case l_z => k_is)
    (case c_z => k_is)
    (case k_z => k_is)
    (case g_C => k_is)
    (case x_C => k_exc)
    (case k_C => k_is)
    (case b_C => k_is)
    (case t_C => k_is)
    (case i_C => k_is)
    (case s_C => k_is)
    (case z_len => k_is)
    (case z_range => k_is)
    (case z_list => k_is)
    (case z_tuple => k_is)
    (case z_isi => k_is)
    (case z_sum => k_is)
    (case z_zip => k_is)
    (case z_rev => k_is)
    (case z_int => k_is)
    (case z_bool => k_is)
    (case z_str => k_is)
#print axioms PySem.Challenge.cw_hookmill_k58_whole_many_rules_holds
