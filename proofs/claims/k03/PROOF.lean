import PyProof.Rows.All
import Wide.All
import OpenK.AllK
import Wide.FinOn
import HandS.ForMost
import HandS.ForExc
import HandS.Rev
import HandS.Zip
import HandS.Walk
import HandS.Zip0
import HandS.Deep
import HandS.TupAny
import HandS.TupMul
import HandS.Flow
import HandS.Wide
import HandS.Style
import HandS.NoneIn
import HandS.IsInst
import HandS.SortInts
import PyProof.ReprRoads
import PySem.Challenge.RW_typedtokens_k03_whole_main_how_many_far
set_option Elab.async false
set_option linter.all false
set_option maxRecDepth 100000
set_option maxHeartbeats 1000000
/-! a list made of an iterator -/
namespace L2.Gd
open PySem PySem.Spec PyProof.Rows L2
section
variable {prog : Program} {w : World} {A : Around} {s : Shared} {R : Result → Shared → Prop}
variable {I : Addr} {fp wr : List Addr} {G : Array GenState → Array GenState → Prop} {n : Nat} {P : Nat → Value → Prop} {St : Nat → Shared → Prop} {T : String}
/-- no room is made ahead -/
def NoHint (prog : Program) (w : World) (T : String) : Prop := ∀ (A : Around) (E : Value → Shared → Prop) (s : Shared) (a : Addr) (Q : Bool → Shared → Prop), s.TypeIs (.ref a) T → Q false s → wpAny (model prog w) A (Builtin.List.listLengthHint (.ref a)) Q E s
theorem lri_extend (W : WalksS prog w A.in1 I fp wr G n P St) (hT : ∀ i s, St i s → s.TypeIs (.ref I) "list_reverseiterator") (hh : NoHint prog w "list_reverseiterator")
    (S : Addr) (res : Value) (c₀ : Nat) (hst : St 0 s) (hSf : S ∉ fp) (hI : I ∈ fp) (hS : s.heap.get? S = some { cls := .type "list", data := .seq #[] c₀ })
    (hR : ∀ s' acc' c', Moved (S :: wr) G s s' → s'.heap.get? S = some { cls := .type "list", dict := none, data := .seq acc' c', slots := #[] } → ItemsOf P acc' n → R (.ok (.ret res)) s') (hn : n ≤ sizeLine) :
    wpAny (model prog w) A.in1 (Builtin.List.listExtendWith (.ref S) (.ref I) res)
      (fun fin s' => match fin with | .done f => R (.ok f) s' | .again c' => c'.quiet = true ∧ codeAny (model prog w) A c' R s') (fun e s' => R (.error e) s') s := by
  have hSI : S ≠ I := fun e => hSf (e ▸ hI)
  unfold Builtin.List.listExtendWith
  refine wpAny_bind (wpAny_typeOf (hT 0 _ hst) ?_)
  have h2 : (Value.type "list_reverseiterator" == Value.type "list") = false := by decide
  have h3 : (Value.type "list_reverseiterator" == Value.type "tuple") = false := by decide
  have h1 : Builtin.List.listSameRef (.ref S) (.ref I) = false := by simp [Builtin.List.listSameRef, hSI]
  simp only [h1, h2, h3, Bool.or_false, Bool.false_eq_true, if_false]
  refine wpAny_bind (W.self 0 _ _ _ hst (wpAny_bind (wpAny_holding (hh _ _ _ _ _ (hT 0 _ hst) ?_))))
  rw [if_neg (by decide)]
  refine wpAny_pure ⟨plainId_quiet PySem.F.plain_extend_loop _, codeAny_extend_loopS W hn _ hSf _ n 0 _ _ _ rfl (Nat.zero_le _) hst hS (ItemsOf.nil P) hR⟩
theorem lri_init (W : WalksS prog w A.in1 I fp wr G n P St) (hT : ∀ i s, St i s → s.TypeIs (.ref I) "list_reverseiterator") (hh : NoHint prog w "list_reverseiterator") (S : Addr) (hst : St 0 s) (hSf : S ∉ fp) (hI : I ∈ fp)
    (hS : s.heap.get? S = some { cls := .type "list", data := .seq #[] })
    (hR : ∀ s' acc' c', Moved (S :: wr) G s s' → s'.heap.get? S = some { cls := .type "list", dict := none, data := .seq acc' c', slots := #[] } → ItemsOf P acc' n → R (.ok (.ret .none)) s') (hn : n ≤ sizeLine) :
    wpAny (model prog w) A.in1 (Builtin.«list.__init__» ⟨[.ref S, .ref I], []⟩)
      (fun fin s' => match fin with | .done f => R (.ok f) s' | .again c' => c'.quiet = true ∧ codeAny (model prog w) A c' R s') (fun e s' => R (.error e) s') s := by
  show wpAny _ A.in1 (do let old ← Builtin.List.listItems (.ref S); Builtin.List.listUpdate (.ref S) (fun _ => #[]); letGo old.toList.reverse; Builtin.List.listExtendWith (.ref S) (.ref I) .none) _ _ s
  refine wpAny_bind ?_
  unfold Builtin.List.listItems
  refine wpAny_bind (wpAny_seqItems hS rfl (wpAny_pure ?_))
  show wpAny _ A.in1 (updateSeq S (fun _ => #[]) >>= fun _ => letGo (#[] : Array Value).toList.reverse >>= fun _ => Builtin.List.listExtendWith (.ref S) (.ref I) .none) _ _ s
  refine wpAny_bind (wpAny_updateSeq hS rfl ?_)
  have hS₂ := Heap.get?_update_self (Obj.mapSeq (fun _ => (#[] : Array Value))) hS rfl
  have oth : ∀ b o, b ≠ S → s.heap.get? b = some o → (s.heap.update S (Obj.mapSeq (fun _ => (#[] : Array Value)))).get? b = some o :=
    fun b o hb e => (Heap.get?_update_other _ _ (Ne.symm hb)).trans e
  refine wpAny_bind (wpAny_letGo ?_)
  refine lri_extend (hn := hn) W hT hh S .none _ (W.frame 0 s _ s.toks hst (Nat.le_refl _) fun b hb o e => oth b o (fun h => hSf (h ▸ hb)) e) hSf hI hS₂ fun s' acc' c' hm hS' hacc => ?_
  exact hR s' acc' c' (Moved.trans W.gtrans ((Moved.refl W.grefl).then_heap (Nat.le_refl _) fun b o hb e => oth b o (fun h => hb (h ▸ List.mem_cons_self)) e) hm) hS' hacc
theorem lri_call {E : Value → Shared → Prop} {Q : Value → Shared → Prop} (W : WalksS prog w A.in1.in1 I fp wr G n P St) (hT : ∀ i s, St i s → s.TypeIs (.ref I) "list_reverseiterator") (hh : NoHint prog w "list_reverseiterator") (hst : St 0 s) (hfp : ∀ b ∈ fp, b < s.heap.objs.size) (hI : I ∈ fp)
    (hQ : ∀ s' acc' c', Moved (s.heap.objs.size :: wr) G { s with heap := s.heap.push { cls := .type "list", data := .seq #[] } } s' →
      s'.heap.get? s.heap.objs.size = some { cls := .type "list", dict := none, data := .seq acc' c', slots := #[] } → ItemsOf P acc' n → Q (.ref s.heap.objs.size) s') (hn : n ≤ sizeLine) :
    wpAny (model prog w) A (call (.type "list") [.ref I]) Q E s := by
  have hSf : s.heap.objs.size ∉ fp := fun hm => Nat.lt_irrefl _ (hfp _ hm)
  refine callType_codes (Q₁ := fun obj s₁ => obj = .ref s.heap.objs.size ∧ s₁ = { s with heap := s.heap.push { cls := .type "list", data := .seq #[] } }) PySem.F.called_list (PySem.F.typeCall_list_1 _) PySem.F.entry_list_init
    (code_list_new _ ⟨rfl, rfl⟩) fun obj s₁ h₁ => ?_
  obtain ⟨rfl, rfl⟩ := h₁
  have hS : (s.heap.push { cls := .type "list", data := .seq #[] }).get? s.heap.objs.size = some { cls := .type "list", data := .seq #[] } := Heap.get?_push_size _ rfl
  refine ⟨⟨_, hS, rfl⟩, PySem.F.args_list_init_2 _ _, lri_init (hn := hn) W hT hh _ (W.frame 0 s _ s.toks hst (Nat.le_refl _) fun b _ o e => Heap.get?_push_of_some _ e) hSf hI hS fun s' acc' c' hm hS' hacc => ?_⟩
  exact ⟨rfl, hQ s' acc' c' hm hS' hacc⟩
end
/-! ### list(reversed(a list)) -/
section
variable {prog : Program} {w : World} {A : Around} {E : Value → Shared → Prop} {s : Shared}
theorem hint_lri : NoHint prog w "list_reverseiterator" := by
  intro A E s a Q hT h
  unfold Builtin.List.listLengthHint
  refine wpAny_bind (wpAny_specialOf hT RT.nolen_lri ?_)
  show wpAny _ A (specialOf (Value.ref a) (Str.ofString "__length_hint__") >>= _) _ _ _
  refine wpAny_bind (wpAny_specialOf hT RT.hint_lri ?_)
  generalize hid : ("list_reverseiterator.__length_hint__" : String) = id0
  wp_delta
  rw [show splitId id0 = some ("list_reverseiterator", "__length_hint__") from by subst hid; decide +kernel]
  subst hid
  refine wpAny_bind (wpAny_isInstance (b := true) hT (by rw [isSubtype_type]; kernel_rfl) ?_)
  exact wpAny_pure h
theorem call_list_rev {it l : Addr} {items : Array Value} {Q : Value → Shared → Prop} (hh : A.handled = none) (hit : s.heap.IsRevIter it l ((items.size : Int) - 1)) (hl : s.heap.IsList l items) (hne : l ≠ it) (hn : items.size ≤ sizeLine)
    (hQ : ∀ (h' : Heap) (tk : Nat) (acc : Array Value) (c : Nat), (∀ b o, b ≠ it → s.heap.get? b = some o → h'.get? b = some o) → h'.get? s.heap.objs.size = some { cls := .type "list", data := .seq acc c } → ItemsOf (fun i v => items[items.size - 1 - i]? = some v) acc items.size →
      Q (.ref s.heap.objs.size) { s with heap := h', toks := tk }) :
    wpAny (model prog w) A (call (.type "list") [.ref it]) Q E s := by
  have W := (Walks.listRev (prog := prog) (w := w) (A := A.in1.in1) hh it l hne items).toS
  obtain ⟨oi, hoi, _⟩ := id hit
  obtain ⟨ol, hol, _⟩ := id hl
  have e0 : ((items.size : Nat) : Int) - 1 - ((0 : Nat) : Int) = (items.size : Int) - 1 := by omega
  refine lri_call W (fun i s st => ?_) hint_lri ⟨Nat.zero_le _, by rw [e0]; exact hit, hl⟩ (fun b hb => ?_) (by simp) (fun s' acc c hm hS hacc => ?_) hn
  · obtain ⟨_, q, _⟩ := st
    exact q.typeIs
  · simp only [List.mem_cons, List.not_mem_nil, or_false] at hb
    rcases hb with rfl | rfl
    · exact Heap.lt_size hoi
    · exact Heap.lt_size hol
  · rw [Moved.eq_with hm]
    refine hQ s'.heap s'.toks acc c (fun b o hb e => hm.heap b o (fun hmem => ?_) (Heap.get?_push_of_some _ e)) hS hacc
    rcases List.mem_cons.mp hmem with e' | hmem
    · exact absurd (Heap.lt_size e) (by rw [e']; exact Nat.lt_irrefl _)
    · exact hb (List.mem_singleton.mp hmem)
end
section
variable {X : Cx} {pins : List (Addr × Obj)} {σ : L2.St} {H : Hp} {s : Shared}
/-- an iterator of ours has turned, and a new object is tracked -/
theorem turned_laid {h' : Heap} {tk : Nat} {it : Addr} {ob : Obj} {o : HO} {Q : VK} (I : Inv X pins σ H s) (hn : H it = none) (hL : it ≠ X.env.locals) (h1 : it ∈ X.ex ∨ X.s_0.heap.objs.size ≤ it) (h2 : ∀ x c, X.env.cells.lookup x = some c → c ≠ it) (h3 : ∀ p ∈ X.pn ++ pins, p.1 ≠ it)
    (k : ∀ b o, b ≠ it → s.heap.get? b = some o → h'.get? b = some o) (hS : h'.get? s.heap.objs.size = some ob) (new : H s.heap.objs.size = none → ObjOk X.prog X.w (upd H s.heap.objs.size o) h' s.heap.objs.size o) (q : Q (.ref s.heap.objs.size) (upd H s.heap.objs.size o))
    (hit : it < s.heap.objs.size := by first | exact Heap.lt_size (Heap.get?_push_size _ rfl) | assumption) : EP X pins σ Q (.ref s.heap.objs.size) { s with heap := h', toks := tk } := by
  have fresh : H s.heap.objs.size = none := I.hok.fresh (Nat.le_refl _)
  have I3 : Inv X pins σ H { s with heap := h', toks := tk } := I.turned (t' := tk) k hn hL h1 h2 h3
  have ne : ∀ b ob, s.heap.get? b = some ob → b ≠ s.heap.objs.size := fun b ob e z => absurd (Heap.lt_size e) (by rw [z]; exact Nat.lt_irrefl _)
  have neh : ∀ b u, H b = some u → b ≠ s.heap.objs.size := fun b u e => ne_of_none e fresh
  refine ⟨.ref s.heap.objs.size, upd H s.heap.objs.size o, ?_, rfl, q⟩
  refine I.step (g' := s.gens) (d' := s.drawn) (ch := [it]) (fun b hb => ?_) (fun b o _ _ hc e _ => k b o (fun z => hc (by simp [z])) e) (fun b o _ _ hc e _ => ⟨o.slots, k b o (fun z => hc (by simp [z])) e⟩) (fun b o _ e n => (upd_ne (ne b o e)).trans n)
    (fun b o hc e => ⟨o, k b o (fun z => hc (by simp [z])) e⟩) (fun b xs e => (upd_ne (neh _ _ e)).trans e) (fun b o u e => (upd_ne (neh _ _ e)).trans e) (fun b ps e => ⟨#[], by rw [upd_ne (neh _ _ e), e]; simp⟩) (fun m hm => ?_) (fun b u e => ?_) I.bare
  · have e : b = it := by simpa using hb
    subst e
    exact ⟨h1, hL, h2, h3⟩
  · obtain ⟨o, es, ep, ho, r⟩ := hm
    exact ⟨o, es, ep, k _ o (Ne.symm hL) ho, r⟩
  · by_cases hb : b = s.heap.objs.size
    · subst hb
      rw [upd_same] at e
      cases e
      exact new fresh
    · rw [upd_ne hb] at e
      refine (I3.hok b u e).stay (fun _ _ _ r => r) (fun c r => (upd_ne (neh _ _ r)).trans r) fun c xs r => (upd_ne (neh _ _ r)).trans r
theorem vals_rev' {xs : List V} {its : List Value} {acc : Array Value} (r : Vals xs its) (h : ItemsOf (fun i v => its.toArray[its.toArray.size - 1 - i]? = some v) acc its.toArray.size) : Vals xs.reverse acc.toList := RT.vals_rev r h
end
section
variable {X : Cx}
/-- list(reversed(x)), x a list: a new list -/
def tLstRev (K : PySem.W.Frag) (te : TE) : TE := fun σ H Q => te σ H fun v H1 => ∃ (a : Addr) (xs : List V), v = .ref a ∧ SqL K H1 a xs ∧ ∀ q, H1 q = none → Q (.ref q) (upd H1 q (.lst xs.reverse))
theorem pe_lstRev {e : Expr} {te : TE} {p p2 pos pos2 : Pos} (hc : X.calm = true) (hg : Gl X "list") (hm : X.mg "list" = none) (hg2 : Gl X "reversed") (hm2 : X.mg "reversed" = none) (he : PE X e te)
    (hs : starEach [e] X.env = (false, eval e X.env) :: starEach [] X.env := by rfl)
    (hs2 : starEach [.Call (.Name "reversed" p2) [e] [] pos2] X.env = (false, eval (.Call (.Name "reversed" p2) [e] [] pos2) X.env) :: starEach [] X.env := by rfl) :
    PE X (.Call (.Name "list" p) [.Call (.Name "reversed" p2) [e] [] pos2] [] pos) (tLstRev X.K te) := by
  refine ⟨fun pins s σ H Q I h => ?_⟩
  refine Call_ (ld_blt I hg hm boot_list (PyProof.Rows.callWith_type1 (args_cons (Call_ (ld_blt I hg2 hm2 PyProof.Rows.boot_reversed (PyProof.Rows.callWith_type1 (args_cons (thn (he.run pins s σ H _ I h) fun u s1 ⟨v, H1, I1, r1, q1⟩ => args_nil ?_) hs) hs rfl))) hs2) hs2 rfl))
  obtain ⟨a, xs, ev, hq, q⟩ := q1
  subst ev
  obtain rfl : u = Value.ref a := r1
  obtain ⟨its, rv, p', hz⟩ := I1.list hq
  refine call_reversed_list p'.isList (args_nil ?_)
  have I2 : Inv X pins σ H1 { s1 with heap := s1.heap.push (revObj a ((its.toArray.size : Int) - 1)) } := I1.kept (t' := s1.toks) fun b o e => Heap.get?_push_of_some _ e
  obtain ⟨f0, f1, f2, f3, f4, f5⟩ := I1.fpOk (H' := H1) (b := s1.heap.objs.size) (Nat.le_refl _) (I1.hok.fresh (Nat.le_refl _))
  have hl := p'.isList
  obtain ⟨ol, hol, _⟩ := id hl
  have hne : a ≠ s1.heap.objs.size := Nat.ne_of_lt (Heap.lt_size hol)
  have hn : its.toArray.size ≤ sizeLine := by rw [List.size_toArray, ← rv.length]; exact hz
  refine call_list_rev (s := { s1 with heap := s1.heap.push (revObj a ((its.toArray.size : Int) - 1)) }) (I1.ok.hd hc) ⟨_, Heap.get?_push_size _ rfl, rfl, rfl⟩ (hl.push _) hne hn fun h' tk acc c hk hS hi => ?_
  have I3 : Inv X pins σ H1 { s1 with heap := h', toks := tk } := I2.turned (t' := tk) (fun b o hb e => hk b o hb e) f0 f1 f3 f4 f5
  exact turned_laid (o := .lst xs.reverse) I2 f0 f1 f3 f4 f5 hk hS (fun _ => ⟨by rw [List.length_reverse]; exact hz, acc.toList, c, vals_rev' rv hi, by rw [Array.toArray_toList]; exact hS⟩) (q _ (I2.hok.fresh (Nat.le_refl _)))
end
end L2.Gd

set_option Elab.async false
set_option linter.all false
set_option maxRecDepth 100000
set_option maxHeartbeats 1000000
/-! enumerate of a tuple -/
namespace L2.Gd
open PySem PySem.Spec PyProof.Rows L2
open Sem (wp)
open AutoSeq1 (wpAny_loadPart')
section
variable {prog : Program} {w : World} {A : Around} {E : Value → Shared → Prop} {s : Shared}
theorem enumT_next {e it l : Addr} {i : Nat} {items : Array Value} {x old : Value} {Q : Value → Shared → Prop}
    (he : IsEnum s.heap e it i old) (hit : s.heap.IsTupleIter it l i) (hl : s.heap.IsTuple l items) (hx : items[i]? = some x) (hne : e ≠ it)
    (hQ : ∀ h', IsEnumOut h' e it ((i : Int) + 1) x s.heap.objs.size → h'.IsTupleIter it l (i + 1) →
      h'.get? s.heap.objs.size = some { cls := .type "tuple", data := .seq #[.int i s.toks, x] } → h'.objs.size = s.heap.objs.size + 1 →
      (∀ b o, b ≠ e → b ≠ it → s.heap.get? b = some o → h'.get? b = some o) → Q (.ref s.heap.objs.size) { s with heap := h', toks := s.toks + 1 }) :
    wpAny (model prog w) A (Builtin.«enumerate.__next__» ⟨[.ref e], []⟩) (fun fin s' => ∃ v, fin = .done (.ret v) ∧ Q v s') E s := by
  obtain ⟨hp, g, d, tk, os⟩ := s
  show wpAny _ _ (field (.ref e) 2 >>= _) _ _ _
  refine wpAny_bind (wpAny_field he rfl (x := .ref it) rfl ?_)
  refine wpAny_bind (RZ.nextOf_tuple_item hit hl hx fun h₁ hit₁ hs₁ => ?_)
  replace hs₁ : Heap.SameBut it hp h₁ := hs₁
  have he₁ : IsEnum h₁ e it i old := (hs₁.2 e hne).trans he
  show wpAny _ _ (field (.ref e) 3 >>= _) _ _ ⟨h₁, g, d, tk, os⟩
  refine wpAny_bind (wpAny_field he₁ rfl (x := rawInt i) rfl ?_)
  show wpAny _ _ (field (.ref e) 4 >>= _) _ _ ⟨h₁, g, d, tk, os⟩
  refine wpAny_bind (wpAny_field he₁ rfl (x := .none) rfl ?_)
  show wpAny _ _ (mkInt i >>= _) _ _ ⟨h₁, g, d, tk, os⟩
  refine wpAny_bind (wpAny_mkInt ?_)
  show wpAny _ _ (setField (.ref e) 3 (rawInt ((i : Int) + 1)) >>= _) _ _ ⟨h₁, g, d, tk + 1, os⟩
  refine wpAny_bind (wpAny_setField_rec he₁ (by simp) fun h₂ he₂ hs₂ => ?_)
  replace hs₂ : Heap.SameBut e h₁ h₂ := hs₂
  replace he₂ : IsEnum h₂ e it ((i : Int) + 1) old := he₂
  show wpAny _ _ (setField (.ref e) 4 .none >>= _) _ _ ⟨h₂, g, d, tk + 1, os⟩
  refine wpAny_bind (wpAny_setField_rec he₂ (by simp) fun h₃ he₃ hs₃ => ?_)
  replace hs₃ : Heap.SameBut e h₂ h₃ := hs₃
  replace he₃ : IsEnum h₃ e it ((i : Int) + 1) old := he₃
  show wpAny _ _ (newTuple [.int i tk, x] >>= _) _ _ ⟨h₃, g, d, tk + 1, os⟩
  refine wpAny_bind (wpAny_newTuple ?_)
  have he₄ : IsEnum (h₃.push { cls := .type "tuple", data := .seq #[.int i tk, x] }) e it ((i : Int) + 1) old := Heap.get?_push_of_some _ he₃
  generalize hh₄ : h₃.push { cls := .type "tuple", data := .seq #[.int i tk, x] } = h₄ at he₄
  have hsz : h₃.objs.size = hp.objs.size := by rw [hs₃.1, hs₂.1, hs₁.1]
  have hel : e < hp.objs.size := Heap.lt_size he
  have ht₄ : h₄.get? hp.objs.size = some { cls := .type "tuple", data := .seq #[.int i tk, x] } := by rw [← hh₄, ← hsz]; exact Heap.get?_push_size _ rfl
  have hz₄ : h₄.objs.size = hp.objs.size + 1 := by rw [← hh₄, Heap.size_push, hsz]
  have hk₄ : ∀ b o, b ≠ e → b ≠ it → hp.get? b = some o → h₄.get? b = some o := fun b o hbe hbi hb => by
    rw [← hh₄]; exact Heap.get?_push_of_some _ (hs₃.extBut b o hbe (hs₂.extBut b o hbe (hs₁.extBut b o hbi hb)))
  have hit₄ : h₄.IsTupleIter it l (i + 1) := by
    rw [← hh₄]; obtain ⟨o, ho, r⟩ := (hit₁.extBut hs₂.extBut (Ne.symm hne)).extBut hs₃.extBut (Ne.symm hne); exact ⟨o, Heap.get?_push_of_some _ ho, r⟩
  show wpAny _ _ (Builtin.SmallTypes.ownedTupleIsFree (.ref e) >>= _) _ _ ⟨h₄, g, d, tk + 1, os⟩
  rw [hsz]
  clear hh₄ he₃ hs₃ he₂ hs₂ he₁ hs₁ hit₁ hsz h₃ h₂ h₁
  refine wpAny_bind ?_
  · unfold Builtin.SmallTypes.ownedTupleIsFree
    refine wpAny_bind (wpAny_field he₄ rfl (x := .none) rfl (wpAny_pure ?_))
    simp only [if_true]
    refine wpAny_bind (wpAny_rule ?_)
    refine wpAny_bind (wpAny_field he₄ rfl (x := old) rfl ?_)
    refine wpAny_bind (wpAny_setField_rec he₄ (by simp) fun h₅ he₅ hs₅ => ?_)
    replace hs₅ : Heap.SameBut e h₄ h₅ := hs₅
    replace he₅ : IsEnum h₅ e it ((i : Int) + 1) x := he₅
    show wpAny _ _ (Builtin.SmallTypes.ownedTupleHandOut (.ref e) (.ref hp.objs.size) >>= _) _ _ ⟨h₅, g, d, tk + 1, os⟩
    refine wpAny_bind ?_
    · unfold Builtin.SmallTypes.ownedTupleHandOut
      refine wpAny_bind (wpAny_setField_rec he₅ (by simp) fun h₆ he₆ hs₆ => ?_)
      replace hs₆ : Heap.SameBut e h₅ h₆ := hs₆
      replace he₆ : IsEnumOut h₆ e it ((i : Int) + 1) x hp.objs.size := he₆
      refine wpAny_setField_rec he₆ (by simp) fun h₇ he₇ hs₇ => ?_
      replace hs₇ : Heap.SameBut e h₆ h₇ := hs₇
      replace he₇ : IsEnumOut h₇ e it ((i : Int) + 1) x hp.objs.size := he₇
      refine wpAny_bind (wpAny_letGo (wpAny_pure ⟨_, rfl, hQ h₇ he₇ ?_ ?_ ?_ ?_⟩))
      · exact ((hit₄.extBut hs₅.extBut (Ne.symm hne)).extBut hs₆.extBut (Ne.symm hne)).extBut hs₇.extBut (Ne.symm hne)
      · exact hs₇.extBut _ _ (Nat.ne_of_gt hel) (hs₆.extBut _ _ (Nat.ne_of_gt hel) (hs₅.extBut _ _ (Nat.ne_of_gt hel) ht₄))
      · rw [hs₇.1, hs₆.1, hs₅.1, hz₄]
      · exact fun b o hbe hbi hb => hs₇.extBut b o hbe (hs₆.extBut b o hbe (hs₅.extBut b o hbe (hk₄ b o hbe hbi hb)))

theorem enumT_item {e it l : Addr} {i : Nat} {items : Array Value} {x old : Value} {Q : Option Value → Shared → Prop}
    (he : IsEnum s.heap e it i old) (hit : s.heap.IsTupleIter it l i) (hl : s.heap.IsTuple l items) (hx : items[i]? = some x) (hne : e ≠ it)
    (hQ : ∀ h', IsEnumOut h' e it ((i : Int) + 1) x s.heap.objs.size → h'.IsTupleIter it l (i + 1) →
      h'.get? s.heap.objs.size = some { cls := .type "tuple", data := .seq #[.int i s.toks, x] } → h'.objs.size = s.heap.objs.size + 1 →
      (∀ b o, b ≠ e → b ≠ it → s.heap.get? b = some o → h'.get? b = some o) → Q (some (.ref s.heap.objs.size)) { s with heap := h', toks := s.toks + 1 }) :
    wpAny (model prog w) A (pyNext (.ref e)) Q E s := by
  have hT : s.TypeIs (.ref e) "enumerate" := ⟨_, he, rfl⟩
  unfold pyNext
  exact wpAny_bind (wpAny_attempt (wpAny_callSpecial?_slot (name := Str.ofString "__next__") hT PySem.F.slot_enumerate_next
    (wpAny_call_entry PySem.F.slot_enumerate_next hT PySem.F.entry_enumerate_next
      (enumT_next he hit hl hx hne fun h' a b c d k => wpAny_pure (hQ h' a b c d k)) (PySem.F.args_enumerate_next_1 _))))

theorem enumT_end {e it l : Addr} {i : Nat} {items : Array Value} {old : Value} {Q : Option Value → Shared → Prop} (hh : A.handled = none)
    (he : IsEnum s.heap e it i old) (hit : s.heap.IsTupleIter it l i) (hl : s.heap.IsTuple l items) (hx : items[i]? = none)
    (hQ : ∀ h', Heap.ExtBut it s.heap h' → Q none { s with heap := h' }) : wpAny (model prog w) A (pyNext (.ref e)) Q E s := by
  have hT : s.TypeIs (.ref e) "enumerate" := ⟨_, he, rfl⟩
  unfold pyNext
  refine wpAny_bind (wpAny_attempt (wpAny_callSpecial?_slot (name := Str.ofString "__next__") hT PySem.F.slot_enumerate_next
    (wpAny_call_entry PySem.F.slot_enumerate_next hT PySem.F.entry_enumerate_next ?_ (PySem.F.args_enumerate_next_1 _))))
  show wpAny _ _ (field (.ref e) 2 >>= _) _ _ _
  refine wpAny_bind (wpAny_field he rfl (x := .ref it) rfl ?_)
  refine wpAny_bind (RZ.nextOf_tuple_end hh hit hl hx fun h' x he' hx' => ?_)
  obtain ⟨o, ho, hc⟩ := hx'
  refine wpAny_bind (wpAny_isInstance (T := "StopIteration") (b := true) ⟨o, ho, hc⟩ isSubtype_stop ?_)
  exact wpAny_pure (hQ _ he')
theorem meets_enumT (l : Addr) (items : Array Value) (n : Nat) (dct : Option Addr) (sl : Array (Option Value)) :
    Meets (Builtin.«enumerate.__new__» ⟨[.type "enumerate", .ref l], []⟩) (fun _ R s => s.heap.get? l = some { cls := .type "tuple", dict := dct, data := .seq items n, slots := sl } ∧
      R (.ok (.ret (.ref (s.heap.push { cls := .type "tuple_iterator", data := .fields #[.ref l, .int 0 0] }).objs.size)))
        { s with heap := (s.heap.push { cls := .type "tuple_iterator", data := .fields #[.ref l, .int 0 0] }).push { cls := .type "enumerate", data := .fields #[.none, .bool false, .ref s.heap.objs.size, rawInt 0, .none, .none] } }) :=
  .of_wp fun prog w A R s h => by
    obtain ⟨hp, g, d, tk, os⟩ := s; obtain ⟨hl, h⟩ := h
    have hsub := sub_enumerate
    have hL : Heap.IsTuple (Shared.heap ⟨hp, g, d, tk, os⟩) l items := ⟨_, hl, rfl, n, rfl⟩
    wp_walk using wpAny_loadPart' hl
    refine wpAny_stack_any fun st => wpAny_pure ?_
    split
    · rename_i c _ _ _ _ _
      cases (c == Value.type "enumerate")
      · wp_walk using wpAny_loadPart' hl, wpAny_pyIter_tuple hL
        exact ⟨_, rfl, h⟩
      · wp_walk using wpAny_loadPart' hl, wpAny_pyIter_tuple hL
        exact ⟨_, rfl, h⟩
    · wp_walk using wpAny_loadPart' hl, wpAny_pyIter_tuple hL
      exact ⟨_, rfl, h⟩

theorem call_enumT {l : Addr} {items : Array Value} {Q : Value → Shared → Prop} (hL : s.heap.IsTuple l items)
    (h : ∀ h', IsEnum h' (s.heap.objs.size + 1) s.heap.objs.size 0 .none → h'.IsTupleIter s.heap.objs.size l 0 → h'.objs.size = s.heap.objs.size + 2 →
      (∀ b o, s.heap.get? b = some o → h'.get? b = some o) → Q (.ref (s.heap.objs.size + 1)) { s with heap := h' }) :
    wpAny (model prog w) A (call (.type "enumerate") [.ref l]) Q E s := by
  obtain ⟨⟨c, dct, dt, sl⟩, hl, hc, n, hd⟩ := hL
  replace hc : c = .type "tuple" := hc
  replace hd : dt = .seq items n := hd
  subst hc hd
  refine callType_new PySem.F.called_enumerate (by decide) (PySem.F.typeCall_enumerate_1 _) (PySem.F.newCall_enumerate_1 _) (fun obj => PySem.F.args_object_init_2 obj _) PySem.F.entry_enumerate_new
    (meets_enumT l items n dct sl) ⟨hl, ?_⟩
  have hz : (s.heap.push { cls := .type "tuple_iterator", data := .fields #[.ref l, .int 0 0] }).objs.size = s.heap.objs.size + 1 := Heap.size_push ..
  show _ ∧ _
  rw [hz]
  have he : IsEnum ((s.heap.push { cls := .type "tuple_iterator", data := .fields #[.ref l, .int 0 0] }).push
      { cls := .type "enumerate", data := .fields #[.none, .bool false, .ref s.heap.objs.size, rawInt 0, .none, .none] }) (s.heap.objs.size + 1) s.heap.objs.size 0 .none := by
    have := Heap.get?_push_size (s.heap.push { cls := .type "tuple_iterator", data := .fields #[.ref l, .int 0 0] })
      (o := { cls := .type "enumerate", data := .fields #[.none, .bool false, .ref s.heap.objs.size, rawInt 0, .none, .none] }) rfl
    rw [hz] at this; exact this
  refine ⟨⟨_, he, rfl⟩, h _ he ⟨_, Heap.get?_push_of_some _ (Heap.get?_push_size _ rfl), rfl, rfl⟩ (by rw [Heap.size_push, hz]) fun b o x => Heap.get?_push_of_some _ (Heap.get?_push_of_some _ x)⟩

end
def IteT (K : PySem.W.Frag) (a : Addr) : It :=
  ⟨fun i H => ∃ (xs : List V) (x : V), SqT K H a xs ∧ xs[i]? = some x, fun i H v H' => ∃ T x, v = .ref T ∧ H T = none ∧ H' = upd H T (.tup [.int (i : Nat), x]) ∧ ∀ xs, SqT K H a xs → xs[i]? = some x, fun i H => ∃ xs : List V, SqT K H a xs ∧ xs.length ≤ i⟩
theorem turn_enumT {P : Program} {w : World} {K : PySem.W.Frag} {elts : List Expr} {kk : Nat} {tpos : Pos} (a e it : Addr) :
    Turn P w K (.Tuple elts kk tpos) (IteT K a) [e, it] e (fun i h => (∃ old, IsEnum h e it ((i : Nat) : Int) old) ∧ h.IsTupleIter it a i ∧ e ≠ it) where
  mem := by simp
  obj := fun i h st b hb => by
    obtain ⟨⟨old, he⟩, ⟨o, ho, hc, hd⟩, _⟩ := st
    have e' : b = e ∨ b = it := by simpa using hb
    rcases e' with z | z
    · rw [z]; exact ⟨_, he, fun v q => nomatch q⟩
    · rw [z]; exact ⟨o, ho, fun v q => by rw [hd] at q; cases q⟩
  keep := fun i h h' st k => let ⟨⟨old, he⟩, hi, hne⟩ := st; ⟨⟨old, k e (by simp) _ he⟩, hi.at fun o q => k it (by simp) o q, hne⟩
  item := by
    intro X hP hw hK hc i pins s σ H E I hf st hg
    subst hP hw hK
    obtain ⟨⟨old, he⟩, hit, hne⟩ := st
    obtain ⟨xs, x, hq, hx⟩ := hg
    obtain ⟨its, rv, p, hz⟩ := I.tuple hq
    obtain ⟨u, hu, ru⟩ := rv.get hx
    have hel : e < s.heap.objs.size := Heap.lt_size he
    have hil : it < s.heap.objs.size := by obtain ⟨_, q, _⟩ := hit; exact Heap.lt_size q
    refine enumT_item he hit p (x := u) (by simpa using hu) hne fun h' ho hit' hT hsz hk => ?_
    refine ⟨_, rfl, wpAny_letOwnedTupleGo_enum (s := { s with heap := h', toks := s.toks + 1 }) ho fun h'' he' sb => ?_⟩
    have hT2 : h''.get? s.heap.objs.size = some { cls := .type "tuple", data := .seq #[.int i s.toks, u] } := (sb.2 _ (Nat.ne_of_gt hel)).trans hT
    have new : ObjOk X.prog X.w (upd H s.heap.objs.size (.tup [.int (i : Nat), x])) h'' s.heap.objs.size (.tup [.int (i : Nat), x]) :=
      ⟨by show 2 ≤ sizeLine; decide, [.int i s.toks, u], .cons ⟨_, rfl⟩ (.cons ru .nil), ⟨_, hT2, rfl, _, rfl⟩⟩
    have I1 : Inv X pins σ (upd H s.heap.objs.size (.tup [.int (i : Nat), x])) { s with heap := h'', toks := s.toks + 1 } :=
      I.turnedNew (ch := [e, it]) (fun b ob hb q => (sb.2 b (fun z => hb (by simp [z]))).trans (hk b ob (fun z => hb (by simp [z])) (fun z => hb (by simp [z])) q)) hf (Nat.le_refl _) new
    refine ⟨.ref s.heap.objs.size, _, I1, rfl, ⟨_, x, rfl, I.hok.fresh (Nat.le_refl _), rfl, fun ys hy => by rw [I.tuple_inj hy hq]; exact hx⟩, ⟨⟨u, ?_⟩, hit'.at fun o q => (sb.2 it (Ne.symm hne)).trans q, hne⟩, fun b hb => ?_⟩
    · have e1 : ((i + 1 : Nat) : Int) = (i : Int) + 1 := by omega
      rw [e1]; exact he'
    · have hb' : b < s.heap.objs.size := by
        have e' : b = e ∨ b = it := by simpa using hb
        rcases e' with z | z
        · rw [z]; exact hel
        · rw [z]; exact hil
      rw [upd_ne (Nat.ne_of_lt hb')]
      exact (hf b hb).1
  done := by
    intro X hP hw hK hc i pins s σ H E I hf st hg
    subst hP hw hK
    obtain ⟨⟨old, he⟩, hit, hne⟩ := st
    obtain ⟨xs, hq, hx⟩ := hg
    obtain ⟨its, rv, p, hz⟩ := I.tuple hq
    obtain ⟨f0, f1, f2, f3, f4, f5⟩ := hf it (by simp)
    have hl := rv.length
    exact enumT_end (I.ok.hd hc) he hit p (by simp; omega) fun h' eb => ⟨rfl, I.turned (t' := s.toks) (fun b o hb q => eb b o hb q) f0 f1 f3 f4 f5⟩
  self := fun A i s Q E st h => let ⟨⟨_, he⟩, _⟩ := st; wpAny_pyIter_enum he h
def iEnumT (K : PySem.W.Frag) (ta : TA) : TI := fun σ H R => ta σ H fun vs H1 => ∃ a xs, vs = [.ref a] ∧ SqT K H1 a xs ∧ R (IteT K a) H1
theorem pi_enumT {X : Cx} {e : Expr} {ta : TA} {p pos tpos : Pos} {elts : List Expr} {kk : Nat} (hg : Gl X "enumerate") (hm : X.mg "enumerate" = none) (ha : PA X [e] ta) (hs : starEach [e] X.env = [(false, eval e X.env)] := by rfl) :
    PI X (.Tuple elts kk tpos) (.Call (.Name "enumerate" p) [e] [] pos) (iEnumT X.K ta) := by
  refine ⟨fun pins s σ H R I h => ?_⟩
  refine Call_ (ld_blt I hg hm boot_enumerate (PyProof.Rows.callWith_type1 (thn (ha.run pos pins s σ H _ I h) fun us s1 ⟨vs, H1, I1, r1, q1⟩ => ?_) hs rfl))
  obtain ⟨a, xs, ex, hq, q⟩ := q1
  subst ex
  cases r1 with
  | cons r rr =>
    cases rr
    cases r
    obtain ⟨its, rv, p', hz⟩ := I1.tuple hq
    refine call_enumT p' fun h' he hit hsz hk => wpAny_pyIter_enum he ?_
    have I2 : Inv X pins σ H1 { s1 with heap := h' } := I1.kept (t' := s1.toks) hk
    refine ⟨s1.heap.objs.size + 1, [s1.heap.objs.size + 1, s1.heap.objs.size], _, _, H1, rfl, I2, turn_enumT a (s1.heap.objs.size + 1) s1.heap.objs.size, ⟨⟨.none, he⟩, hit, Nat.succ_ne_self _⟩, fun b hb => ?_, q⟩
    have e' : b = s1.heap.objs.size + 1 ∨ b = s1.heap.objs.size := by simpa using hb
    have hle : s1.heap.objs.size ≤ b := by
      rcases e' with z | z
      · rw [z]; exact Nat.le_add_right _ _
      · rw [z]; exact Nat.le_refl _
    exact I1.fpOk hle (I1.hok.fresh hle)
end L2.Gd

set_option Elab.async false
set_option linter.all false
set_option maxRecDepth 100000
namespace L2.Gd
open PySem PySem.Spec PyProof.Rows L2

/-- a value of the plain level -/
inductive DV where
  | no
  | d (x : PyData)
  | own (xs : List PyData)
  | bag
  | raw (φ : Hp → V → Prop)

/-- what the world tells of an address -/
inductive Kd where
  | fix (o : HO)
  | ext (o : HO)
  | bag (c : Addr)
  | cell (b : Addr)

abbrev Wd := Addr → Option Kd

def fx (W : Wd) : Hp := fun a => match W a with
  | some (.fix o) => some o
  | _ => none
theorem fx_of {W : Wd} {a : Addr} {o : HO} (h : W a = some (.fix o)) : fx W a = some o := by unfold fx; rw [h]
theorem of_fx {W : Wd} {a : Addr} {o : HO} (h : fx W a = some o) : W a = some (.fix o) := by
  unfold fx at h
  split at h
  · cases h; assumption
  · cases h

def BagAt (H : Hp) (b c : Addr) : Prop :=
  ∃ (is : List Int) (k m : Int), H b = some (.lst [.ref c, .int k, .int m]) ∧ H c = some (.lst (is.map V.int)) ∧ 0 ≤ k ∧ 0 ≤ m ∧ m < 2147483647 ∧ (∀ i ∈ is, 0 ≤ i) ∧ is.length ≤ 63

def KdOk (W : Wd) (H : Hp) (a : Addr) : Kd → Prop
  | .fix o => H a = some o
  | .ext o => H a = some o
  | .bag c => W c = some (.cell a) ∧ BagAt H a c
  | .cell b => W b = some (.bag a)

def Hold (W : Wd) (H : Hp) : Prop := ∀ a k, W a = some k → KdOk W H a k

theorem Hold.free {W : Wd} {H : Hp} (h : Hold W H) {p : Addr} (n : H p = none) : W p = none := by
  cases e : W p with
  | none => rfl
  | some k =>
    have q := h p k e
    cases k with
    | fix o => rw [show H p = some o from q] at n; cases n
    | ext o => rw [show H p = some o from q] at n; cases n
    | bag c =>
      obtain ⟨_, is, k, m, z, _⟩ := q
      rw [z] at n; cases n
    | cell b =>
      obtain ⟨_, is, k, m, _, z, _⟩ := h b _ q
      rw [z] at n; cases n
theorem Hold.same {W : Wd} {H : Hp} (h : Hold W H) : Same (fx W) H := fun a o e => h a _ (of_fx e)

structure Le (W W' : Wd) : Prop where
  keep : ∀ a k, W a = some k → W' a = some k
  ext : ∀ a o, W' a = some (.ext o) → W a = some (.ext o)
theorem Le.refl (W : Wd) : Le W W := ⟨fun _ _ h => h, fun _ _ h => h⟩
theorem Le.trans {W W1 W2 : Wd} (a : Le W W1) (b : Le W1 W2) : Le W W2 := ⟨fun c k h => b.keep c k (a.keep c k h), fun c o h => a.ext c o (b.ext c o h)⟩
theorem Le.fx {W W' : Wd} (a : Le W W') : Same (fx W) (fx W') := fun b o h => fx_of (a.keep b _ (of_fx h))

/-- an address written into the world -/
def wput (W : Wd) (a : Addr) (k : Kd) : Wd := fun b => if b = a then some k else W b
theorem wput_same {W : Wd} {a : Addr} {k : Kd} : wput W a k a = some k := by unfold wput; rw [if_pos rfl]
theorem wput_ne {W : Wd} {a b : Addr} {k : Kd} (h : b ≠ a) : wput W a k b = W b := by unfold wput; rw [if_neg h]
theorem Le.wput {W : Wd} {a : Addr} {o : HO} (n : W a = none) : Le W (wput W a (.fix o)) := by
  refine ⟨fun b k h => ?_, fun b o' h => ?_⟩
  · rw [wput_ne (by rintro rfl; rw [n] at h; cases h)]; exact h
  · by_cases e : b = a
    · subst e; rw [wput_same] at h; cases h
    · rw [wput_ne e] at h; exact h

mutual
/-- v is the data d, by what stands at H -/
inductive Dt (H : Hp) : V → PyData → Prop
  | non : Dt H .non .none
  | bl (b : Bool) : Dt H (.bl b) (.bool b)
  | int (i : Int) : Dt H (.int i) (.int i)
  | str (x : Str) : Dt H (.str x) (.str x)
  | lst {a : Addr} {xs : List V} {ds : List PyData} : H a = some (.lst xs) → DtAll H xs ds → Dt H (.ref a) (.list ds)
  | tup {a : Addr} {xs : List V} {ds : List PyData} : H a = some (.tup xs) → DtAll H xs ds → Dt H (.ref a) (.tuple ds)
inductive DtAll (H : Hp) : List V → List PyData → Prop
  | nil : DtAll H [] []
  | cons {v : V} {vs : List V} {d : PyData} {ds : List PyData} : Dt H v d → DtAll H vs ds → DtAll H (v :: vs) (d :: ds)
end
section
mutual
theorem Dt.mono {H H' : Hp} (e : Same H H') : ∀ {v : V} {d : PyData}, Dt H v d → Dt H' v d
  | _, _, .non => .non
  | _, _, .bl b => .bl b
  | _, _, .int i => .int i
  | _, _, .str x => .str x
  | _, _, .lst h a => .lst (e _ _ h) (DtAll.mono e a)
  | _, _, .tup h a => .tup (e _ _ h) (DtAll.mono e a)
theorem DtAll.mono {H H' : Hp} (e : Same H H') : ∀ {vs : List V} {ds : List PyData}, DtAll H vs ds → DtAll H' vs ds
  | _, _, .nil => .nil
  | _, _, .cons h t => .cons (Dt.mono e h) (DtAll.mono e t)
end
mutual
theorem Dt.dp (K : PySem.W.Frag) {H : Hp} : ∀ {v : V} {d : PyData}, Dt H v d → Dp K H v d
  | _, _, .non => .non
  | _, _, .bl b => .bl b
  | _, _, .int i => .int i
  | _, _, .str x => .str x
  | _, _, .lst h a => .lst (SqL.of h) (DtAll.dp K a)
  | _, _, .tup h a => .tup (SqT.of h) (DtAll.dp K a)
theorem DtAll.dp (K : PySem.W.Frag) {H : Hp} : ∀ {vs : List V} {ds : List PyData}, DtAll H vs ds → DpAll K H vs ds
  | _, _, .nil => .nil
  | _, _, .cons h t => .cons (Dt.dp K h) (DtAll.dp K t)
end
theorem DtAll.length {H : Hp} : ∀ {vs : List V} {ds : List PyData}, DtAll H vs ds → vs.length = ds.length
  | _, _, .nil => rfl
  | _, _, .cons _ t => by simp [DtAll.length t]
theorem DtAll.get {H : Hp} : ∀ {vs : List V} {ds : List PyData} {i : Nat} {d : PyData}, DtAll H vs ds → ds[i]? = some d → ∃ v, vs[i]? = some v ∧ Dt H v d
  | _, _, _, _, .nil, e => by simp at e
  | _, _, 0, _, .cons h _, e => by simp at e; subst e; exact ⟨_, rfl, h⟩
  | _, _, i + 1, _, .cons _ t, e => by
    obtain ⟨v, h1, h2⟩ := DtAll.get (i := i) t (by simpa using e)
    exact ⟨v, by simpa using h1, h2⟩
theorem DtAll.get' {H : Hp} : ∀ {vs : List V} {ds : List PyData} {i : Nat} {v : V}, DtAll H vs ds → vs[i]? = some v → ∃ d, ds[i]? = some d ∧ Dt H v d
  | _, _, _, _, .nil, e => by simp at e
  | _, _, 0, _, .cons h _, e => by simp at e; subst e; exact ⟨_, rfl, h⟩
  | _, _, i + 1, _, .cons _ t, e => by
    obtain ⟨v, h1, h2⟩ := DtAll.get' (i := i) t (by simpa using e)
    exact ⟨v, by simpa using h1, h2⟩
theorem DtAll.append {H : Hp} : ∀ {vs ws : List V} {ds es : List PyData}, DtAll H vs ds → DtAll H ws es → DtAll H (vs ++ ws) (ds ++ es)
  | _, _, _, _, .nil, t => t
  | _, _, _, _, .cons h t, u => .cons h (DtAll.append t u)
theorem DtAll.take {H : Hp} : ∀ {vs : List V} {ds : List PyData} (n : Nat), DtAll H vs ds → DtAll H (vs.take n) (ds.take n)
  | _, _, 0, _ => .nil
  | _, _, _ + 1, .nil => .nil
  | _, _, n + 1, .cons h t => .cons h (DtAll.take n t)
theorem DtAll.drop {H : Hp} : ∀ {vs : List V} {ds : List PyData} (n : Nat), DtAll H vs ds → DtAll H (vs.drop n) (ds.drop n)
  | _, _, 0, h => h
  | _, _, _ + 1, .nil => .nil
  | _, _, n + 1, .cons _ t => DtAll.drop n t
theorem DtAll.set {H : Hp} {v : V} {d : PyData} (r : Dt H v d) : ∀ {vs : List V} {ds : List PyData} (i : Nat), DtAll H vs ds → DtAll H (vs.set i v) (ds.set i d)
  | _, _, _, .nil => .nil
  | _, _, 0, .cons _ t => .cons r t
  | _, _, i + 1, .cons q t => .cons q (DtAll.set r i t)
theorem DtAll.reverse {H : Hp} : ∀ {vs : List V} {ds : List PyData}, DtAll H vs ds → DtAll H vs.reverse ds.reverse
  | _, _, .nil => .nil
  | _, _, .cons h t => by
    rw [List.reverse_cons, List.reverse_cons]
    exact DtAll.append (DtAll.reverse t) (.cons h .nil)
theorem DtAll.ints {H : Hp} : ∀ (is : List Int), DtAll H (is.map V.int) (is.map PyData.int)
  | [] => .nil
  | i :: is => .cons (.int i) (DtAll.ints is)
theorem DtAll.of_ints {H : Hp} : ∀ {vs : List V} {is : List Int}, DtAll H vs (is.map PyData.int) → vs = is.map V.int
  | [], [], _ => rfl
  | [], _ :: _, h => by cases h
  | _ :: _, [], h => by cases h
  | v :: vs, i :: is, h => by
    cases h with
    | cons h t => cases h; rw [DtAll.of_ints t]; rfl

/-- v stands for x at the place i -/
def ValOk (W : Wd) (H : Hp) (o : Nat → Addr) (i : Nat) (v : Option V) : DV → Prop
  | .no => True
  | .d x => ∃ y, v = some y ∧ Dt (fx W) y x
  | .own xs => v = some (.ref (o i)) ∧ W (o i) = none ∧ ∃ ys, H (o i) = some (.lst ys) ∧ DtAll (fx W) ys xs
  | .bag => ∃ b c, v = some (.ref b) ∧ W b = some (.bag c)
  | .raw φ => ∃ y, v = some y ∧ ∀ H', Same (fx W) H' → φ H' y

structure Rel (W : Wd) (H : Hp) (vs : List (Option V)) (ds : List DV) : Prop where
  hold : Hold W H
  len : vs.length = ds.length
  ex : ∃ o : Nat → Addr, (∀ i x, ds[i]? = some x → ∃ v, vs[i]? = some v ∧ ValOk W H o i v x) ∧
    ∀ i j xs ys, ds[i]? = some (.own xs) → ds[j]? = some (.own ys) → i ≠ j → o i ≠ o j

/-- slots σ with temporaries τ stand for η with θ -/
structure R5 (W : Wd) (H : Hp) (σ : L2.St) (τ : List V) (η θ : List DV) : Prop where
  len : σ.length = η.length
  rel : Rel W H (σ ++ τ.map some) (η ++ θ)

theorem app_one {α : Type} {ds : List α} {x z : α} {i : Nat} (e : (ds ++ [x])[i]? = some z) : (i < ds.length ∧ ds[i]? = some z) ∨ (i = ds.length ∧ z = x) := by
  by_cases hi : i < ds.length
  · rw [List.getElem?_append_left hi] at e; exact .inl ⟨hi, e⟩
  · rw [List.getElem?_append_right (by omega)] at e
    have h : i - ds.length = 0 := by
      cases q : i - ds.length with
      | zero => rfl
      | succ n => rw [q] at e; simp at e
    rw [h] at e
    simp at e
    exact .inr ⟨by omega, e.symm⟩

section
variable {W W' : Wd} {H H' : Hp} {vs : List (Option V)} {ds : List DV} {σ : L2.St} {τ : List V} {η θ : List DV} {o o' : Nat → Addr} {i j : Nat} {v : V} {x : DV}

theorem ValOk.re {y : Option V} (h : ValOk W H o i y x) (e : o' j = o i) : ValOk W H o' j y x := by
  cases x with
  | own xs => simp only [ValOk, e] at h ⊢; exact h
  | _ => exact h

theorem Rel.nil (h : Hold W H) : Rel W H [] [] := ⟨h, rfl, fun _ => 0, fun i x e => by simp at e, fun i j xs ys e => by simp at e⟩

/-- the world grows, own cells stay -/
theorem Rel.step (r : Rel W H vs ds) (l : Le W W') (h : Hold W' H') (k : ∀ a ys, W a = none → H a = some (.lst ys) → H' a = some (.lst ys) ∧ W' a = none) : Rel W' H' vs ds := by
  obtain ⟨_, ln, o, a, b⟩ := r
  refine ⟨h, ln, o, fun i x e => ?_, b⟩
  obtain ⟨v, e1, e2⟩ := a i x e
  refine ⟨v, e1, ?_⟩
  cases x with
  | no => trivial
  | d x => obtain ⟨y, e3, e4⟩ := e2; exact ⟨y, e3, Dt.mono l.fx e4⟩
  | own xs =>
    obtain ⟨e3, e4, ys, e5, e6⟩ := e2
    obtain ⟨k1, k2⟩ := k _ _ e4 e5
    exact ⟨e3, k2, ys, k1, DtAll.mono l.fx e6⟩
  | bag => obtain ⟨b, c, e3, e4⟩ := e2; exact ⟨b, c, e3, l.keep _ _ e4⟩
  | raw y => obtain ⟨z, e3, e4⟩ := e2; exact ⟨z, e3, fun H' s => e4 H' (Same.trans l.fx s)⟩
theorem R5.step (r : R5 W H σ τ η θ) (l : Le W W') (h : Hold W' H') (k : ∀ a ys, W a = none → H a = some (.lst ys) → H' a = some (.lst ys) ∧ W' a = none) : R5 W' H' σ τ η θ :=
  ⟨r.len, r.rel.step l h k⟩

/-- any choice of places -/
theorem Rel.sub {ws : List (Option V)} {es : List DV} (r : Rel W H vs ds) (hl : ws.length = es.length) (f : Nat → Nat) (hf : ∀ i x, es[i]? = some x → x = .no ∧ (∃ v, ws[i]? = some v) ∨ ds[f i]? = some x ∧ ws[i]? = vs[f i]?)
    (inj : ∀ i j, i < es.length → j < es.length → f i = f j → i ≠ j → ∀ xs ys, es[i]? = some (.own xs) → es[j]? = some (.own ys) → False) : Rel W H ws es := by
  obtain ⟨h, ln, o, a, b⟩ := r
  refine ⟨h, hl, fun i => o (f i), fun i x e => ?_, fun i j xs ys e1 e2 hij => ?_⟩
  · rcases hf i x e with ⟨rfl, v, hv⟩ | ⟨e1, e2⟩
    · exact ⟨v, hv, trivial⟩
    · obtain ⟨v, e3, e4⟩ := a _ _ e1
      exact ⟨v, e2.trans e3, ValOk.re (o := o) (i := f i) e4 rfl⟩
  · by_cases q : f i = f j
    · exact (inj i j (List.getElem?_eq_some_iff.mp e1).1 (List.getElem?_eq_some_iff.mp e2).1 q hij xs ys e1 e2).elim
    · rcases hf i _ e1 with ⟨z, _⟩ | ⟨e3, _⟩
      · cases z
      · rcases hf j _ e2 with ⟨z, _⟩ | ⟨e4, _⟩
        · cases z
        · exact b _ _ xs ys e3 e4 q

/-- the first of them -/
theorem Rel.left {ws : List (Option V)} {es : List DV} (r : Rel W H (vs ++ ws) (ds ++ es)) (hl : vs.length = ds.length) : Rel W H vs ds := by
  refine r.sub hl (fun i => i) (fun i x e => .inr ⟨?_, ?_⟩) fun i j _ _ e hij _ _ _ _ => hij e
  · rw [List.getElem?_append_left (List.getElem?_eq_some_iff.mp e).1]; exact e
  · show _ = (vs ++ ws)[i]?
    rw [List.getElem?_append_left (by rw [hl]; exact (List.getElem?_eq_some_iff.mp e).1)]
/-- the last of them -/
theorem Rel.right {ws : List (Option V)} {es : List DV} (r : Rel W H (vs ++ ws) (ds ++ es)) (hl : vs.length = ds.length) : Rel W H ws es := by
  have hl2 : ws.length = es.length := by have := r.len; simp at this; omega
  refine r.sub hl2 (fun i => ds.length + i) (fun i x e => .inr ⟨?_, ?_⟩) fun i j _ _ e hij _ _ _ _ => hij (by omega)
  · rw [List.getElem?_append_right (by omega)]; simpa using e
  · rw [List.getElem?_append_right (by omega)]
    congr 1; omega
theorem R5.left {τ' : List V} {θ' : List DV} (r : R5 W H σ (τ ++ τ') η (θ ++ θ')) (hl : τ.length = θ.length) : R5 W H σ τ η θ := by
  refine ⟨r.len, Rel.left (ws := τ'.map some) (es := θ') ?_ (by rw [List.length_append, List.length_append, List.length_map, r.len, hl])⟩
  have := r.rel
  rw [List.map_append, ← List.append_assoc, ← List.append_assoc] at this
  exact this
theorem R5.lens (r : R5 W H σ τ η θ) : τ.length = θ.length := by
  have := r.rel.len
  rw [List.length_append, List.length_append, List.length_map, r.len] at this
  omega
theorem R5.pop (r : R5 W H σ (τ ++ [v]) η (θ ++ [x])) : R5 W H σ τ η θ := r.left (by have := r.lens; simp at this; exact this)
theorem R5.last (r : R5 W H σ τ η θ) : Rel W H (τ.map some) θ := r.rel.right r.len
theorem R5.hold (r : R5 W H σ τ η θ) : Hold W H := r.rel.hold

/-- one more: a value that leans on the world alone -/
theorem Rel.push {y : Option V} (r : Rel W H vs ds) (h : ∀ o : Nat → Addr, ValOk W H o ds.length y x) (hn : ∀ xs, x ≠ .own xs) : Rel W H (vs ++ [y]) (ds ++ [x]) := by
  obtain ⟨hh, ln, o, a, b⟩ := r
  refine ⟨hh, by simp [ln], o, fun i z e => ?_, fun i j xs ys e1 e2 hij => ?_⟩
  · rcases app_one e with ⟨hi, e⟩ | ⟨rfl, rfl⟩
    · obtain ⟨v, e1, e2⟩ := a i z e
      refine ⟨v, ?_, e2⟩
      rw [List.getElem?_append_left (List.getElem?_eq_some_iff.mp e1).1]
      exact e1
    · exact ⟨y, by rw [← ln]; simp, h o⟩
  · rcases app_one e1 with ⟨_, e1⟩ | ⟨_, q⟩
    · rcases app_one e2 with ⟨_, e2⟩ | ⟨_, q⟩
      · exact b i j xs ys e1 e2 hij
      · exact absurd q.symm (hn _)
    · exact absurd q.symm (hn _)
theorem R5.push (r : R5 W H σ τ η θ) (h : ∀ (o : Nat → Addr) (n : Nat), ValOk W H o n (some v) x) (hn : ∀ xs, x ≠ .own xs) : R5 W H σ (τ ++ [v]) η (θ ++ [x]) := by
  refine ⟨r.len, ?_⟩
  rw [List.map_append, ← List.append_assoc, ← List.append_assoc]
  exact r.rel.push (fun o => h o _) hn
theorem R5.pushD {d : PyData} (r : R5 W H σ τ η θ) (h : Dt (fx W) v d) : R5 W H σ (τ ++ [v]) η (θ ++ [.d d]) :=
  r.push (fun _ _ => ⟨v, rfl, h⟩) fun _ q => nomatch q

/-- one more: a new cell of one's own, where nothing stood -/
theorem Rel.pushOwn {p : Addr} {ys : List V} {xs : List PyData} (r : Rel W H vs ds) (hp : H p = none) (h : DtAll (fx W) ys xs) : Rel W (upd H p (.lst ys)) (vs ++ [some (.ref p)]) (ds ++ [.own xs]) := by
  have wp := r.hold.free hp
  have same : Same H (upd H p (.lst ys)) := fun b o e => by rw [upd_ne (ne_of_none e hp)]; exact e
  have hold : Hold W (upd H p (.lst ys)) := fun a k e => by
    have q := r.hold a k e
    cases k with
    | fix o => exact same _ _ q
    | ext o => exact same _ _ q
    | bag c => obtain ⟨q1, is, k, m, z1, z2, z⟩ := q; exact ⟨q1, is, k, m, same _ _ z1, same _ _ z2, z⟩
    | cell b => exact q
  obtain ⟨_, ln, o, a, b⟩ := r.step (Le.refl W) hold fun a zs w e => ⟨same _ _ e, w⟩
  obtain ⟨_, _, o0, a0, b0⟩ := r
  have nep : ∀ i zs, ds[i]? = some (.own zs) → o0 i ≠ p := fun i zs e q => by
    obtain ⟨_, _, _, _, ys, e5, _⟩ := a0 i _ e
    rw [q, hp] at e5; cases e5
  refine ⟨hold, by simp [ln], fun i => if i = ds.length then p else o0 i, fun i z e => ?_, fun i j zs ws e1 e2 hij => ?_⟩
  · rcases app_one e with ⟨hi, e⟩ | ⟨rfl, rfl⟩
    · obtain ⟨v, e1, e2⟩ := a0 i z e
      refine ⟨v, ?_, ?_⟩
      · rw [List.getElem?_append_left (List.getElem?_eq_some_iff.mp e1).1]; exact e1
      · have ni : i ≠ ds.length := by omega
        refine ValOk.re (o := o0) (i := i) ?_ (if_neg ni)
        cases z with
        | own zs => obtain ⟨e3, e4, ys, e5, e6⟩ := e2; exact ⟨e3, e4, ys, same _ _ e5, e6⟩
        | no => trivial
        | d x => exact e2
        | bag => exact e2
        | raw y => exact e2
    · refine ⟨some (.ref p), by rw [← ln, List.getElem?_append_right (Nat.le_refl _)]; simp, ?_⟩
      show some (V.ref p) = some (.ref (if ds.length = ds.length then p else o0 ds.length)) ∧ W (if ds.length = ds.length then p else o0 ds.length) = none ∧ ∃ zs, upd H p (.lst ys) (if ds.length = ds.length then p else o0 ds.length) = some (.lst zs) ∧ DtAll (fx W) zs xs
      rw [if_pos rfl]
      exact ⟨rfl, wp, ys, upd_same, h⟩
  · show (if i = ds.length then p else o0 i) ≠ (if j = ds.length then p else o0 j)
    rcases app_one e1 with ⟨hi, e1⟩ | ⟨hi, _⟩
    · rw [if_neg (by omega)]
      rcases app_one e2 with ⟨hj, e2⟩ | ⟨hj, _⟩
      · rw [if_neg (by omega)]; exact b0 i j zs ws e1 e2 hij
      · rw [if_pos hj]; exact nep i zs e1
    · rw [if_pos hi]
      rcases app_one e2 with ⟨hj, e2⟩ | ⟨hj, _⟩
      · rw [if_neg (by omega)]; exact (nep j ws e2).symm
      · omega
theorem R5.pushOwn {p : Addr} {ys : List V} {xs : List PyData} (r : R5 W H σ τ η θ) (hp : H p = none) (h : DtAll (fx W) ys xs) : R5 W (upd H p (.lst ys)) σ (τ ++ [.ref p]) η (θ ++ [.own xs]) := by
  refine ⟨r.len, ?_⟩
  rw [List.map_append, ← List.append_assoc, ← List.append_assoc]
  exact r.rel.pushOwn hp h
theorem Hold.fix {o : HO} {p : Addr} (h : Hold W H) (hp : H p = none) : Hold (wput W p (.fix o)) (upd H p o) := by
  have wp := h.free hp
  have same : Same H (upd H p o) := fun b u e => by rw [upd_ne (ne_of_none e hp)]; exact e
  have keep : ∀ a k, W a = some k → wput W p (.fix o) a = some k := (Le.wput wp).keep
  intro a k e
  by_cases q : a = p
  · subst q
    rw [wput_same] at e
    cases e
    exact upd_same
  · rw [wput_ne q] at e
    have z := h a k e
    cases k with
    | fix o => exact same _ _ z
    | ext o => exact same _ _ z
    | bag c => obtain ⟨q1, is, k, m, z1, z2, z⟩ := z; exact ⟨keep _ _ q1, is, k, m, same _ _ z1, same _ _ z2, z⟩
    | cell b => exact keep _ _ z
/-- a new thing that never changes -/
theorem R5.fix {ob : HO} {p : Addr} (r : R5 W H σ τ η θ) (hp : H p = none) : R5 (wput W p (.fix ob)) (upd H p ob) σ τ η θ := by
  refine r.step (Le.wput (r.hold.free hp)) (r.hold.fix hp) fun a ys w e => ?_
  have q : a ≠ p := ne_of_none e hp
  rw [upd_ne q, wput_ne q]
  exact ⟨e, w⟩
theorem R5.pushTup {p : Addr} {ys : List V} {xs : List PyData} (r : R5 W H σ τ η θ) (hp : H p = none) (h : DtAll (fx W) ys xs) : R5 (wput W p (.fix (.tup ys))) (upd H p (.tup ys)) σ (τ ++ [.ref p]) η (θ ++ [.d (.tuple xs)]) :=
  (r.fix hp).pushD (.tup (fx_of wput_same) (DtAll.mono (Le.wput (r.hold.free hp)).fx h))

/-- an own cell no longer changes -/
theorem Rel.freeze {xs : List PyData} (r : Rel W H vs ds) (e : ds[i]? = some (.own xs)) : ∃ W', Le W W' ∧ Rel W' H vs (ds.set i (.d (.list xs))) := by
  obtain ⟨h, ln, o, a, b⟩ := r
  obtain ⟨v, e1, e3, e4, ys, e5, e6⟩ := a i _ e
  have l : Le W (wput W (o i) (.fix (.lst ys))) := Le.wput e4
  refine ⟨wput W (o i) (.fix (.lst ys)), l, fun c k q => ?_, by simp [ln], o, fun j x q => ?_, fun j k zs ws e1 e2 hjk => ?_⟩
  · by_cases z : c = o i
    · subst z; rw [wput_same] at q; cases q; exact e5
    · rw [wput_ne z] at q
      have z := h c k q
      cases k with
      | fix o => exact z
      | ext o => exact z
      | bag c => obtain ⟨q1, z⟩ := z; exact ⟨l.keep _ _ q1, z⟩
      | cell b => exact l.keep _ _ z
  · by_cases hj : j = i
    · subst hj
      rw [List.getElem?_set_self (List.getElem?_eq_some_iff.mp e).1] at q
      cases q
      exact ⟨v, e1, .ref (o j), e3, .lst (fx_of wput_same) (DtAll.mono l.fx e6)⟩
    · rw [List.getElem?_set_ne (Ne.symm hj)] at q
      obtain ⟨u, q1, q2⟩ := a j x q
      refine ⟨u, q1, ?_⟩
      cases x with
      | no => trivial
      | d x => obtain ⟨y, q3, q4⟩ := q2; exact ⟨y, q3, Dt.mono l.fx q4⟩
      | own zs =>
        obtain ⟨q3, q4, ws, q5, q6⟩ := q2
        exact ⟨q3, by rw [wput_ne (b j i zs xs q e hj)]; exact q4, ws, q5, DtAll.mono l.fx q6⟩
      | bag => obtain ⟨b, c, q3, q4⟩ := q2; exact ⟨b, c, q3, l.keep _ _ q4⟩
      | raw y => obtain ⟨z, e3, e4⟩ := q2; exact ⟨z, e3, fun H' s => e4 H' (Same.trans l.fx s)⟩
  · have hj : j ≠ i := by rintro rfl; rw [List.getElem?_set_self (List.getElem?_eq_some_iff.mp e).1] at e1; cases e1
    have hk : k ≠ i := by rintro rfl; rw [List.getElem?_set_self (List.getElem?_eq_some_iff.mp e).1] at e2; cases e2
    rw [List.getElem?_set_ne (Ne.symm hj)] at e1
    rw [List.getElem?_set_ne (Ne.symm hk)] at e2
    exact b j k zs ws e1 e2 hjk

/-- an own cell is written -/
theorem Rel.write {xs xs' : List PyData} {p : Addr} {ys' : List V} (r : Rel W H vs ds) (e : ds[i]? = some (.own xs)) (ev : vs[i]? = some (some (.ref p))) (h : DtAll (fx W) ys' xs') :
    Rel W (upd H p (.lst ys')) vs (ds.set i (.own xs')) := by
  obtain ⟨hh, ln, o, a, b⟩ := r
  obtain ⟨v, e1, e3, e4, ys, e5, e6⟩ := a i _ e
  have hp : o i = p := by rw [ev] at e1; cases e1; injection e3 with e3; injection e3 with e3; exact e3.symm
  subst hp
  have ne : ∀ c k, W c = some k → c ≠ o i := fun c k q z => by rw [z, e4] at q; cases q
  have neb : ∀ c d, W c = some (.bag d) → d ≠ o i := fun c d q z => by
    have := (hh c _ q).1
    rw [z, e4] at this; cases this
  refine ⟨fun c k q => ?_, by simp [ln], o, fun j x q => ?_, fun j k zs ws e1 e2 hjk => ?_⟩
  · have z := hh c k q
    have nc := ne c k q
    cases k with
    | fix u => exact (upd_ne nc).trans z
    | ext u => exact (upd_ne nc).trans z
    | bag d =>
      obtain ⟨q1, is, k, m, z1, z2, z⟩ := z
      exact ⟨q1, is, k, m, (upd_ne nc).trans z1, (upd_ne (neb c d q)).trans z2, z⟩
    | cell b => exact z
  · by_cases hj : j = i
    · subst hj
      rw [List.getElem?_set_self (List.getElem?_eq_some_iff.mp e).1] at q
      cases q
      exact ⟨v, e1, e3, e4, ys', upd_same, h⟩
    · rw [List.getElem?_set_ne (Ne.symm hj)] at q
      obtain ⟨u, q1, q2⟩ := a j x q
      refine ⟨u, q1, ?_⟩
      cases x with
      | no => trivial
      | d x => exact q2
      | own zs =>
        obtain ⟨q3, q4, ws, q5, q6⟩ := q2
        exact ⟨q3, q4, ws, (upd_ne (b j i zs xs q e hj)).trans q5, q6⟩
      | bag => exact q2
      | raw y => exact q2
  · have own_of : ∀ {k : Nat} {zs : List PyData}, (ds.set i (.own xs'))[k]? = some (.own zs) → ∃ us, ds[k]? = some (.own us) := fun {k zs} q => by
      by_cases hk : k = i
      · subst hk; exact ⟨xs, e⟩
      · rw [List.getElem?_set_ne (Ne.symm hk)] at q; exact ⟨zs, q⟩
    obtain ⟨us, q1⟩ := own_of e1
    obtain ⟨us', q2⟩ := own_of e2
    exact b j k us us' q1 q2 hjk

/-- what stands in a slot -/
theorem R5.at (r : R5 W H σ τ η θ) (e : η[i]? = some x) : ∃ (o : Nat → Addr) (v : Option V), σ[i]? = some v ∧ ValOk W H o i v x := by
  obtain ⟨h, ln, o, a, b⟩ := r.rel
  have hi := (List.getElem?_eq_some_iff.mp e).1
  obtain ⟨v, e1, e2⟩ := a i x (by rw [List.getElem?_append_left hi]; exact e)
  rw [List.getElem?_append_left (by rw [r.len]; exact hi)] at e1
  exact ⟨o, v, e1, e2⟩
/-- what is held last -/
theorem R5.top (r : R5 W H σ (τ ++ [v]) η (θ ++ [x])) : ∃ (o : Nat → Addr) (n : Nat), ValOk W H o n (some v) x := by
  obtain ⟨h, ln, o, a, b⟩ := r.rel
  have hl := r.lens
  have hl2 := r.len
  simp only [List.length_append, List.length_cons, List.length_nil] at hl
  obtain ⟨u, e1, e2⟩ := a (η.length + θ.length) x (by
    rw [List.getElem?_append_right (by omega), List.getElem?_append_right (by omega)]
    have : η.length + θ.length - η.length - θ.length = 0 := by omega
    rw [this]; rfl)
  refine ⟨o, η.length + θ.length, ?_⟩
  have : (σ ++ (τ ++ [v]).map some)[η.length + θ.length]? = some (some v) := by
    rw [List.getElem?_append_right (by omega), List.map_append, List.getElem?_append_right (by rw [List.length_map]; omega), List.length_map]
    have : η.length + θ.length - σ.length - τ.length = 0 := by omega
    rw [this]; rfl
  rw [this] at e1
  cases e1
  exact e2
theorem R5.topD {d : PyData} (r : R5 W H σ (τ ++ [v]) η (θ ++ [.d d])) : Dt (fx W) v d := by
  obtain ⟨o, n, y, e, h⟩ := r.top
  cases e
  exact h
end
end
end L2.Gd

set_option Elab.async false
set_option linter.all false
set_option maxRecDepth 100000
set_option maxHeartbeats 1000000
namespace L2.Gd
open PySem PySem.Spec PyProof.Rows L2

abbrev En := List DV
abbrev TD := En → (DV → En → Prop) → Prop
abbrev TF := En → (PyData → En → Prop) → Prop
abbrev TB := En → (Bool → En → Prop) → Prop
abbrev TL := En → (List DV → En → Prop) → Prop

def nth : En → Nat → DV
  | [], _ => .no
  | x :: _, 0 => x
  | _ :: r, n + 1 => nth r n
def put : En → Nat → DV → En
  | [], _, _ => []
  | _ :: r, 0, y => y :: r
  | x :: r, n + 1, y => x :: put r n y
theorem nth_some : ∀ {η : En} {i : Nat} {x : DV}, nth η i = x → x ≠ .no → η[i]? = some x
  | [], _, x, h, n => by exact absurd h.symm n
  | _ :: _, 0, x, h, _ => by simpa [nth] using h
  | _ :: r, i + 1, x, h, n => by simpa using nth_some (η := r) (i := i) h n
theorem put_eq : ∀ (η : En) (i : Nat) (y : DV), put η i y = η.set i y
  | [], _, _ => rfl
  | _ :: _, 0, _ => rfl
  | x :: r, i + 1, y => by simp [put, put_eq r i y]

theorem _root_.L2.PE.weak {X : Cx} {e : Expr} {t t' : TE} (h : PE X e t) (w : ∀ σ H Q, t' σ H Q → t σ H Q) : PE X e t' := ⟨fun pins s σ H Q I q => h.run pins s σ H Q I (w σ H Q q)⟩
theorem _root_.L2.PT.weak {X : Cx} {e : Expr} {t t' : TT} (h : PT X e t) (w : ∀ σ H Q, t' σ H Q → t σ H Q) : PT X e t' := ⟨fun pins s σ H Q I q => h.run pins s σ H Q I (w σ H Q q)⟩
theorem _root_.L2.PW.weak {X : Cx} {e : Expr} {t t' : TT} (h : PW X e t) (w : ∀ σ H Q, t' σ H Q → t σ H Q) : PW X e t' := ⟨fun wh pins s σ H Q I q => h.run wh pins s σ H Q I (w σ H Q q)⟩
theorem _root_.L2.PA.weak {X : Cx} {e : List Expr} {t t' : TA} (h : PA X e t) (w : ∀ σ H Q, t' σ H Q → t σ H Q) : PA X e t' := ⟨fun pos pins s σ H Q I q => h.run pos pins s σ H Q I (w σ H Q q)⟩

/-- a value that may be read now: of the world, or an own list -/
inductive Pk (W : Wd) (H : Hp) : V → PyData → Prop
  | old {v : V} {d : PyData} : Dt (fx W) v d → Pk W H v d
  | own {a : Addr} {ys : List V} {xs : List PyData} : H a = some (.lst ys) → DtAll (fx W) ys xs → Pk W H (.ref a) (.list xs)
theorem Pk.dt {W : Wd} {H : Hp} {v : V} {d : PyData} (h : Hold W H) : Pk W H v d → Dt H v d
  | .old x => Dt.mono h.same x
  | .own a b => .lst a (DtAll.mono h.same b)
theorem Pk.list {W : Wd} {H : Hp} {v : V} {xs : List PyData} (h : Hold W H) : Pk W H v (.list xs) → ∃ a ys, v = .ref a ∧ H a = some (.lst ys) ∧ DtAll (fx W) ys xs
  | .old (.lst a b) => ⟨_, _, rfl, h.same _ _ a, b⟩
  | .own a b => ⟨_, _, rfl, a, b⟩
theorem Pk.tuple {W : Wd} {H : Hp} {v : V} {xs : List PyData} (h : Hold W H) : Pk W H v (.tuple xs) → ∃ a ys, v = .ref a ∧ H a = some (.tup ys) ∧ fx W a = some (.tup ys) ∧ DtAll (fx W) ys xs
  | .old (.tup a b) => ⟨_, _, rfl, h.same _ _ a, a, b⟩

def lE (t : TD) : TE := fun σ H Q => ∃ (W : Wd) (τ : List V) (η θ : En) (Qd : DV → En → Prop), R5 W H σ τ η θ ∧ t η Qd ∧
  ∀ W' v H' η' x, Le W W' → R5 W' H' σ (τ ++ [v]) η' (θ ++ [x]) → Qd x η' → Q v H'
def lF (t : TF) : TE := fun σ H Q => ∃ (W : Wd) (τ : List V) (η θ : En) (Qd : PyData → En → Prop), R5 W H σ τ η θ ∧ t η Qd ∧
  ∀ W' v H' η' x, Le W W' → R5 W' H' σ τ η' θ → Pk W' H' v x → Qd x η' → Q v H'
def lB (t : TB) : TT := fun σ H Q => ∃ (W : Wd) (τ : List V) (η θ : En) (Qd : Bool → En → Prop), R5 W H σ τ η θ ∧ t η Qd ∧
  ∀ W' b H' η', Le W W' → R5 W' H' σ τ η' θ → Qd b η' → Q b H'
def lL (t : TL) : TA := fun σ H Q => ∃ (W : Wd) (τ : List V) (η θ : En) (Qd : List DV → En → Prop), R5 W H σ τ η θ ∧ t η Qd ∧
  ∀ W' vs H' η' xs, Le W W' → R5 W' H' σ (τ ++ vs) η' (θ ++ xs) → vs.length = xs.length → Qd xs η' → Q vs H'

abbrev PD (X : Cx) (e : Expr) (t : TD) : Prop := PE X e (lE t)
abbrev PF (X : Cx) (e : Expr) (t : TF) : Prop := PE X e (lF t)
abbrev PB (X : Cx) (e : Expr) (t : TB) : Prop := PT X e (lB t)
abbrev PWB (X : Cx) (e : Expr) (t : TB) : Prop := PW X e (lB t)
abbrev PL (X : Cx) (es : List Expr) (t : TL) : Prop := PA X es (lL t)

/-- the data of a value -/
def toD : DV → (PyData → Prop) → Prop
  | .d x, k => k x
  | .own xs, k => k (.list xs)
  | _, _ => False
theorem toD_mono {x : DV} {k k' : PyData → Prop} (h : toD x k) (m : ∀ d, k d → k' d) : toD x k' := by
  cases x <;> first | exact m _ h | exact h
theorem toD_top {W : Wd} {H : Hp} {σ : L2.St} {τ : List V} {η θ : En} {v : V} {x : DV} {k : PyData → Prop} (r : R5 W H σ (τ ++ [v]) η (θ ++ [x])) (h : toD x k) : ∃ d, Pk W H v d ∧ k d := by
  cases x with
  | d x => exact ⟨x, .old r.topD, h⟩
  | own xs =>
    obtain ⟨o, n, e, _, ys, e2, e3⟩ := r.top
    cases e
    exact ⟨_, .own e2 e3, h⟩
  | no => exact h.elim
  | bag => exact h.elim
  | raw y => exact h.elim

theorem R5.freezeL {W : Wd} {H : Hp} {σ : L2.St} {τ : List V} {η θ : En} {i : Nat} {xs : List PyData} (r : R5 W H σ τ η θ) (e : η[i]? = some (.own xs)) : ∃ W', Le W W' ∧ R5 W' H σ τ (put η i (.d (.list xs))) θ := by
  have hi := (List.getElem?_eq_some_iff.mp e).1
  obtain ⟨W', l, r'⟩ := r.rel.freeze (i := i) (xs := xs) (by rw [List.getElem?_append_left hi]; exact e)
  refine ⟨W', l, by rw [put_eq, List.length_set]; exact r.len, ?_⟩
  rw [put_eq, ← List.set_append_left _ _ hi]
  exact r'
theorem R5.freezeT {W : Wd} {H : Hp} {σ : L2.St} {τ : List V} {η θ : En} {v : V} {xs : List PyData} (r : R5 W H σ (τ ++ [v]) η (θ ++ [.own xs])) : ∃ W', Le W W' ∧ R5 W' H σ (τ ++ [v]) η (θ ++ [.d (.list xs)]) := by
  obtain ⟨W', l, r'⟩ := r.rel.freeze (i := (η ++ θ).length) (xs := xs) (by rw [← List.append_assoc, List.getElem?_append_right (Nat.le_refl _)]; simp)
  refine ⟨W', l, r.len, ?_⟩
  rw [← List.append_assoc, List.set_append_right _ _ (Nat.le_refl _), Nat.sub_self, List.append_assoc] at r'
  exact r'

/-! ### names -/
/-- a name's value; an own list is frozen -/
def dVar (i : Nat) : TD := fun η Q => match nth η i with
  | .no => False
  | .own xs => Q (.d (.list xs)) (put η i (.d (.list xs)))
  | x => Q x η
/-- a name's data, read now -/
def dPeek (i : Nat) : TF := fun η Q => toD (nth η i) fun d => Q d η
variable {X : Cx}
theorem pd_var {i : Nat} {x : Str} {pos : Pos} (h : PE X (.Name x pos) (tVar i)) : PD X (.Name x pos) (dVar i) := by
  refine h.weak fun σ H Q ⟨W, τ, η, θ, Qd, r, t, k⟩ => ?_
  unfold dVar at t
  cases e : nth η i with
  | no => rw [e] at t; exact t.elim
  | own xs =>
    rw [e] at t
    have e' := nth_some e (by intro q; cases q)
    obtain ⟨o, v, hv, e1, _, ys, e2, e3⟩ := r.at e'
    subst e1
    obtain ⟨W', l, r'⟩ := r.freezeL e'
    have e4 : (put η i (.d (.list xs)))[i]? = some (.d (.list xs)) := by
      rw [put_eq, List.getElem?_set_self (List.getElem?_eq_some_iff.mp e').1]
    obtain ⟨o', v', hv', y, e5, e6⟩ := r'.at e4
    rw [hv] at hv'; cases hv'; cases e5
    exact ⟨_, hv, k _ _ _ _ _ l (r'.pushD e6) t⟩
  | d d =>
    rw [e] at t
    obtain ⟨o, v, hv, y, e1, e2⟩ := r.at (nth_some e (by intro q; cases q))
    subst e1
    exact ⟨_, hv, k _ _ _ _ _ (Le.refl W) (r.pushD e2) t⟩
  | bag =>
    rw [e] at t
    obtain ⟨o, v, hv, b, c, e1, e2⟩ := r.at (nth_some e (by intro q; cases q))
    subst e1
    exact ⟨_, hv, k _ _ _ _ _ (Le.refl W) (r.push (x := .bag) (fun _ _ => ⟨b, c, rfl, e2⟩) fun _ q => nomatch q) t⟩
  | raw y =>
    rw [e] at t
    obtain ⟨o, v, hv, z, e1, e2⟩ := r.at (nth_some e (by intro q; cases q))
    subst e1
    exact ⟨_, hv, k _ _ _ _ _ (Le.refl W) (r.push (x := .raw y) (fun _ _ => ⟨z, rfl, e2⟩) fun _ q => nomatch q) t⟩
theorem peek_at {W : Wd} {H : Hp} {σ : L2.St} {τ : List V} {η θ : En} {i : Nat} {k : PyData → Prop} (r : R5 W H σ τ η θ) (h : toD (nth η i) k) : ∃ v d, σ[i]? = some (some v) ∧ Pk W H v d ∧ k d := by
  cases e : nth η i with
  | d d =>
    rw [e] at h
    obtain ⟨o, v, hv, y, e1, e2⟩ := r.at (nth_some e (by intro q; cases q))
    subst e1
    exact ⟨_, d, hv, .old e2, h⟩
  | own xs =>
    rw [e] at h
    obtain ⟨o, v, hv, e1, _, ys, e2, e3⟩ := r.at (nth_some e (by intro q; cases q))
    subst e1
    exact ⟨_, _, hv, .own e2 e3, h⟩
  | no => rw [e] at h; exact h.elim
  | bag => rw [e] at h; exact h.elim
  | raw y => rw [e] at h; exact h.elim
theorem pf_name {i : Nat} {x : Str} {pos : Pos} (h : PE X (.Name x pos) (tVar i)) : PF X (.Name x pos) (dPeek i) := by
  refine h.weak fun σ H Q ⟨W, τ, η, θ, Qd, r, t, k⟩ => ?_
  obtain ⟨v, d, hv, p, q⟩ := peek_at r t
  exact ⟨v, hv, k _ _ _ _ _ (Le.refl W) r p q⟩
/-- a value's data, read now -/
def dF (t : TD) : TF := fun η Q => t η fun x η' => toD x fun d => Q d η'
theorem pf_pd {e : Expr} {t : TD} (h : PD X e t) : PF X e (dF t) := by
  refine h.weak fun σ H Q ⟨W, τ, η, θ, Qd, r, t, k⟩ => ?_
  refine ⟨W, τ, η, θ, _, r, t, fun W' v H' η' x l r' q => ?_⟩
  obtain ⟨d, p, q⟩ := toD_top r' q
  exact k _ _ _ _ _ l r'.pop p q

/-! ### constants -/
def dC (x : PyData) : TD := fun η Q => Q (.d x) η
theorem pd_const {e : Expr} {v : V} {d : PyData} (h : PE X e (tC v)) (hd : ∀ H, Dt H v d) : PD X e (dC d) := by
  refine h.weak fun σ H Q ⟨W, τ, η, θ, Qd, r, t, k⟩ => ?_
  exact k _ _ _ _ _ (Le.refl W) (r.pushD (hd _)) t
theorem pd_int {i : Int} {j pos} : PD X (.Constant (.int i) j pos) (dC (.int i)) := pd_const pe_int fun _ => .int i
theorem pd_bl {b : Bool} {j pos} : PD X (.Constant (.bool b) j pos) (dC (.bool b)) := pd_const pe_bl fun _ => .bl b
theorem pd_non {j pos} : PD X (.Constant .none j pos) (dC .none) := pd_const pe_non fun _ => .non
theorem pd_str {x : Str} {j pos} : PD X (.Constant (.str x) j pos) (dC (.str x)) := pd_const pe_str fun _ => .str x

/-! ### operators -/
abbrev F2 := PyData → PyData → (DV → Prop) → Prop
def OpD (X : Cx) (f : Value → Value → Sem Value) (fd : F2) : Prop := ∃ r : R2, OpR X f r ∧
  ∀ (W : Wd) (H : Hp) (σ : L2.St) (τ : List V) (η θ : En) (v1 v2 : V) (d1 d2 : PyData) (Q : VK) (Qd : DV → Prop), R5 W H σ τ η θ → Pk W H v1 d1 → Pk W H v2 d2 → fd d1 d2 Qd →
    (∀ W' v H' x, Le W W' → R5 W' H' σ (τ ++ [v]) η (θ ++ [x]) → Qd x → Q v H') → r v1 v2 H Q
def dOp (fd : F2) (ta : TD) (tb : TF) : TD := fun η Q => ta η fun x η1 => tb η1 fun d2 η2 => toD x fun d1 => fd d1 d2 fun y => Q y η2
/-- a slot that has a value -/
def there : DV → Prop → Prop
  | .no, _ => False
  | _, p => p
theorem there_ex {W : Wd} {H : Hp} {σ : L2.St} {τ : List V} {η θ : En} {i : Nat} {p : Prop} (r : R5 W H σ τ η θ) (h : there (nth η i) p) : (∃ v, σ[i]? = some (some v)) ∧ p := by
  cases e : nth η i with
  | no => rw [e] at h; exact h.elim
  | d d =>
    rw [e] at h
    obtain ⟨o, v, hv, y, e1, e2⟩ := r.at (nth_some e (by intro q; cases q))
    subst e1; exact ⟨⟨_, hv⟩, h⟩
  | own xs =>
    rw [e] at h
    obtain ⟨o, v, hv, e1, _⟩ := r.at (nth_some e (by intro q; cases q))
    subst e1; exact ⟨⟨_, hv⟩, h⟩
  | bag =>
    rw [e] at h
    obtain ⟨o, v, hv, b, c, e1, e2⟩ := r.at (nth_some e (by intro q; cases q))
    subst e1; exact ⟨⟨_, hv⟩, h⟩
  | raw y =>
    rw [e] at h
    obtain ⟨o, v, hv, z, e1, e2⟩ := r.at (nth_some e (by intro q; cases q))
    subst e1; exact ⟨⟨_, hv⟩, h⟩
def dOpN (fd : F2) (i : Nat) (tb : TF) : TD := fun η Q => there (nth η i) <| tb η fun d2 η2 => toD (nth η2 i) fun d1 => fd d1 d2 fun y => Q y η2
section
variable {a b : Expr} {pos : Pos} {fd : F2} {ta : TD} {tb : TF}
theorem op_core {r : R2} (hr : ∀ (W : Wd) (H : Hp) (σ : L2.St) (τ : List V) (η θ : En) (v1 v2 : V) (d1 d2 : PyData) (Q : VK) (Qd : DV → Prop), R5 W H σ τ η θ → Pk W H v1 d1 → Pk W H v2 d2 → fd d1 d2 Qd →
    (∀ W' v H' x, Le W W' → R5 W' H' σ (τ ++ [v]) η (θ ++ [x]) → Qd x → Q v H') → r v1 v2 H Q) (σ : L2.St) (H : Hp) (Q : VK) (h : lE (dOp fd ta tb) σ H Q) : tOp r (lE ta) (lF tb) σ H Q := by
  obtain ⟨W, τ, η, θ, Qd, r5, t, k⟩ := h
  refine ⟨W, τ, η, θ, _, r5, t, fun W1 v1 H1 η1 x l1 r1 t1 => ?_⟩
  refine ⟨W1, _, η1, _, _, r1, t1, fun W2 v2 H2 η2 d2 l2 r2 p2 t2 => ?_⟩
  obtain ⟨d1, p1, q⟩ := toD_top r2 t2
  exact hr W2 H2 σ τ η2 θ v1 v2 d1 d2 _ _ r2.pop p1 p2 q fun W' v H' x l r' q' => k _ _ _ _ _ ((l1.trans l2).trans l) r' q'
theorem op_coreN {i : Nat} {r : R2} (hr : ∀ (W : Wd) (H : Hp) (σ : L2.St) (τ : List V) (η θ : En) (v1 v2 : V) (d1 d2 : PyData) (Q : VK) (Qd : DV → Prop), R5 W H σ τ η θ → Pk W H v1 d1 → Pk W H v2 d2 → fd d1 d2 Qd →
    (∀ W' v H' x, Le W W' → R5 W' H' σ (τ ++ [v]) η (θ ++ [x]) → Qd x → Q v H') → r v1 v2 H Q) (σ : L2.St) (H : Hp) (Q : VK) (h : lE (dOpN fd i tb) σ H Q) : tOp r (tVar i) (lF tb) σ H Q := by
  obtain ⟨W, τ, η, θ, Qd, r5, t, k⟩ := h
  obtain ⟨⟨v, hv⟩, t⟩ := there_ex r5 t
  refine ⟨v, hv, W, τ, η, θ, _, r5, t, fun W2 v2 H2 η2 d2 l2 r2 p2 t2 => ?_⟩
  obtain ⟨v', d1, hv', p1, q⟩ := peek_at r2 t2
  rw [hv] at hv'; cases hv'
  exact hr W2 H2 σ τ η2 θ v v2 d1 d2 _ _ r2 p1 p2 q fun W' v H' x l r' q' => k _ _ _ _ _ (l2.trans l) r' q'
theorem pd_op {op : Operator} (ho : OpD X (binaryOp op) fd) (ha : PD X a ta) (hb : PF X b tb) : PD X (.BinOp a op b pos) (dOp fd ta tb) := by
  obtain ⟨r, h1, h2⟩ := ho
  exact (pe_op h1 ha hb).weak fun σ H Q h => op_core h2 σ H Q h
theorem pd_opN {i : Nat} {op : Operator} (ho : OpD X (binaryOp op) fd) (ha : PE X a (tVar i)) (hb : PF X b tb) : PD X (.BinOp a op b pos) (dOpN fd i tb) := by
  obtain ⟨r, h1, h2⟩ := ho
  exact (pe_op h1 ha hb).weak fun σ H Q h => op_coreN h2 σ H Q h
theorem pd_cmpN {i : Nat} {op : CmpOp} (ho : OpD X (compareOp op) fd) (ha : PE X a (tVar i)) (hb : PF X b tb) (hm : behindInMarks op b = false) : PD X (.Compare a [op] [b] pos) (dOpN fd i tb) := by
  obtain ⟨r, h1, h2⟩ := ho
  exact (pe_cmpR h1 ha hb hm).weak fun σ H Q h => op_coreN h2 σ H Q h
theorem pd_cmp {op : CmpOp} (ho : OpD X (compareOp op) fd) (ha : PD X a ta) (hb : PF X b tb) (hm : behindInMarks op b = false) : PD X (.Compare a [op] [b] pos) (dOp fd ta tb) := by
  obtain ⟨r, h1, h2⟩ := ho
  exact (pe_cmpR h1 ha hb hm).weak fun σ H Q h => op_core h2 σ H Q h
/-- a value that is a truth value -/
def isB : DV → (Bool → Prop) → Prop
  | .d (.bool b), k => k b
  | _, _ => False
theorem isB_ex {x : DV} {k : Bool → Prop} (h : isB x k) : ∃ b, x = .d (.bool b) ∧ k b := by
  unfold isB at h
  split at h
  · exact ⟨_, rfl, h⟩
  · exact h.elim
def toB (t : TD) : TB := fun η Q => t η fun x η' => isB x fun b => Q b η'
theorem lB_of {t : TD} (σ : L2.St) (H : Hp) (Q : Bool → Hp → Prop) (h : lB (toB t) σ H Q) : lE t σ H fun x H' => ∃ k, x = .bl k ∧ Q k H' := by
  obtain ⟨W, τ, η, θ, Qd, r5, t, k⟩ := h
  refine ⟨W, τ, η, θ, _, r5, t, fun W1 v1 H1 η1 x l1 r1 t1 => ?_⟩
  obtain ⟨b, rfl, q⟩ := isB_ex t1
  have p := r1.topD
  cases p
  exact ⟨b, rfl, k _ _ _ _ l1 r1.pop q⟩
theorem pb_cmp {op : CmpOp} (ho : OpD X (compareOp op) fd) (ha : PD X a ta) (hb : PF X b tb) (hm : behindInMarks op b = false) : PB X (.Compare a [op] [b] pos) (toB (dOp fd ta tb)) := by
  obtain ⟨r, h1, h2⟩ := ho
  exact (pt_cmpR h1 ha hb hm).weak fun σ H Q h => op_core h2 σ H _ (lB_of σ H Q h)
theorem pb_cmpN {i : Nat} {op : CmpOp} (ho : OpD X (compareOp op) fd) (ha : PE X a (tVar i)) (hb : PF X b tb) (hm : behindInMarks op b = false) : PB X (.Compare a [op] [b] pos) (toB (dOpN fd i tb)) := by
  obtain ⟨r, h1, h2⟩ := ho
  exact (pt_cmpR h1 ha hb hm).weak fun σ H Q h => op_coreN h2 σ H _ (lB_of σ H Q h)
end

/-! ### the operators by what they do to data -/
/-- a side condition -/
structure Need (p : Prop) : Prop where
  h : p
/-- a scalar's value -/
theorem give {W : Wd} {H : Hp} {σ : L2.St} {τ : List V} {η θ : En} {Q : VK} {Qd : DV → Prop} {v : V} {d : PyData} (r : R5 W H σ τ η θ) (k : ∀ W' v H' x, Le W W' → R5 W' H' σ (τ ++ [v]) η (θ ++ [x]) → Qd x → Q v H') (hd : Dt (fx W) v d) (q : Qd (.d d)) : Q v H :=
  k _ _ _ _ (Le.refl W) (r.pushD hd) q
/-- a new own list -/
theorem giveL {W : Wd} {H : Hp} {σ : L2.St} {τ : List V} {η θ : En} {Q : VK} {Qd : DV → Prop} {ys : List V} {xs : List PyData} (r : R5 W H σ τ η θ) (k : ∀ W' v H' x, Le W W' → R5 W' H' σ (τ ++ [v]) η (θ ++ [x]) → Qd x → Q v H') (hd : DtAll (fx W) ys xs) (q : Qd (.own xs)) :
    ∀ p, H p = none → Q (.ref p) (upd H p (.lst ys)) := fun p hp => k _ _ _ _ (Le.refl W) (r.pushOwn hp hd) q
theorem giveT {W : Wd} {H : Hp} {σ : L2.St} {τ : List V} {η θ : En} {Q : VK} {Qd : DV → Prop} {ys : List V} {xs : List PyData} (r : R5 W H σ τ η θ) (k : ∀ W' v H' x, Le W W' → R5 W' H' σ (τ ++ [v]) η (θ ++ [x]) → Qd x → Q v H') (hd : DtAll (fx W) ys xs) (q : Qd (.d (.tuple xs))) :
    ∀ p, H p = none → Q (.ref p) (upd H p (.tup ys)) := fun p hp => k _ _ _ _ (Le.wput (r.hold.free hp)) (r.pushTup hp hd) q
theorem Pk.int {W : Wd} {H : Hp} {v : V} {i : Int} : Pk W H v (.int i) → v = .int i
  | .old (.int _) => rfl
theorem Pk.bool {W : Wd} {H : Hp} {v : V} {b : Bool} : Pk W H v (.bool b) → v = .bl b
  | .old (.bl _) => rfl
theorem Pk.str {W : Wd} {H : Hp} {v : V} {x : Str} : Pk W H v (.str x) → v = .str x
  | .old (.str _) => rfl
theorem Pk.none {W : Wd} {H : Hp} {v : V} : Pk W H v .none → v = .non
  | .old .non => rfl

/-- two ints, a condition, a value -/
def fI (C : Int → Int → Prop) (g : Int → Int → PyData) : F2 := fun a b Q => match a, b with
  | .int i, .int j => Need (C i j) ∧ Q (.d (g i j))
  | _, _ => False
def fI0 (g : Int → Int → PyData) : F2 := fun a b Q => match a, b with
  | .int i, .int j => Q (.d (g i j))
  | _, _ => False
theorem opd_I {f : Value → Value → Sem Value} {C : Int → Int → Prop} {g : Int → Int → V} {gd : Int → Int → PyData} (h : OpR X f (rI C g)) (hg : ∀ i j H, Dt H (g i j) (gd i j)) : OpD X f (fI C gd) := by
  refine ⟨_, h, fun W H σ τ η θ v1 v2 d1 d2 Q Qd r p1 p2 t k => ?_⟩
  unfold fI at t
  split at t
  · rw [p1.int, p2.int]
    exact ⟨_, _, rfl, rfl, t.1.h, give r k (hg _ _ _) t.2⟩
  · exact t.elim
theorem opd_I0 {f : Value → Value → Sem Value} {g : Int → Int → V} {gd : Int → Int → PyData} (h : OpR X f (rI0 g)) (hg : ∀ i j H, Dt H (g i j) (gd i j)) : OpD X f (fI0 gd) := by
  refine ⟨_, h, fun W H σ τ η θ v1 v2 d1 d2 Q Qd r p1 p2 t k => ?_⟩
  unfold fI0 at t
  split at t
  · rw [p1.int, p2.int]
    exact ⟨_, _, rfl, rfl, give r k (hg _ _ _) t⟩
  · exact t.elim
def fSub : F2 := fI0 fun i j => .int (i - j)
def fMod : F2 := fI (fun _ j => 0 < j) fun i j => .int (i % j)
def fDiv : F2 := fI (fun _ j => 0 < j ∧ j < 1073741824) fun i j => .int (i / j)
def fMulI : F2 := fI (fun i j => i.natAbs < 2 ^ 64 ∨ j.natAbs < 2 ^ 64) fun i j => .int (i * j)
def fPow : F2 := fI (fun i j => 0 ≤ j ∧ j ≤ 1000000 ∧ i.natAbs < 2 ^ 64) fun i j => .int (i ^ j.toNat)
def fLt : F2 := fI0 fun i j => .bool (decide (i < j))
def fLe : F2 := fI0 fun i j => .bool (decide (i ≤ j))
def fGt : F2 := fI0 fun i j => .bool (decide (j < i))
def fGe : F2 := fI0 fun i j => .bool (decide (j ≤ i))
theorem od_sub : OpD X (binaryOp .Sub) fSub := opd_I0 op_sub fun _ _ _ => .int _
theorem od_mod : OpD X (binaryOp .Mod) fMod := opd_I op_mod fun _ _ _ => .int _
theorem od_div : OpD X (binaryOp .FloorDiv) fDiv := opd_I op_fdiv fun _ _ _ => .int _
theorem od_pow : OpD X (binaryOp .Pow) fPow := opd_I op_pow fun _ _ _ => .int _
theorem od_mulI : OpD X (binaryOp .Mult) fMulI := by
  refine ⟨_, op_mul, fun W H σ τ η θ v1 v2 d1 d2 Q Qd r p1 p2 t k => ?_⟩
  unfold fMulI fI at t
  split at t
  · rw [p1.int, p2.int]
    refine ⟨_, _, rfl, rfl, ?_, give r k (.int _) t.2⟩
    have := t.1.h
    unfold CMul
    omega
  · exact t.elim
theorem od_lt : OpD X (compareOp .Lt) fLt := opd_I0 op_lt fun _ _ _ => .bl _
theorem od_le : OpD X (compareOp .LtE) fLe := opd_I0 op_le fun _ _ _ => .bl _
theorem od_gt : OpD X (compareOp .Gt) fGt := opd_I0 op_gt fun _ _ _ => .bl _
theorem od_ge : OpD X (compareOp .GtE) fGe := opd_I0 op_ge fun _ _ _ => .bl _
/-- data may be compared -/
def shp (d : PyData) : Prop := SeqAt.shaped d = true
def fEq : F2 := fun a b Q => match a, b with
  | .int i, .int j => Q (.d (.bool (decide (i = j))))
  | .str x, .str y => Q (.d (.bool (decide (x = y))))
  | .bool x, .bool y => Q (.d (.bool (decide (x = y))))
  | a, b => Need (shp a) ∧ Need (shp b) ∧ Q (.d (.bool (PyData.eqv a b)))
def fNe : F2 := fun a b Q => match a, b with
  | .int i, .int j => Q (.d (.bool (!decide (i = j))))
  | .str x, .str y => Q (.d (.bool (!decide (x = y))))
  | .bool x, .bool y => Q (.d (.bool (!decide (x = y))))
  | a, b => Need (shp a) ∧ Need (shp b) ∧ Q (.d (.bool (!PyData.eqv a b)))
theorem fEq_of {a b : PyData} {Q : DV → Prop} (h1 : shp a) (h2 : shp b) (h : Q (.d (.bool (PyData.eqv a b)))) : fEq a b Q := by
  unfold fEq
  split
  · rename_i i j; rw [show decide (i = j) = PyData.eqv (.int i) (.int j) from by rw [PyData.eqv, Bool.eq_iff_iff]; simp]; exact h
  · rename_i i j; rw [show decide (i = j) = PyData.eqv (.str i) (.str j) from by rw [PyData.eqv, Bool.eq_iff_iff]; simp]; exact h
  · rename_i i j; rw [show decide (i = j) = PyData.eqv (.bool i) (.bool j) from by rw [PyData.eqv, Bool.eq_iff_iff]; simp]; exact h
  · exact ⟨⟨h1⟩, ⟨h2⟩, h⟩
theorem fNe_of {a b : PyData} {Q : DV → Prop} (h1 : shp a) (h2 : shp b) (h : Q (.d (.bool (!PyData.eqv a b)))) : fNe a b Q := by
  unfold fNe
  split
  · rename_i i j; rw [show decide (i = j) = PyData.eqv (.int i) (.int j) from by rw [PyData.eqv, Bool.eq_iff_iff]; simp]; exact h
  · rename_i i j; rw [show decide (i = j) = PyData.eqv (.str i) (.str j) from by rw [PyData.eqv, Bool.eq_iff_iff]; simp]; exact h
  · rename_i i j; rw [show decide (i = j) = PyData.eqv (.bool i) (.bool j) from by rw [PyData.eqv, Bool.eq_iff_iff]; simp]; exact h
  · exact ⟨⟨h1⟩, ⟨h2⟩, h⟩
theorem od_eq (hu : X.A.units + 64 < cLine) : OpD X (compareOp .Eq) fEq := by
  refine ⟨_, OpR.or op_eq (op_eqD hu), fun W H σ τ η θ v1 v2 d1 d2 Q Qd r p1 p2 t k => ?_⟩
  unfold fEq at t
  split at t
  · rw [p1.int, p2.int]; refine .inl ⟨rfl, give r k (.bl _) ?_⟩; simpa using t
  · rw [p1.str, p2.str]; refine .inl ⟨rfl, give r k (.bl _) ?_⟩; simpa using t
  · rw [p1.bool, p2.bool]; refine .inl ⟨rfl, give r k (.bl _) ?_⟩; simpa using t
  · exact .inr ⟨d1, d2, Dt.dp _ (p1.dt r.hold), Dt.dp _ (p2.dt r.hold), t.1.h, t.2.1.h, give r k (.bl _) t.2.2⟩
theorem od_ne (hu : X.A.units + 64 < cLine) : OpD X (compareOp .NotEq) fNe := by
  refine ⟨_, OpR.or op_ne (op_neD hu), fun W H σ τ η θ v1 v2 d1 d2 Q Qd r p1 p2 t k => ?_⟩
  unfold fNe at t
  split at t
  · rw [p1.int, p2.int]; refine .inl ⟨rfl, give r k (.bl _) ?_⟩; simpa using t
  · rw [p1.str, p2.str]; refine .inl ⟨rfl, give r k (.bl _) ?_⟩; simpa using t
  · rw [p1.bool, p2.bool]; refine .inl ⟨rfl, give r k (.bl _) ?_⟩; simpa using t
  · exact .inr ⟨d1, d2, Dt.dp _ (p1.dt r.hold), Dt.dp _ (p2.dt r.hold), t.1.h, t.2.1.h, give r k (.bl _) t.2.2⟩
def fIn (neg : Bool) : F2 := fun a b Q => match b with
  | .list xs => Need (shp a) ∧ Need (shp (.list xs)) ∧ Q (.d (.bool (if neg then !xs.any (fun z => PyData.eqv z a) else xs.any fun z => PyData.eqv z a)))
  | _ => False
theorem od_in (hu : X.A.units + 65 < cLine) : OpD X (compareOp .In) (fIn false) := by
  refine ⟨_, op_inD hu, fun W H σ τ η θ v1 v2 d1 d2 Q Qd r p1 p2 t k => ?_⟩
  unfold fIn at t
  split at t
  · exact ⟨d1, _, Dt.dp _ (p1.dt r.hold), Dt.dp _ (p2.dt r.hold), t.1.h, t.2.1.h, give r k (.bl _) t.2.2⟩
  · exact t.elim
end L2.Gd

set_option Elab.async false
set_option linter.all false
set_option maxRecDepth 100000
set_option maxHeartbeats 1000000
namespace L2.Gd
open PySem PySem.Spec PyProof.Rows L2
/-- a def keeps its promise where no text is being written by a call further out (repr wants it) -/
structure FnG (P : Program) (w : World) (K : PySem.W.Frag) (mg : Str → Option Value) (base : Heap) (CX : CXT) (k : Nat) (f : Addr) (fd : FuncData) (ps : List Str) (sp : Sp) : Prop where
  len : ∀ vs H Q E, sp vs H Q E → vs.length = ps.length
  run : ∀ (A : Around) (outer : List PySem.Env) (s : Shared) (H : Hp) (args : Args) (us : List Value) (vs : List V) (Q : VK) (E : XK), A.guards = some [] → Room k A → Env0 P w K mg base A outer s H → BindsTo s fd args (ps.zip us) → Vals vs us → sp vs H Q E →
    codeAny (model P w) A (.call (.ref f) args) (CR CX outer P w H s Q E) s
theorem FnG.mono {P : Program} {w : World} {K : PySem.W.Frag} {mg : Str → Option Value} {base : Heap} {CX : CXT} {j k : Nat} {f : Addr} {fd : FuncData} {ps : List Str} {sp : Sp} (F : FnG P w K mg base CX j f fd ps sp) (h : j ≤ k) :
    FnG P w K mg base CX k f fd ps sp := ⟨F.len, fun A outer s H args us vs Q E hg hr => F.run A outer s H args us vs Q E hg (hr.mono h)⟩
theorem fn_ofG {CX : CXT} {P : Program} {w : World} {K : PySem.W.Frag} {mg : Str → Option Value} {base : Heap} {k : Nat} {f : Addr} {name qual : Str} {params : Arguments} {body : List Stmt} {scope : Scope} {dV kV doc pm cdv ct oc : Value} {an od : Option Addr}
    {osl : Array (Option Value)} {N ps : List Str} {sp : Sp} (lk : K.lookup f = some ⟨oc, od, .func (PySem.W.fnOf name qual params body scope dV kV doc pm an cdv ct), osl⟩) (hcd : PySem.W.codeIn K cdv qual = true) (S : FnScope N ps scope)
    (len : ∀ vs H Q E, sp vs H Q E → vs.length = ps.length)
    (hbody : ∀ (A : Around) (outer : List PySem.Env) (s : Shared) (H : Hp) (vs : List V) (Q : VK) (E : XK), A.guards = some [] → Room k (A.deeper (envOfC qual scope s.heap.objs.size f cdv)) → sp vs H Q E →
      ∃ t, PSs (cxOf CX P w K mg base N qual scope f cdv A outer s H E) body t ∧ t { nx := fun _ H' => Q .non H', rt := Q } (start N vs) H) :
    FnG P w K mg base CX (k + 1) f (PySem.W.fnOf name qual params body scope dV kV doc pm an cdv ct) ps sp := by
  refine ⟨len, fun A outer s H args us vs Q E hgu hr e0 hb r hsp => ?_⟩
  have hl := len _ _ _ _ hsp
  have KX : K.In s.heap := e0.mod.kin.keeps fun b o e => (e0.bs b o e).1
  have lim : s.heap.NoLimit := e0.mod.nolimit.keeps fun b o e => (e0.bs b o e).1
  have hkind : ∀ y ∈ ps.zip us, scope.names.lookup y.1 = some .local ∨ (scope.names.lookup y.1 = some .cell ∧ ((cellsFrom (s.heap.objs.size + 1) scope.names []).lookup y.1).isSome = true) := fun ⟨n, v⟩ hy => by
    rcases S.par n (List.of_mem_zip hy).1 with q | q
    · exact .inl q
    · exact .inr ⟨q, PySem.W.cellsFrom_some _ _ _ (.inl q)⟩
  refine codeAny_call_function hr.depth (KX _ _ lk) rfl S.co S.gen rfl (PySem.W.codeRec_of KX hcd) (hb _ _ _ _ ?_)
  refine wpAny_newFunctionEnv_cells S.kind hkind fun env he s1 x => ?_
  subst he
  refine ⟨lim.keeps x.toInCall.keep, codeAny_func ?_⟩
  obtain ⟨t, ht, hq⟩ := hbody A outer s H vs Q E hgu (hr.deeper _) hsp
  have I : Inv (cxOf CX P w K mg base N qual scope f cdv A outer s H E) [] (start N vs) H s1 := inv_start S hr.hd e0 hl r x
  refine wpAny_mono (ht.run [] s1 (start N vs) H _ I hq) (fun fl s' hs => ?_) fun e s' hs => hs
  have fin : ∀ {σ' : St} {H' : Hp} {v : V} {u : Value}, Inv (cxOf CX P w K mg base N qual scope f cdv A outer s H E) [] σ' H' s' → RelV v u → Q v H' → CE outer P w H s Q u s' :=
    fun {σ' H' v u} J rv q => ⟨v, H', J.os, J.bare, J.base, J.hok, rv, q⟩
  cases fl with
  | ret u =>
    obtain ⟨v, σ', H', J, rv, q⟩ := hs
    exact fin J rv q
  | next =>
    obtain ⟨σ', H', J, q⟩ := hs
    exact fin (v := V.non) (u := Value.none) J rfl q
  | brk =>
    obtain ⟨_, _, _, q⟩ := hs
    exact False.elim q
  | cont =>
    obtain ⟨_, _, _, q⟩ := hs
    exact False.elim q

theorem Fun.okG {P : Program} {w : World} {K : PySem.W.Frag} {mg : Str → Option Value} {base : Heap} {x qual : Str} {st : Stmt} {f : Addr} {fd : FuncData} {N ps : List Str} {k : Nat} {sp : Sp} (F : Fun K x qual st f fd) (S : FnScope N ps (defScope st)) (len : ∀ vs H Q E, sp vs H Q E → vs.length = ps.length)
    (hbody : ∀ (cdv : Value) (A : Around) (outer : List PySem.Env) (s : Shared) (H : Hp) (vs : List V) (Q : VK) (E : XK), A.guards = some [] → Room k (A.deeper (envOfC qual (defScope st) s.heap.objs.size f cdv)) → sp vs H Q E →
      ∃ t, PSs (cxOf CX0 P w K mg base N qual (defScope st) f cdv A outer s H E).nox (defBody st) t ∧ t { nx := fun _ H' => Q .non H', rt := Q } (start N vs) H) : FnG P w K mg base CX0 (k + 1) f fd ps sp := by
  obtain ⟨oc, od, kV, doc, pm, an, cdv, ct, osl, rfl, lk, hcd⟩ := F.ex
  refine fn_ofG lk hcd S len fun A outer s H vs Q E hg hr hsp => ?_
  obtain ⟨t, h, q⟩ := hbody cdv A outer s H vs Q E hg hr hsp
  exact ⟨t, h.nox, q⟩
section
variable {X : Cx} {CX : CXT} {k : Nat} {f C : Addr} {fd : FuncData} {ps ks : List Str} {sp : Sp} {dvs : List V} {ds : List Value} {E : XK} {x m : Str} {p pos apos : Pos} {e o : Expr} {es : List Expr} {ta : TE} {t tk : TA} {kws : List Keyword} {g : List Value → List Value → List Value} {gV : List V → List V → List V}
theorem endG {pins : List (Addr × Obj)} {σ : L2.St} {H : Hp} {s : Shared} {Q : VK} (hx : Passes CX X E) (I : Inv X pins σ H s) (r : Result) (s' : Shared) (hq : CR CX X.stack X.prog X.w H s Q E r s') : (match r with | .ok (.ret v) => EP X pins σ Q v s' | .ok _ => False | .error e => X.xe e s') := by
  cases r with
  | error e => exact hx pins σ H s e s' I hq
  | ok fl =>
    cases fl with
    | ret u => exact I.after hq
    | next => exact False.elim hq
    | brk => exact False.elim hq
    | cont => exact False.elim hq
theorem run_fnG {pins : List (Addr × Obj)} {σ : L2.St} {H : Hp} {s : Shared} {Q : VK} {us : List Value} {vs : List V} (F : FnG X.prog X.w X.K X.mg X.base CX k f fd ps sp) (hgu : X.A.guards = some []) (hr : Room k X.A) (hb : Binds X.K fd ps []) (hx : Passes CX X E)
    (I : Inv X pins σ H s) (r : Vals vs us) (h : sp vs H Q E) : wpAny (model X.prog X.w) X.A (call (.ref f) us) (EP X pins σ Q) X.xe s := by
  have hl : (us ++ []).length = ps.length := by rw [List.append_nil, ← r.length]; exact F.len _ _ _ _ h
  have hbb := hb s us I.kIn hl
  rw [List.append_nil] at hbb
  refine wpAny_call (codeAny_mono (F.run X.A X.stack s H ⟨us, []⟩ us vs Q E hgu hr I.env0 hbb r h) fun r s' hq => ?_)
  have := endG hx I r s' hq
  cases r with
  | error e => exact this
  | ok fl => cases fl <;> exact this
theorem pe_callG (F : FnG X.prog X.w X.K X.mg X.base CX k f fd ps sp) (hgu : X.A.guards = some []) (hr : Room k X.A) (hg : Gl X x) (hm : X.mg x = some (.ref f)) (hk : PySem.W.keepIn X.K (.ref f) = true) (hb : Binds X.K fd ps []) (hx : Passes CX X E)
    (ha : PA X (e :: es) t) (hdb : (x == ("__debug__" : Str)) = false := by decide) (he : starEach (e :: es) X.env = (false, eval e X.env) :: starEach es X.env := by rfl) (hpl : (backTo pos (starEach es X.env)).any (·.1) = false := by rfl) :
    PE X (.Call (.Name x p) (e :: es) [] pos) (fun σ H Q => t σ H fun vs H1 => sp vs H1 Q E) := by
  refine ⟨fun pins s σ H Q I h => ?_⟩
  refine wpAny_Call_Name_kw (ld_glob I hg hm ?_ hdb)
  refine PySem.W.callWith_K (h₀ := X.base) I.ok.mod.kin hk (thn (ha.run pos pins s σ H _ I h) fun us s1 ⟨vs, H1, I1, r, q⟩ => ⟨I1.kIn, ?_⟩) he hpl
  exact run_fnG F hgu hr hb hx I1 r q
theorem run_fnkG {pins : List (Addr × Obj)} {σ : L2.St} {H : Hp} {s : Shared} {Q : VK} {us ws : List Value} {vs zs : List V} (F : FnG X.prog X.w X.K X.mg X.base CX k f fd ps sp) (hgu : X.A.guards = some []) (hr : Room k X.A) (hb : KBinds X.K fd ps ks g gV) (hx : Passes CX X E)
    (I : Inv X pins σ H s) (r : Vals vs us) (rz : Vals zs ws) (h : sp (gV vs zs) H Q E) : wpAny (model X.prog X.w) X.A (call (.ref f) us (ks.zip ws)) (EP X pins σ Q) X.xe s := by
  have r2 := hb.rel r rz
  have hl : (g us ws).length = ps.length := by rw [← r2.length]; exact F.len _ _ _ _ h
  refine wpAny_call (codeAny_mono (F.run X.A X.stack s H ⟨us, ks.zip ws⟩ (g us ws) (gV vs zs) Q E hgu hr I.env0 (hb.to s us ws I.kIn hl) r2 h) fun r s' hq => ?_)
  have := endG hx I r s' hq
  cases r with
  | error e => exact this
  | ok fl => cases fl <;> exact this
theorem pe_callKG (F : FnG X.prog X.w X.K X.mg X.base CX k f fd ps sp) (hgu : X.A.guards = some []) (hr : Room k X.A) (hg : Gl X x) (hm : X.mg x = some (.ref f)) (hk : PySem.W.keepIn X.K (.ref f) = true) (hb : KBinds X.K fd ps ks g gV) (hx : Passes CX X E)
    (ha : PA X (e :: es) t) (hkw : PK X kws tk) (hall : (backToKw pos (keywordEach kws X.env)).all (·.1.isSome) = true := by rfl) (hks : (backToKw pos (keywordEach kws X.env)).filterMap (·.1) = ks := by rfl)
    (hdb : (x == ("__debug__" : Str)) = false := by decide) (he : starEach (e :: es) X.env = (false, eval e X.env) :: starEach es X.env := by rfl)
    (hpl : ((backTo pos (starEach (e :: es) X.env)).any (·.1) || (backToKw pos (keywordEach kws X.env)).any (·.1.isNone)) = false := by rfl) :
    PE X (.Call (.Name x p) (e :: es) kws pos) (fun σ H Q => t σ H fun vs H1 => tk σ H1 fun zs H2 => sp (gV vs zs) H2 Q E) := by
  refine ⟨fun pins s σ H Q I h => ?_⟩
  refine wpAny_Call_Name_kw (ld_glob I hg hm ?_ hdb)
  refine PySem.W.callWith_KW (h₀ := X.base) I.ok.mod.kin hk hall (thn (ha.run pos pins s σ H _ I h) fun us s1 ⟨vs, H1, I1, r, q⟩ => ?_) hpl he
  refine thn (hkw.run pos pins s1 σ H1 _ I1 q) fun ws s2 ⟨zs, H2, I2, rz, q2⟩ => ⟨I2.kIn, ?_⟩
  rw [hks]
  exact run_fnkG F hgu hr hb hx I2 r rz q2
theorem pe_callK0G (F : FnG X.prog X.w X.K X.mg X.base CX k f fd ps sp) (hgu : X.A.guards = some []) (hr : Room k X.A) (hg : Gl X x) (hm : X.mg x = some (.ref f)) (hk : PySem.W.keepIn X.K (.ref f) = true) (hb : KBinds X.K fd ps ks g gV) (hx : Passes CX X E)
    (hkw : PK X kws tk) (hall : (backToKw pos (keywordEach kws X.env)).all (·.1.isSome) = true := by rfl) (hks : (backToKw pos (keywordEach kws X.env)).filterMap (·.1) = ks := by rfl)
    (hdb : (x == ("__debug__" : Str)) = false := by decide)
    (hpl : ((backTo pos (starEach [] X.env)).any (·.1) || (backToKw pos (keywordEach kws X.env)).any (·.1.isNone)) = false := by rfl) :
    PE X (.Call (.Name x p) [] kws pos) (fun σ H Q => tk σ H fun zs H2 => sp (gV [] zs) H2 Q E) := by
  refine ⟨fun pins s σ H Q I h => ?_⟩
  refine wpAny_Call_Name_kw (ld_glob I hg hm ?_ hdb)
  refine PySem.W.callWith_KW0 (h₀ := X.base) I.ok.mod.kin hk hall (thn (hkw.run pos pins s σ H _ I h) fun ws s2 ⟨zs, H2, I2, rz, q2⟩ => ⟨I2.kIn, ?_⟩) hpl
  rw [hks]
  exact run_fnkG (us := []) (vs := []) F hgu hr hb hx I2 .nil rz q2
end
theorem law_callG {P : Program} {w : World} {K : PySem.W.Frag} {mg mb : Str → Option Value} {CX : CXT} {k : Nat} {fa a : Addr} {fd : FuncData} {x : Str} {sp : Sp} {s₁ : Shared} {vs : List Value} {ns : List Int}
    (KX : K.In s₁.heap) (hns : s₁.heap.Ns mainGlobals mg) (hb : s₁.heap.Ns builtinsNs mb) (hbb : ∀ x : Str, x ≠ "__name__" → mb x = bootBuiltins x) (hlim : s₁.heap.NoLimit) (hg : s₁.gens = #[])
    (ha : s₁.heap.get? a = some { cls := .type "list", data := .seq vs.toArray }) (hi : IntsAre vs ns) (hl : ns.length ≤ sizeLine) (hr : Room k callerA)
    (F : ∀ base : Heap, K.In base → base.Ns mainGlobals mg → FnG P w K mg base CX k fa fd [x] sp) (hbind : ∀ (s : Shared) (u : Value), BindsTo s fd ⟨[u], []⟩ [(x, u)])
    (hsp : ∀ H : Hp, Only H → SqL K H a (ns.map V.int) → sp [.ref a] H (fun v _ => v = .bl true) fun _ _ _ => False)
    (hCX : ∀ H e s', CX [] H s₁ (fun _ _ _ => False) e s' → False) :
    codeAny (model P w) callerA (.call (.ref fa) ⟨[.ref a], []⟩) (fun r s' => r = .ok (.ret (.bool true)) ∧ OldK s₁.heap s'.heap ∧ s'.os = s₁.os ∧ AllBare s'.gens) s₁ := by
  have rv := vals_ints hi
  have lenV := hi.length
  -- from an abstract heap in which nothing but the script may be tracked
  have core : ∀ H : Hp, Only H → SqL K H a (ns.map V.int) → HOk P w H s₁.heap → (∀ b, H b ≠ none → b = a) → (H a ≠ none → K.lookup a = none) →
      codeAny (model P w) callerA (.call (.ref fa) ⟨[.ref a], []⟩) (fun r s' => r = .ok (.ret (.bool true)) ∧ OldK s₁.heap s'.heap ∧ s'.os = s₁.os ∧ AllBare s'.gens) s₁ := by
    intro H hO hS hok hA hK
    have base_of : ∀ {b : Addr} {o : Obj}, s₁.heap.get? b = some o → H b = none → (hidT s₁.heap H).get? b = some o := fun e n => hidT_get e n
    have noA : ∀ {b : Addr} {o : Obj} {es : Array DictEntry} {ep : Nat}, s₁.heap.get? b = some o → o.data = .dict es ep → H b = none := fun {b o es ep} e d => by
      cases q : H b with
      | none => rfl
      | some u =>
        have e' : b = a := hA b (by rw [q]; simp)
        subst e'
        rw [ha] at e; cases e
        have d' : Data.seq vs.toArray _ = Data.dict es ep := d
        cases d'
    have nsK : ∀ {b : Addr} {m : Str → Option Value}, s₁.heap.Ns b m → (hidT s₁.heap H).Ns b m := fun {b m} ⟨o, es, ep, e, d, r⟩ => ⟨o, es, ep, base_of e (noA e d), d, r⟩
    have hKb : K.In (hidT s₁.heap H) := fun b o e => base_of (KX b o e) (by
      cases q : H b with
      | none => rfl
      | some u =>
        have e' : b = a := hA b (by rw [q]; simp)
        subst e'
        rw [hK (by rw [q]; simp)] at e; cases e)
    have hM : Mod K mg (hidT s₁.heap H) := ⟨hKb, nsK hns, ⟨mb, nsK hb, hbb⟩, let ⟨mc, h1, h2⟩ := hlim; ⟨mc, nsK h1, h2⟩⟩
    have e0 : Env0 P w K mg (hidT s₁.heap H) callerA [] s₁ H := ⟨rfl, hM, fun b o e => of_hidT e, Nat.le_of_eq (hidT_size _ _), trivial, fun b hb => absurd (show b ∈ ([] : List Addr) from hb) (by simp), hok, .of_eq hg⟩
    refine codeAny_mono ((F _ hKb (nsK hns)).run callerA [] s₁ H ⟨[.ref a], []⟩ [.ref a] [.ref a] _ _ rfl hr e0 (hbind s₁ (.ref a)) (.cons rfl .nil) (hsp H hO hS)) fun r s' h => ?_
    cases r with
    | error e => exact (hCX H e s' h).elim
    | ok fl =>
      cases fl with
      | next => exact False.elim h
      | brk => exact False.elim h
      | cont => exact False.elim h
      | ret u =>
        obtain ⟨v, H', os, bare, un, hok', r', q⟩ := h
        have q' : v = .bl true := q
        subst q'
        obtain rfl : u = Value.bool true := r'
        refine ⟨rfl, OldK.of_keep fun b o e => ?_, os, bare⟩
        cases q : H b with
        | none => exact un.keep b o e q (by intro z; exact absurd (show b ∈ ([] : List Addr) from z) (by simp)) (by simp)
        | some u =>
          rcases hO b with z | ⟨ob, xs, z⟩
          · rw [q] at z; cases z
          · have z2 := un.frzs b ob _ z
            obtain ⟨e1, _⟩ := hok b _ z
            obtain ⟨e2, _⟩ := hok' b _ z2
            rw [e] at e1; cases e1
            exact e2
  cases hk : K.lookup a with
  | some o =>
    -- the script is one of the module's own objects
    have e := KX a o hk
    rw [ha] at e
    cases e
    refine core (fun _ => none) (fun _ => .inl rfl) (.inr ⟨_, vs.toArray, _, hk, rfl, rfl, rfl, by rw [List.size_toArray, lenV]; exact hl, by simpa using rv⟩) (fun b u z => by have z' : (none : Option HO) = some u := z; cases z') (fun b z => absurd rfl z) fun z => absurd rfl z
  | none =>
    refine core (fun b => if b = a then some (.frz { cls := .type "list", data := .seq vs.toArray } (.lst (ns.map V.int))) else none) (fun b => ?_) (.inl (.inr ⟨{ cls := .type "list", data := .seq vs.toArray }, if_pos rfl⟩)) (fun b u z => ?_) (fun b z => ?_) fun _ => hk
    · by_cases hb : b = a
      · exact .inr ⟨_, _, if_pos hb⟩
      · exact .inl (if_neg hb)
    · by_cases hb : b = a
      · have z' := (if_pos hb).symm.trans z
        cases z'
        subst hb
        exact ⟨ha, by rw [List.length_map]; exact hl, vs, _, rv, ha⟩
      · have z' := (if_neg hb).symm.trans z
        cases z'
    · by_cases hb : b = a
      · exact hb
      · exact absurd (if_neg hb) z
theorem walk_ofG {l : PySem.W.OpenLaw} {n k : Nat} {q : Program} {loose : List Str} {XP : (Str → Option Value) → Heap → Prop} {YP : World → Heap → Prop} {d : DefRec} {K : Params → PySem.W.Frag} {CX : World → CXT} {sp : World → Sp} {x : Str}
    (hn : l.most = some n) (hn2 : n ≤ sizeLine) (hdf : d.params.defaults = []) (hr : Room k callerA)
    (hY : ∀ (w : World) (h : Heap), YP w h → (K w.params).In h)
    (F : ∀ (w : World) (mg : Str → Option Value) (fa : Addr) (h : Heap), (K w.params).In h → h.Ns mainGlobals mg → mg d.name = some (.ref fa) →
      ∃ fd : FuncData, (∀ (s : Shared) (u : Value), BindsTo s fd ⟨[u], []⟩ [(x, u)]) ∧
        ∀ base : Heap, (K w.params).In base → base.Ns mainGlobals mg → FnG l.prog w (K w.params) mg base (CX w) k fa fd [x] (sp w))
    (hsp : ∀ (w : World) (H : Hp) (a : Addr) (ns : List Int), ns.length ≤ n → Only H → SqL (K w.params) H a (ns.map V.int) → sp w [.ref a] H (fun v _ => v = .bl true) fun _ _ _ => False)
    (hCX : ∀ (w : World) (H : Hp) (s : Shared) (e : Value) (s' : Shared), CX w [] H s (fun _ _ _ => False) e s' → False) :
    PySem.W.WalkO q loose XP YP l.row.toRowW d [] (fun f vs => PySem.call f vs) := by
  refine Att.attach_call hn hdf fun w s₀ s₁ mg mb fa o pm cd doc a vs ns G Y ho hd hcd hmg hobj hints hlen hg => ?_
  have KX := hY w _ Y
  obtain ⟨fd, hb, hF⟩ := F w mg fa _ KX G.T.g hmg
  exact law_callG KX G.T.g G.T.b G.T.builtins G.T.nolimit hg hobj hints (Nat.le_trans hlen hn2) hr hF hb (fun H hO hS => hsp w H a ns hlen hO hS) fun H e s' => hCX w H s₁ e s'
end L2.Gd

set_option Elab.async false
set_option linter.all false
set_option maxRecDepth 100000
set_option maxHeartbeats 1000000
namespace L2.Gd
open PySem PySem.Spec PyProof.Rows L2
variable {X : Cx}

/-! ### lists of values, displays -/
def lLn (n : Nat) (t : TL) : TA := fun σ H Q => ∃ (W : Wd) (τ : List V) (η θ : En) (Qd : List DV → En → Prop), R5 W H σ τ η θ ∧ t η Qd ∧
  ∀ W' vs H' η' xs, Le W W' → R5 W' H' σ (τ ++ vs) η' (θ ++ xs) → vs.length = xs.length → xs.length = n → Qd xs η' → Q vs H'
abbrev PLn (X : Cx) (es : List Expr) (t : TL) : Prop := PA X es (lLn es.length t)
def dNil : TL := fun η Q => Q [] η
def dCons (te : TD) (t : TL) : TL := fun η Q => te η fun x η1 => t η1 fun xs η2 => Q (x :: xs) η2
theorem pl_nil : PLn X [] dNil := pa_nil.weak fun σ H Q ⟨W, τ, η, θ, Qd, r, t, k⟩ => k W [] H η [] (Le.refl W) (by simpa using r) rfl rfl t
theorem pl_cons {e : Expr} {es : List Expr} {te : TD} {t : TL} (ha : PD X e te) (hr : PLn X es t) (hs : starEach (e :: es) X.env = (false, eval e X.env) :: starEach es X.env := by rfl) : PLn X (e :: es) (dCons te t) := by
  refine (pa_cons ha hr hs).weak fun σ H Q ⟨W, τ, η, θ, Qd, r, t, k⟩ => ?_
  refine ⟨W, τ, η, θ, _, r, t, fun W1 v1 H1 η1 x l1 r1 t1 => ?_⟩
  refine ⟨W1, _, η1, _, _, r1, t1, fun W2 vs H2 η2 xs l2 r2 e1 e2 t2 => ?_⟩
  exact k W2 (v1 :: vs) H2 η2 (x :: xs) (l1.trans l2) (by simpa using r2) (by simp [e1]) (by simp [e2]) t2

def frz : DV → DV
  | .own xs => .d (.list xs)
  | x => x
theorem Rel.frzAll {H : Hp} {vs : List (Option V)} : ∀ (xs pre : List DV) {W : Wd}, Rel W H vs (pre ++ xs) → ∃ W', Le W W' ∧ Rel W' H vs (pre ++ xs.map frz)
  | [], pre, W, r => ⟨W, Le.refl W, r⟩
  | x :: xs, pre, W, r => by
    have step : ∀ {W1 : Wd} (y : DV), Le W W1 → Rel W1 H vs (pre ++ y :: xs) → ∃ W', Le W W' ∧ Rel W' H vs (pre ++ y :: xs.map frz) := fun {W1} y l1 r1 => by
      obtain ⟨W', l, r'⟩ := Rel.frzAll xs (pre ++ [y]) (W := W1) (by simpa using r1)
      exact ⟨W', l1.trans l, by simpa using r'⟩
    cases x with
    | own ys =>
      obtain ⟨W1, l1, r1⟩ := r.freeze (i := pre.length) (xs := ys) (by simp)
      exact step (.d (.list ys)) l1 (by simpa using r1)
    | no => exact step .no (Le.refl W) r
    | d d => exact step (.d d) (Le.refl W) r
    | bag => exact step .bag (Le.refl W) r
    | raw y => exact step (.raw y) (Le.refl W) r
theorem R5.frzAll {W : Wd} {H : Hp} {σ : L2.St} {τ vs : List V} {η θ xs : En} (r : R5 W H σ (τ ++ vs) η (θ ++ xs)) : ∃ W', Le W W' ∧ R5 W' H σ (τ ++ vs) η (θ ++ xs.map frz) := by
  obtain ⟨W', l, r'⟩ := Rel.frzAll xs (η ++ θ) (by simpa using r.rel)
  exact ⟨W', l, r.len, by simpa using r'⟩

/-- all of them data -/
def allD : List DV → (List PyData → Prop) → Prop
  | [], k => k []
  | .d x :: r, k => allD r fun ds => k (x :: ds)
  | .own xs :: r, k => allD r fun ds => k (.list xs :: ds)
  | _ :: _, _ => False
theorem allD_ex : ∀ {xs : List DV} {k : List PyData → Prop}, allD xs k → ∃ ds, xs.map frz = ds.map DV.d ∧ k ds
  | [], k, h => ⟨[], rfl, h⟩
  | .d x :: r, k, h => by
    obtain ⟨ds, e, h⟩ := allD_ex (xs := r) h
    exact ⟨x :: ds, by simp [frz, e], h⟩
  | .own ys :: r, k, h => by
    obtain ⟨ds, e, h⟩ := allD_ex (xs := r) h
    exact ⟨.list ys :: ds, by simp [frz, e], h⟩
  | .no :: r, k, h => False.elim h
  | .bag :: r, k, h => False.elim h
  | .raw _ :: r, k, h => False.elim h
theorem Rel.allData {W : Wd} {H : Hp} : ∀ {vs : List V} {ds : List PyData}, Rel W H (vs.map some) (ds.map DV.d) → DtAll (fx W) vs ds
  | [], [], _ => .nil
  | [], _ :: _, r => by have := r.len; simp at this
  | _ :: _, [], r => by have := r.len; simp at this
  | v :: vs, d :: ds, r => by
    obtain ⟨h, ln, o, a, b⟩ := id r
    obtain ⟨u, e1, y, e2, e3⟩ := a 0 (.d d) (by simp)
    simp at e1
    subst e1
    cases e2
    exact .cons e3 (Rel.allData (Rel.right (vs := [some v]) (ds := [.d d]) (by simpa using r) rfl))
theorem R5.allData {W : Wd} {H : Hp} {σ : L2.St} {τ vs : List V} {η θ : En} {ds : List PyData} (r : R5 W H σ (τ ++ vs) η (θ ++ ds.map DV.d)) (hl : vs.length = ds.length) : DtAll (fx W) vs ds := by
  have h1 := r.last
  rw [List.map_append] at h1
  have hl2 := r.lens
  exact (h1.right (by simp at hl2 ⊢; omega)).allData
theorem R5.dropAll {W : Wd} {H : Hp} {σ : L2.St} {τ vs : List V} {η θ xs : En} (r : R5 W H σ (τ ++ vs) η (θ ++ xs)) (hl : vs.length = xs.length) : R5 W H σ τ η θ :=
  r.left (by have := r.lens; simp at this; omega)

theorem line_of {n : Nat} (h : n ≤ 1000000) : n ≤ sizeLine := Nat.le_trans h (by rw [sizeLine_eq]; decide)
def dTup (ta : TL) : TD := fun η Q => ta η fun xs η1 => allD xs fun ds => Q (.d (.tuple ds)) η1
def dLst (ta : TL) : TD := fun η Q => ta η fun xs η1 => allD xs fun ds => Q (.own ds) η1
theorem pd_tup {es : List Expr} {t : TL} {k pos} (h : PLn X es t) (hz : es.length ≤ 1000000 := by decide) : PD X (.Tuple es k pos) (dTup t) := by
  refine (pe_tup h).weak fun σ H Q ⟨W, τ, η, θ, Qd, r, t, k⟩ => ?_
  refine ⟨W, τ, η, θ, _, r, t, fun W1 vs H1 η1 xs l1 r1 e1 e2 t1 => ?_⟩
  obtain ⟨ds, e3, q⟩ := allD_ex t1
  obtain ⟨W2, l2, r2⟩ := r1.frzAll
  rw [e3] at r2
  have hl : vs.length = ds.length := by have := congrArg List.length e3; simp at this; omega
  refine ⟨by rw [e1, e2]; exact line_of hz, fun p hp => ?_⟩
  have r3 := r2.dropAll (by simp [hl])
  exact k _ _ _ _ _ ((l1.trans l2).trans (Le.wput (r3.hold.free hp))) (r3.pushTup hp (r2.allData hl)) q
theorem pd_lst {es : List Expr} {t : TL} {pos} (h : PLn X es t) (hz : es.length ≤ 1000000 := by decide) : PD X (.List es pos) (dLst t) := by
  refine (pe_lst h).weak fun σ H Q ⟨W, τ, η, θ, Qd, r, t, k⟩ => ?_
  refine ⟨W, τ, η, θ, _, r, t, fun W1 vs H1 η1 xs l1 r1 e1 e2 t1 => ?_⟩
  obtain ⟨ds, e3, q⟩ := allD_ex t1
  obtain ⟨W2, l2, r2⟩ := r1.frzAll
  rw [e3] at r2
  have hl : vs.length = ds.length := by have := congrArg List.length e3; simp at this; omega
  refine ⟨by rw [e1, e2]; exact line_of hz, fun p hp => ?_⟩
  have r3 := r2.dropAll (by simp [hl])
  exact k _ _ _ _ _ (l1.trans l2) (r3.pushOwn hp (r2.allData hl)) q

/-! ### statements -/
structure EndsD where
  nx : En → Prop
  rt : DV → Prop
  bk : En → Prop := fun _ => False
  ct : En → Prop := fun _ => False
abbrev TSd := EndsD → En → Prop
structure EndsR (W : Wd) (D : Ends) (Dd : EndsD) : Prop where
  nx : ∀ W' σ H η, Le W W' → R5 W' H σ [] η [] → Dd.nx η → D.nx σ H
  rt : ∀ W' v H x, Le W W' → Rel W' H [some v] [x] → Dd.rt x → D.rt v H
  bk : ∀ W' σ H η, Le W W' → R5 W' H σ [] η [] → Dd.bk η → D.bk σ H
  ct : ∀ W' σ H η, Le W W' → R5 W' H σ [] η [] → Dd.ct η → D.ct σ H
theorem EndsR.up {W W' : Wd} {D : Ends} {Dd : EndsD} (e : EndsR W D Dd) (l : Le W W') : EndsR W' D Dd :=
  ⟨fun _ _ _ _ k => e.nx _ _ _ _ (l.trans k), fun _ _ _ _ k => e.rt _ _ _ _ (l.trans k), fun _ _ _ _ k => e.bk _ _ _ _ (l.trans k), fun _ _ _ _ k => e.ct _ _ _ _ (l.trans k)⟩
def lS (t : TSd) : TS := fun D σ H => ∃ (W : Wd) (η : En) (Dd : EndsD), R5 W H σ [] η [] ∧ t Dd η ∧ EndsR W D Dd
abbrev SD (X : Cx) (s : Stmt) (t : TSd) : Prop := PS X s (lS t)
abbrev SDs (X : Cx) (s : List Stmt) (t : TSd) : Prop := PSs X s (lS t)
theorem _root_.L2.PS.weak {X : Cx} {e : Stmt} {t t' : TS} (h : PS X e t) (w : ∀ D σ H, t' D σ H → t D σ H) : PS X e t' := ⟨fun pins s σ H D I q => h.run pins s σ H D I (w D σ H q)⟩
theorem _root_.L2.PSs.weak {X : Cx} {e : List Stmt} {t t' : TS} (h : PSs X e t) (w : ∀ D σ H, t' D σ H → t D σ H) : PSs X e t' := ⟨fun pins s σ H D I q => h.run pins s σ H D I (w D σ H q)⟩
theorem _root_.L2.PG.weak {X : Cx} {e : Expr} {t t' : TG} (h : PG X e t) (w : ∀ v σ H Q, t' v σ H Q → t v σ H Q) : PG X e t' := ⟨fun pins s σ H v u Q I r q => h.run pins s σ H v u Q I r (w v σ H Q q)⟩
theorem _root_.L2.PGs.weak {X : Cx} {e : List Expr} {t t' : TGs} (h : PGs X e t) (w : ∀ v σ H Q, t' v σ H Q → t v σ H Q) : PGs X e t' := ⟨fun pins s σ H v u Q I r q => h.run pins s σ H v u Q I r (w v σ H Q q)⟩

def dNext : TSd := fun D η => D.nx η
def dSeq (t u : TSd) : TSd := fun D η => t { D with nx := u D } η
theorem sd_nil : SDs X [] dNext := pss_nil.weak fun D σ H ⟨W, η, Dd, r, t, k⟩ => k.nx _ _ _ _ (Le.refl W) r t
theorem sd_one {s : Stmt} {t : TSd} (h : SD X s t) : SDs X [s] t := pss_one h
theorem sd_cons {s : Stmt} {r : List Stmt} {t u : TSd} (h1 : SD X s t) (h2 : SDs X r u) : SDs X (s :: r) (dSeq t u) :=
  (pss_cons h1 h2).weak fun D σ H ⟨W, η, Dd, r, t, k⟩ => ⟨W, η, _, r, t, ⟨fun W' σ' H' η' l r' q => ⟨W', η', Dd, r', q, k.up l⟩, k.rt, k.bk, k.ct⟩⟩
theorem sd_pass {pos} : SD X (.Pass pos) dNext := ps_pass.weak fun D σ H ⟨W, η, Dd, r, t, k⟩ => k.nx _ _ _ _ (Le.refl W) r t
def dBreak : TSd := fun D η => D.bk η
def dCont : TSd := fun D η => D.ct η
theorem sd_break {pos} : SD X (.Break pos) dBreak := ps_break.weak fun D σ H ⟨W, η, Dd, r, t, k⟩ => k.bk _ _ _ _ (Le.refl W) r t
theorem sd_continue {pos} : SD X (.Continue pos) dCont := ps_continue.weak fun D σ H ⟨W, η, Dd, r, t, k⟩ => k.ct _ _ _ _ (Le.refl W) r t
def dDrop (te : TD) : TSd := fun D η => te η fun _ η1 => D.nx η1
theorem sd_expr {e : Expr} {te : TD} {pos : Pos} (he : PD X e te) (hs : swapsWith e none pos.line X.env = pure false := by rfl) : SD X (.Expr e pos) (dDrop te) :=
  (ps_expr he hs).weak fun D σ H ⟨W, η, Dd, r, t, k⟩ => ⟨W, [], η, [], _, r, t, fun W1 v H1 η1 x l r1 q => k.nx _ _ _ _ l (R5.pop (τ := []) (θ := []) r1) q⟩
def dRet (te : TD) : TSd := fun D η => te η fun x _ => D.rt x
theorem sd_ret {e : Expr} {te : TD} {pos : Pos} (he : PD X e te) : SD X (.Return (some e) pos) (dRet te) :=
  (ps_ret he).weak fun D σ H ⟨W, η, Dd, r, t, k⟩ => ⟨W, [], η, [], _, r, t, fun W1 v H1 η1 x l r1 q => k.rt _ _ _ _ l r1.last q⟩
def dRetN : TSd := fun D _ => D.rt (.d .none)
theorem sd_retN {pos} : SD X (.Return none pos) dRetN :=
  ps_retN.weak fun D σ H ⟨W, η, Dd, r, t, k⟩ => k.rt _ _ _ _ (Le.refl W) (r.pushD .non).last t
/-- one way or the other -/
structure Br (b : Bool) (A B : Prop) : Prop where
  t : b = true → A
  f : b = false → B
theorem Br.ite {b : Bool} {A B : Prop} (h : Br b A B) : if b = true then A else B := by
  cases b
  · exact iteF (h.f rfl)
  · exact iteT (h.t rfl)
theorem br_of {b : Bool} {A B A' B' : Prop} (h : Br b A B) (h1 : A → A') (h2 : B → B') : if b = true then A' else B' := by
  cases b
  · exact iteF (h2 (h.f rfl))
  · exact iteT (h1 (h.t rfl))
def dIf (c : TB) (t u : TSd) : TSd := fun D η => c η fun b η1 => Br b (t D η1) (u D η1)
theorem sd_if {c : Expr} {a b : List Stmt} {tc : TB} {t u : TSd} {pos : Pos} (hc : PB X c tc) (ha : SDs X a t) (hb : SDs X b u) : SD X (.If c a b pos) (dIf tc t u) :=
  (ps_if hc ha hb).weak fun D σ H ⟨W, η, Dd, r, t, k⟩ => ⟨W, [], η, [], _, r, t, fun W1 b H1 η1 l r1 q => br_of q (fun q => ⟨W1, η1, Dd, r1, q, k.up l⟩) fun q => ⟨W1, η1, Dd, r1, q, k.up l⟩⟩

/-! ### targets -/
abbrev TGd := DV → En → (En → Prop) → Prop
abbrev TGsd := List PyData → En → (En → Prop) → Prop
def lG (g : TGd) : TG := fun v σ H Q => ∃ (W : Wd) (τ : List V) (η θ : En) (x : DV) (Qd : En → Prop), R5 W H σ (τ ++ [v]) η (θ ++ [x]) ∧ g x η Qd ∧ ∀ W' σ' H' η', Le W W' → R5 W' H' σ' τ η' θ → Qd η' → Q σ' H'
def lGs (g : TGsd) : TGs := fun vs σ H Q => ∃ (W : Wd) (τ : List V) (η θ : En) (ds : List PyData) (Qd : En → Prop), R5 W H σ τ η θ ∧ DtAll (fx W) vs ds ∧ g ds η Qd ∧ ∀ W' σ' H' η', Le W W' → R5 W' H' σ' τ η' θ → Qd η' → Q σ' H'
abbrev GD (X : Cx) (e : Expr) (g : TGd) : Prop := PG X e (lG g)
abbrev GDs (X : Cx) (es : List Expr) (g : TGsd) : Prop := PGs X es (lGs g)
theorem R5.set {W : Wd} {H : Hp} {σ : L2.St} {τ : List V} {η θ : En} {v : V} {x : DV} (r : R5 W H σ (τ ++ [v]) η (θ ++ [x])) (i : Nat) : R5 W H (σ.set i (some v)) τ (put η i x) θ := by
  by_cases hi : i < η.length
  · have hl := r.len
    have ht := r.pop.lens
    refine ⟨by rw [put_eq]; simp [r.len], ?_⟩
    refine r.rel.sub (by rw [put_eq]; simp [r.len, ht]) (fun k => if k = i then η.length + θ.length else k) (fun k y e => ?_) (fun a b ha hb e hab _ _ _ _ => ?_)
    · right
      by_cases hk : k = i
      · subst hk
        rw [put_eq, List.getElem?_append_left (by simpa using hi), List.getElem?_set_self hi] at e
        cases e
        rw [if_pos rfl]
        refine ⟨?_, ?_⟩
        · rw [List.getElem?_append_right (by omega), List.getElem?_append_right (by omega)]
          have : η.length + θ.length - η.length - θ.length = 0 := by omega
          rw [this]; rfl
        · rw [List.getElem?_append_left (by simp; omega), List.getElem?_set_self (by omega), List.map_append, List.getElem?_append_right (by omega), List.getElem?_append_right (by simp; omega)]
          have : η.length + θ.length - σ.length - (τ.map some).length = 0 := by simp; omega
          rw [this]; rfl
      · rw [if_neg hk]
        have hz : k < η.length + θ.length := by
          have := (List.getElem?_eq_some_iff.mp e).1
          rw [put_eq] at this; simpa using this
        refine ⟨?_, ?_⟩
        · rw [put_eq] at e
          by_cases hk2 : k < η.length
          · rw [List.getElem?_append_left (by simpa using hk2), List.getElem?_set_ne (Ne.symm hk)] at e
            rw [List.getElem?_append_left hk2]; exact e
          · rw [List.getElem?_append_right (by simp; omega), List.length_set] at e
            rw [List.getElem?_append_right (by omega), List.getElem?_append_left (by omega)]; exact e
        · by_cases hk2 : k < η.length
          · rw [List.getElem?_append_left (by simp; omega), List.getElem?_append_left (by omega), List.getElem?_set_ne (Ne.symm hk)]
          · rw [List.getElem?_append_right (by simp; omega), List.getElem?_append_right (by omega), List.length_set, List.map_append, List.getElem?_append_left (by simp; omega)]
    · have h1 : a < η.length + θ.length := by rw [put_eq] at ha; simpa using ha
      have h2 : b < η.length + θ.length := by rw [put_eq] at hb; simpa using hb
      split at e <;> split at e <;> omega
  · have e1 : put η i x = η := by rw [put_eq, List.set_eq_of_length_le (by omega)]
    have e2 : σ.set i (some v) = σ := List.set_eq_of_length_le (by have := r.len; omega)
    rw [e1, e2]
    exact r.pop
def gSet (i : Nat) : TGd := fun x η Q => Q (put η i x)
theorem gd_name {i : Nat} {x : Str} {pos : Pos} (h : PG X (.Name x pos) (gName i)) : GD X (.Name x pos) (gSet i) :=
  h.weak fun v σ H Q ⟨W, τ, η, θ, x, Qd, r, t, k⟩ => k _ _ _ _ (Le.refl W) (r.set i) t
def gsNil : TGsd := fun ds η Q => match ds with
  | [] => Q η
  | _ => False
def gsCons (g : TGd) (gs : TGsd) : TGsd := fun ds η Q => match ds with
  | d :: r => g (.d d) η fun η1 => gs r η1 Q
  | [] => False
theorem gds_nil : GDs X [] gsNil := pgs_nil.weak fun vs σ H Q ⟨W, τ, η, θ, ds, Qd, r, a, t, k⟩ => by
  cases a with
  | nil => exact ⟨rfl, k _ _ _ _ (Le.refl W) r t⟩
  | cons _ _ => exact t.elim
theorem gds_cons {e : Expr} {es : List Expr} {g : TGd} {gs : TGsd} (h1 : GD X e g) (h2 : GDs X es gs) (hs : (assignEach (e :: es) X.env).map (·.2) = assign e X.env :: (assignEach es X.env).map (·.2) := by rfl) : GDs X (e :: es) (gsCons g gs) :=
  (pgs_cons h1 h2 hs).weak fun vs σ H Q ⟨W, τ, η, θ, ds, Qd, r, a, t, k⟩ => by
    cases a with
    | nil => exact t.elim
    | cons h a =>
      refine ⟨_, _, rfl, W, τ, η, θ, _, _, r.pushD h, t, fun W1 σ1 H1 η1 l1 r1 q => ?_⟩
      exact ⟨W1, τ, η1, θ, _, _, r1, DtAll.mono l1.fx a, q, fun W2 σ2 H2 η2 l2 r2 q2 => k _ _ _ _ (l1.trans l2) r2 q2⟩
def dgTup (n : Nat) (gs : TGsd) : TGd := fun x η Q => match x with
  | .d (.tuple ds) => Need (ds.length = n) ∧ gs ds η Q
  | _ => False
theorem gd_tup {es : List Expr} {k : Nat} {gs : TGsd} {n : Nat} {pos : Pos} (hc : X.calm = true) (h : GDs X es gs)
    (hn : (assignEach es X.env).length = n := by rfl) (hst : (assignEach es X.env).findIdx? (·.1) = none := by rfl) : GD X (.Tuple es k pos) (dgTup n gs) :=
  (pg_tup hc h hn hst).weak fun v σ H Q ⟨W, τ, η, θ, x, Qd, r, t, k⟩ => by
    unfold dgTup at t
    split at t
    · cases r.topD with
      | tup a b =>
        refine ⟨_, _, rfl, SqT.of (r.hold.same _ _ a), by rw [DtAll.length b]; exact t.1.h, ?_⟩
        exact ⟨W, τ, η, θ, _, _, r.pop, b, t.2, k⟩
    · exact t.elim
def dAsg (te : TD) (g : TGd) : TSd := fun D η => te η fun x η1 => g x η1 D.nx
theorem asg_core {te : TD} {g : TGd} {D : Ends} {σ : L2.St} {H : Hp} (h : lS (dAsg te g) D σ H) : tAsg (lE te) (lG g) D σ H := by
  obtain ⟨W, η, Dd, r, t, k⟩ := h
  exact ⟨W, [], η, [], _, r, t, fun W1 v H1 η1 x l1 r1 q => ⟨W1, [], η1, [], x, _, r1, q, fun W2 σ2 H2 η2 l2 r2 q2 => k.nx _ _ _ _ (l1.trans l2) r2 q2⟩⟩
theorem sd_asg {tg e : Expr} {te : TD} {g : TGd} {pos : Pos} (he : PD X e te) (hg : GD X tg g) (hs : swapsWithSole [tg] e pos.line X.env = pure false := by rfl) (hw : swappedStores [tg] e X.env = pure none := by rfl)
    (h1 : (assignEach [tg] X.env).map (·.2) = [assign tg X.env] := by rfl) : SD X (.Assign [tg] e pos) (dAsg te g) :=
  (ps_asg he hg hs hw h1).weak fun D σ H h => asg_core h
/-- name = e -/
theorem sd_set {i : Nat} {x : Str} {e : Expr} {te : TD} {pos pos' : Pos} (hN : X.N.Nodup) (hi : X.N[i]? = some x) (hx : Loc X.env.scope x) (he : PD X e te) (hs : swapsWith e (some (.Name x pos')) pos.line X.env = pure false := by rfl) (hf : X.fn x = true ∨ X.env.scope.names.lookup x = some .local := by first | exact .inl rfl | exact .inr rfl | assumption) :
    SD X (.Assign [.Name x pos'] e pos) (dAsg te (gSet i)) :=
  (ps_set hN hi hx he hs hf).weak fun D σ H h => by
    obtain ⟨W, η, Dd, r, t, k⟩ := h
    exact ⟨W, [], η, [], _, r, t, fun W1 v H1 η1 x l1 r1 q => k.nx _ _ _ _ l1 (R5.set (τ := []) (θ := []) r1 i) q⟩
/-- a, b = e1, e2 -/
def dPar (i j : Nat) (ta : TL) : TSd := fun D η => ta η fun xs η1 => match xs with
  | [x, y] => D.nx (put (put η1 i x) j y)
  | _ => False
theorem sd_par {i j : Nat} {x y : Str} {a b : Expr} {ta : TL} {px py pt pos : Pos} {kt k2 pt2} (hc : X.calm = true) (hN : X.N.Nodup) (hi : X.N[i]? = some x) (hj : X.N[j]? = some y) (hij : i ≠ j)
    (hx : X.env.scope.names.lookup x = some .local) (hy : X.env.scope.names.lookup y = some .local) (ha : PLn X [a, b] ta)
    (hw : swappedStores [.Tuple [.Name x px, .Name y py] kt pt] (.Tuple [a, b] k2 pt2) X.env = pure (some [x, y]))
    (hs : swapsWithSole [.Tuple [.Name x px, .Name y py] kt pt] (.Tuple [a, b] k2 pt2) pos.line X.env = pure false := by rfl) :
    SD X (.Assign [.Tuple [.Name x px, .Name y py] kt pt] (.Tuple [a, b] k2 pt2) pos) (dPar i j ta) :=
  (ps_par hc hN hi hj hij hx hy ha hw hs).weak fun D σ H ⟨W, η, Dd, r, t, k⟩ => by
    refine ⟨W, [], η, [], _, r, t, fun W1 vs H1 η1 xs l1 r1 e1 e2 q => ?_⟩
    split at q
    · rename_i u w
      obtain ⟨v1, v2, rfl⟩ : ∃ v1 v2, vs = [v1, v2] := by
        match vs, e1 with
        | [v1, v2], _ => exact ⟨v1, v2, rfl⟩
      refine ⟨v1, v2, rfl, ?_⟩
      have r2 : R5 W1 H1 (σ.set j (some v2)) [v1] (put η1 j w) [u] := R5.set (τ := [v1]) (θ := [u]) r1 j
      have r3 : R5 W1 H1 ((σ.set j (some v2)).set i (some v1)) [] (put (put η1 j w) i u) [] := R5.set (τ := []) (θ := []) r2 i
      rw [List.set_comm _ _ (Ne.symm hij)] at r3
      have e : put (put η1 j w) i u = put (put η1 i u) j w := by simp only [put_eq]; exact List.set_comm _ _ (Ne.symm hij)
      rw [e] at r3
      exact k.nx _ _ _ _ l1 r3 q
    · exact q.elim

/-! ### a def's promise -/
/-- what a def does, by data: of its arguments, and of what is wanted of its value -/
abbrev SpD := List DV → (DV → Prop) → Prop
def lSp (sp : SpD) : Sp := fun vs H Q _ => ∃ (W : Wd) (xs : List DV) (Qd : DV → Prop), Rel W H (vs.map some) xs ∧ sp xs Qd ∧ ∀ W' v H' x, Le W W' → Rel W' H' [some v] [x] → Qd x → Q v H'
def dCall (sp : SpD) (ta : TL) : TD := fun η Q => ta η fun xs η1 => sp (xs.map frz) fun x => Q x η1
/-- own cells of the caller, put aside -/
theorem Rel.aside {W : Wd} {H : Hp} {vs ws : List (Option V)} {ds es : List DV} (r : Rel W H (vs ++ ws) (ds ++ es)) (hl : vs.length = ds.length) (hn : ∀ x ∈ es, ∀ xs, x ≠ .own xs) :
    ∃ Wc, Rel Wc H ws es ∧ ∀ W' H' v x, Le Wc W' → Rel W' H' [some v] [x] → ∃ W2, Le W W2 ∧ Rel W2 H' (vs ++ [some v]) (ds ++ [x]) := by
  obtain ⟨hh, ln, o, a, b⟩ := id r
  let isO : Addr → Prop := fun c => ∃ i xs, ds[i]? = some (.own xs) ∧ o i = c
  have geti : ∀ {i : Nat} {x : DV}, ds[i]? = some x → (ds ++ es)[i]? = some x := fun {i x} e => by
    rw [List.getElem?_append_left (List.getElem?_eq_some_iff.mp e).1]; exact e
  have oW : ∀ c, isO c → W c = none ∧ ∃ ys, H c = some (.lst ys) := fun c ⟨i, xs, e, q⟩ => by
    obtain ⟨v, e1, e2, e3, ys, e4, _⟩ := a i _ (geti e)
    rw [← q]; exact ⟨e3, ys, e4⟩
  classical
  let Wc : Wd := fun c => if isO c then (match H c with | some o => some (.ext o) | none => none) else W c
  have cO : ∀ c, isO c → ∃ ys, Wc c = some (.ext (.lst ys)) ∧ H c = some (.lst ys) := fun c h => by
    obtain ⟨_, ys, e⟩ := oW c h
    refine ⟨ys, ?_, e⟩
    show (if isO c then _ else _) = _
    rw [if_pos h, e]
  have cN : ∀ c, ¬ isO c → Wc c = W c := fun c h => if_neg h
  have nO : ∀ c k, W c = some k → ¬ isO c := fun c k e h => by rw [(oW c h).1] at e; cases e
  have cK : ∀ c k, W c = some k → Wc c = some k := fun c k e => (cN c (nO c k e)).trans e
  have fxc : ∀ c o, fx W c = some o → fx Wc c = some o := fun c o e => fx_of (cK c _ (of_fx e))
  have hc : Hold Wc H := fun c k e => by
    by_cases h : isO c
    · obtain ⟨ys, e1, e2⟩ := cO c h
      rw [e1] at e; cases e; exact e2
    · rw [cN c h] at e
      have z := hh c k e
      cases k with
      | fix o => exact z
      | ext o => exact z
      | bag d => exact ⟨cK _ _ z.1, z.2⟩
      | cell d => exact cK _ _ z
  refine ⟨Wc, ⟨hc, by simp at ln; omega, fun i => o (ds.length + i), fun i x e => ?_, fun i j xs ys e _ _ => absurd rfl (hn _ (List.mem_of_getElem? e) xs)⟩, ?_⟩
  · obtain ⟨v, e1, e2⟩ := a (ds.length + i) x (by rw [List.getElem?_append_right (by omega)]; simpa using e)
    rw [List.getElem?_append_right (by omega)] at e1
    have : ds.length + i - vs.length = i := by omega
    rw [this] at e1
    refine ⟨v, e1, ?_⟩
    cases x with
    | no => trivial
    | d x => obtain ⟨y, e3, e4⟩ := e2; exact ⟨y, e3, Dt.mono fxc e4⟩
    | own xs => exact absurd rfl (hn _ (List.mem_of_getElem? e) xs)
    | bag => obtain ⟨b, c, e3, e4⟩ := e2; exact ⟨b, c, e3, cK _ _ e4⟩
    | raw y => obtain ⟨y, e3, e4⟩ := e2; exact ⟨y, e3, fun H' s => e4 H' (Same.trans (fun c o e => fxc c o e) s)⟩
  · intro W' H' v x l rv
    let W2 : Wd := fun c => if isO c then none else W' c
    have w2N : ∀ c, ¬ isO c → W2 c = W' c := fun c h => if_neg h
    have w2O : ∀ c, isO c → W2 c = none := fun c h => if_pos h
    have w2K : ∀ c k, W' c = some k → (∀ o, k ≠ .ext o) → W2 c = some k := fun c k e n => by
      rw [w2N c fun h => ?_, e]
      obtain ⟨ys, e1, _⟩ := cO c h
      rw [l.keep _ _ e1] at e
      exact n _ (Option.some.inj e).symm
    have fx2 : ∀ c o, fx W' c = some o → fx W2 c = some o := fun c o e => fx_of (w2K c _ (of_fx e) fun _ q => nomatch q)
    have le2 : Le W W2 := by
      refine ⟨fun c k e => ?_, fun c ob e => ?_⟩
      · rw [w2N c (nO c k e)]; exact l.keep _ _ (cK c k e)
      · by_cases h : isO c
        · rw [w2O c h] at e; cases e
        · rw [w2N c h] at e
          have := l.ext c ob e
          rw [cN c h] at this; exact this
    have hold2 : Hold W2 H' := fun c k e => by
      by_cases h : isO c
      · rw [w2O c h] at e; cases e
      · rw [w2N c h] at e
        have z := rv.hold c k e
        cases k with
        | fix o => exact z
        | ext o => exact z
        | bag d => exact ⟨w2K _ _ z.1 (fun _ q => nomatch q), z.2⟩
        | cell d => exact w2K _ _ z fun _ q => nomatch q
    have keepO : ∀ i xs, ds[i]? = some (.own xs) → ∀ ys, H (o i) = some (.lst ys) → H' (o i) = some (.lst ys) ∧ W2 (o i) = none := fun i xs e ys e1 => by
      have h : isO (o i) := ⟨i, xs, e, rfl⟩
      obtain ⟨zs, e2, e3⟩ := cO _ h
      rw [e1] at e3; cases e3
      exact ⟨rv.hold _ _ (l.keep _ _ e2), w2O _ h⟩
    obtain ⟨_, _, o1, a1, _⟩ := rv
    obtain ⟨v1, e1, e2⟩ := a1 0 x rfl
    have e1 : some (some v) = some v1 := e1
    cases e1
    refine ⟨W2, le2, hold2, by simp [hl], fun i => if i = ds.length then o1 0 else o i, fun i y e => ?_, fun i j xs ys e3 e4 hij => ?_⟩
    · rcases app_one e with ⟨hi, e⟩ | ⟨rfl, rfl⟩
      · obtain ⟨u, e3, e4⟩ := a i y (geti e)
        refine ⟨u, ?_, ValOk.re (o := o) (i := i) ?_ (if_neg (by omega))⟩
        · rw [List.getElem?_append_left (by omega)] at e3
          rw [List.getElem?_append_left (by omega)]; exact e3
        · cases y with
          | no => trivial
          | d x => obtain ⟨z, e5, e6⟩ := e4; exact ⟨z, e5, Dt.mono le2.fx e6⟩
          | own xs =>
            obtain ⟨e5, e6, ys, e7, e8⟩ := e4
            obtain ⟨k1, k2⟩ := keepO i xs e ys e7
            exact ⟨e5, k2, ys, k1, DtAll.mono le2.fx e8⟩
          | bag => obtain ⟨b, c, e5, e6⟩ := e4; exact ⟨b, c, e5, le2.keep _ _ e6⟩
          | raw z => obtain ⟨y, e5, e6⟩ := e4; exact ⟨y, e5, fun H' s => e6 H' (Same.trans le2.fx s)⟩
      · refine ⟨some v, by rw [← hl]; simp, ValOk.re (o := o1) (i := 0) ?_ (if_pos rfl)⟩
        cases y with
        | no => trivial
        | d x => obtain ⟨z, e5, e6⟩ := e2; exact ⟨z, e5, Dt.mono fx2 e6⟩
        | own xs =>
          obtain ⟨e5, e6, ys, e7, e8⟩ := e2
          refine ⟨e5, ?_, ys, e7, DtAll.mono fx2 e8⟩
          show (if isO (o1 0) then none else W' (o1 0)) = none
          split
          · rfl
          · exact e6
        | bag => obtain ⟨b, c, e5, e6⟩ := e2; exact ⟨b, c, e5, w2K _ _ e6 fun _ q => nomatch q⟩
        | raw z => obtain ⟨y, e5, e6⟩ := e2; exact ⟨y, e5, fun H' s => e6 H' (Same.trans (fun c o e => fx2 c o e) s)⟩
    · have ne : ∀ i xs ys, ds[i]? = some (.own xs) → x = .own ys → o i ≠ o1 0 := fun i xs ys e q z => by
        subst q
        obtain ⟨_, e6, _⟩ := e2
        obtain ⟨zs, e7, _⟩ := cO _ ⟨i, xs, e, rfl⟩
        have := l.keep _ _ e7
        rw [z, e6] at this; cases this
      show (if i = ds.length then o1 0 else o i) ≠ (if j = ds.length then o1 0 else o j)
      rcases app_one e3 with ⟨hi, e3⟩ | ⟨hi, q⟩
      · rw [if_neg (by omega)]
        rcases app_one e4 with ⟨hj, e4⟩ | ⟨hj, q⟩
        · rw [if_neg (by omega)]; exact b i j xs ys (geti e3) (geti e4) hij
        · rw [if_pos hj]; exact ne i xs ys e3 q.symm
      · rw [if_pos hi]
        rcases app_one e4 with ⟨hj, e4⟩ | ⟨hj, _⟩
        · rw [if_neg (by omega)]; exact (ne j ys xs e4 q.symm).symm
        · omega
theorem frz_not {x : DV} {xs : List PyData} : frz x ≠ .own xs := by cases x <;> intro q <;> cases q
theorem call_core {sp : SpD} {W : Wd} {H : Hp} {σ : L2.St} {τ vs : List V} {η θ : En} {xs : List DV} {Q : VK} {Qd : DV → En → Prop} {E : XK} (r : R5 W H σ (τ ++ vs) η (θ ++ xs)) (hl : vs.length = xs.length)
    (h : sp (xs.map frz) fun x => Qd x η) (k : ∀ W' v H' η' x, Le W W' → R5 W' H' σ (τ ++ [v]) η' (θ ++ [x]) → Qd x η' → Q v H') : lSp sp vs H Q E := by
  obtain ⟨W1, l1, r1⟩ := r.frzAll
  have hlen := r1.len
  have hl2 := r1.lens
  have q := r1.rel
  rw [List.map_append, ← List.append_assoc, ← List.append_assoc] at q
  obtain ⟨Wc, rc, back⟩ := q.aside (by simp at hl2 ⊢; omega) fun x hx ys e => by
    obtain ⟨z, _, rfl⟩ := List.mem_map.mp hx
    exact frz_not e
  refine ⟨Wc, _, _, rc, h, fun W' v H' x l rv qd => ?_⟩
  obtain ⟨W2, l2, r2⟩ := back W' H' v x l rv
  refine k W2 v H' η x (l1.trans l2) ⟨hlen, ?_⟩ qd
  rw [List.map_append, ← List.append_assoc, ← List.append_assoc]
  exact r2
theorem pd_call {CX : CXT} {k : Nat} {f : Addr} {fd : FuncData} {ps : List Str} {sp : SpD} {E : XK} {x : Str} {p pos : Pos} {e : Expr} {es : List Expr} {t : TL}
    (F : FnG X.prog X.w X.K X.mg X.base CX k f fd ps (lSp sp)) (hgu : X.A.guards = some []) (hr : Room k X.A) (hg : Gl X x) (hm : X.mg x = some (.ref f)) (hk : PySem.W.keepIn X.K (.ref f) = true) (hb : Binds X.K fd ps []) (hx : Passes CX X E)
    (ha : PLn X (e :: es) t) (hdb : (x == ("__debug__" : Str)) = false := by decide) (he : starEach (e :: es) X.env = (false, eval e X.env) :: starEach es X.env := by rfl)
    (hpl : (backTo pos (starEach es X.env)).any (·.1) = false := by rfl) : PD X (.Call (.Name x p) (e :: es) [] pos) (dCall sp t) := by
  refine (pe_callG (E := E) F hgu hr hg hm hk hb hx ha hdb he hpl).weak fun σ H Q ⟨W, τ, η, θ, Qd, r, t, k⟩ => ?_
  refine ⟨W, τ, η, θ, _, r, t, fun W1 vs H1 η1 xs l1 r1 e1 e2 q => ?_⟩
  exact call_core r1 e1 q fun W' v H' η' x l => k _ _ _ _ _ (l1.trans l)

/-- a def's body keeps its promise -/
theorem R5.start {W : Wd} {H : Hp} {vs : List V} {xs : List DV} {N : List Str} (r : Rel W H (vs.map some) xs) : R5 W H (start N vs) [] (xs ++ List.replicate (N.length - xs.length) .no) [] := by
  have hl : vs.length = xs.length := by have := r.len; simpa using this
  refine ⟨by unfold L2.start; simp [hl], ?_⟩
  rw [List.map_nil, List.append_nil, List.append_nil]
  unfold L2.start
  rw [hl]
  refine r.sub (by simp [hl]) (fun i => i) (fun i x e => ?_) fun i j _ _ e hij _ _ _ _ => hij e
  by_cases hi : i < xs.length
  · right
    rw [List.getElem?_append_left hi] at e
    refine ⟨e, ?_⟩
    rw [List.getElem?_append_left (by simpa [hl] using hi)]
  · left
    rw [List.getElem?_append_right (by omega), List.getElem?_replicate] at e
    split at e
    · cases e
      refine ⟨rfl, none, ?_⟩
      rw [List.getElem?_append_right (by simp; omega), List.getElem?_replicate]
      rw [if_pos (by simp; omega)]
    · cases e
theorem fn_body {P : Program} {w : World} {K : PySem.W.Frag} {mg : Str → Option Value} {base : Heap} {x qual : Str} {st : Stmt} {f : Addr} {fd : FuncData} {N ps : List Str} {k : Nat} {sp : SpD} {t : TSd} (F : Fun K x qual st f fd) (S : FnScope N ps (defScope st))
    (len : ∀ xs Q, sp xs Q → xs.length = ps.length)
    (hbody : ∀ (cdv : Value) (A : Around) (outer : List PySem.Env) (s : Shared) (H : Hp) (E : XK), A.guards = some [] → Room k (A.deeper (envOfC qual (defScope st) s.heap.objs.size f cdv)) →
      SDs (cxOf CX0 P w K mg base N qual (defScope st) f cdv A outer s H E).nox (defBody st) t)
    (h : ∀ xs Q, sp xs Q → t { nx := fun _ => Q (.d .none), rt := Q } (xs ++ List.replicate (N.length - xs.length) .no)) : FnG P w K mg base CX0 (k + 1) f fd ps (lSp sp) := by
  refine Fun.okG F S (fun vs H Q E ⟨W, xs, Qd, r, q, _⟩ => ?_) fun cdv A outer s H vs Q E hgu hr ⟨W, xs, Qd, r, q, c⟩ => ?_
  · have := r.len; simp at this; rw [this]; exact len _ _ q
  · refine ⟨_, hbody cdv A outer s H E hgu hr, W, _, _, R5.start r, h xs Qd q, ⟨fun W' σ H' η l r' z => ?_, fun W' v H' x l r' z => c _ _ _ _ l r' z, fun _ _ _ _ _ _ z => z.elim, fun _ _ _ _ _ _ z => z.elim⟩⟩
    refine c W' .non H' (.d .none) l ?_ z
    exact (Rel.nil r'.hold).push (y := some .non) (x := .d .none) (fun _ => ⟨.non, rfl, .non⟩) fun _ q => nomatch q
end L2.Gd

set_option Elab.async false
set_option linter.all false
set_option maxRecDepth 100000
set_option maxHeartbeats 1000000
namespace L2.Gd
open PySem PySem.Spec PyProof.Rows L2
variable {X : Cx}

/-! ### and, or, not, if else -/
def dTrue (x : DV) (k : Bool → Prop) : Prop := match x with
  | .d (.bool b) => k b
  | .d (.int i) => k (i != 0)
  | .d .none => k false
  | .d (.list xs) => k (!xs.isEmpty)
  | .d (.tuple xs) => k (!xs.isEmpty)
  | .own xs => k (!xs.isEmpty)
  | _ => False
def dAnd (ta tb : TB) : TB := fun η Q => ta η fun b η1 => Br b (tb η1 Q) (Q false η1)
def dOr (ta tb : TB) : TB := fun η Q => ta η fun b η1 => Br b (Q true η1) (tb η1 Q)
def dNot (ta : TB) : TB := fun η Q => ta η fun b η1 => Q (!b) η1
section
variable {a b : Expr} {rest : List Expr} {pos : Pos} {ta tb : TB} {va vb : TD}
theorem pw_one_and (h : PB X a ta) : PWB X (.BoolOp .And [a] pos) ta := pw_and1 h
theorem pw_one_or (h : PB X a ta) : PWB X (.BoolOp .Or [a] pos) ta := pw_or1 h
theorem pb_and (ha : PB X a ta) (hb : PWB X (.BoolOp .And (b :: rest) pos) tb) : PWB X (.BoolOp .And (a :: b :: rest) pos) (dAnd ta tb) :=
  (pw_and ha hb).weak fun σ H Q ⟨W, τ, η, θ, Qd, r, t, k⟩ => ⟨W, τ, η, θ, _, r, t, fun W1 c H1 η1 l1 r1 q => br_of q (fun q => ⟨W1, τ, η1, θ, Qd, r1, q, fun W2 c2 H2 η2 l2 => k _ _ _ _ (l1.trans l2)⟩) fun q => k _ _ _ _ l1 r1 q⟩
theorem pb_or (ha : PB X a ta) (hb : PWB X (.BoolOp .Or (b :: rest) pos) tb) : PWB X (.BoolOp .Or (a :: b :: rest) pos) (dOr ta tb) :=
  (pw_or ha hb).weak fun σ H Q ⟨W, τ, η, θ, Qd, r, t, k⟩ => ⟨W, τ, η, θ, _, r, t, fun W1 c H1 η1 l1 r1 q => br_of q (fun q => k _ _ _ _ l1 r1 q) fun q => ⟨W1, τ, η1, θ, Qd, r1, q, fun W2 c2 H2 η2 l2 => k _ _ _ _ (l1.trans l2)⟩⟩
theorem pb_w (h : PWB X a ta) : PB X a ta := PW.pt h
theorem pb_not (h : PB X a ta) : PB X (.UnaryOp .Not a pos) (dNot ta) :=
  (pt_not h).weak fun σ H Q ⟨W, τ, η, θ, Qd, r, t, k⟩ => ⟨W, τ, η, θ, _, r, t, fun W1 c H1 η1 l1 r1 q => k _ _ _ _ l1 r1 q⟩
theorem isEmpty_all {H : Hp} {ys : List V} {xs : List PyData} (h : DtAll H ys xs) : (!xs.isEmpty) = !ys.isEmpty := by cases h <;> rfl
def dTruth (t : TD) : TB := fun η Q => t η fun x η1 => dTrue x fun b => Q b η1
theorem pb_truth (h : PD X a va) (he : ∀ whole, isTrue a X.env whole = (do let v ← whole; standAt a.pos; holding [v] (truthy v)) := by intro _; rfl) : PB X a (dTruth va) := by
  refine (pt_truth h he).weak fun σ H Q ⟨W, τ, η, θ, Qd, r, t, k⟩ => ⟨W, τ, η, θ, _, r, t, fun W1 v H1 η1 x l1 r1 q => ?_⟩
  have fin : ∀ c, Qd c η1 → Q c H1 := fun c q => k _ _ _ _ l1 r1.pop q
  unfold dTrue at q
  split at q
  · cases r1.topD; exact ⟨_, rfl, fin _ q⟩
  · cases r1.topD; exact ⟨_, rfl, fin _ q⟩
  · cases r1.topD; exact ⟨_, rfl, fin _ q⟩
  · cases r1.topD with
    | lst e a => exact ⟨_, .inl ⟨_, SqL.of (r1.hold.same _ _ e), isEmpty_all a⟩, fin _ q⟩
  · cases r1.topD with
    | tup e a => exact ⟨_, .inr (.inl ⟨_, SqT.of (r1.hold.same _ _ e), isEmpty_all a⟩), fin _ q⟩
  · obtain ⟨o, n, e1, _, ys, e2, e3⟩ := r1.top
    cases e1
    exact ⟨_, .inl ⟨_, SqL.of e2, isEmpty_all e3⟩, fin _ q⟩
  · exact q.elim
/-- as values -/
def dAndV (ta tb : TD) : TD := fun η Q => ta η fun x η1 => isB x fun b => Br b (tb η1 Q) (Q (.d (.bool false)) η1)
def dOrV (ta tb : TD) : TD := fun η Q => ta η fun x η1 => isB x fun b => Br b (Q (.d (.bool true)) η1) (tb η1 Q)
def dNotV (ta : TD) : TD := fun η Q => ta η fun x η1 => isB x fun b => Q (.d (.bool (!b))) η1
theorem pd_one {op} (h : PD X a va) : PD X (.BoolOp op [a] pos) va := pe_one h
theorem pd_and (ha : PD X a va) (hb : PD X (.BoolOp .And (b :: rest) pos) vb) : PD X (.BoolOp .And (a :: b :: rest) pos) (dAndV va vb) :=
  (pe_and ha hb).weak fun σ H Q ⟨W, τ, η, θ, Qd, r, t, k⟩ => ⟨W, τ, η, θ, _, r, t, fun W1 v H1 η1 x l1 r1 q => by
    obtain ⟨c, rfl, q⟩ := isB_ex q
    cases r1.topD
    exact ⟨c, rfl, br_of q (fun q => ⟨W1, τ, η1, θ, Qd, r1.pop, q, fun W2 c2 H2 η2 x2 l2 => k _ _ _ _ _ (l1.trans l2)⟩) fun q => k _ _ _ _ _ l1 (r1.pop.pushD (.bl false)) q⟩⟩
theorem pd_or (ha : PD X a va) (hb : PD X (.BoolOp .Or (b :: rest) pos) vb) : PD X (.BoolOp .Or (a :: b :: rest) pos) (dOrV va vb) :=
  (pe_or ha hb).weak fun σ H Q ⟨W, τ, η, θ, Qd, r, t, k⟩ => ⟨W, τ, η, θ, _, r, t, fun W1 v H1 η1 x l1 r1 q => by
    obtain ⟨c, rfl, q⟩ := isB_ex q
    cases r1.topD
    exact ⟨c, rfl, br_of q (fun q => k _ _ _ _ _ l1 (r1.pop.pushD (.bl true)) q) fun q => ⟨W1, τ, η1, θ, Qd, r1.pop, q, fun W2 c2 H2 η2 x2 l2 => k _ _ _ _ _ (l1.trans l2)⟩⟩⟩
theorem pd_not (ha : PD X a va) : PD X (.UnaryOp .Not a pos) (dNotV va) :=
  (pe_not ha).weak fun σ H Q ⟨W, τ, η, θ, Qd, r, t, k⟩ => ⟨W, τ, η, θ, _, r, t, fun W1 v H1 η1 x l1 r1 q => by
    obtain ⟨c, rfl, q⟩ := isB_ex q
    cases r1.topD
    exact ⟨c, rfl, k _ _ _ _ _ l1 (r1.pop.pushD (.bl _)) q⟩⟩
def dIfE (tc : TB) (ta tb : TD) : TD := fun η Q => tc η fun b η1 => Br b (ta η1 Q) (tb η1 Q)
theorem pd_if {c : Expr} {tc : TB} (hc : PB X c tc) (ha : PD X a va) (hb : PD X b vb) : PD X (.IfExp c a b pos) (dIfE tc va vb) :=
  (pe_ifExp hc ha hb).weak fun σ H Q ⟨W, τ, η, θ, Qd, r, t, k⟩ => ⟨W, τ, η, θ, _, r, t, fun W1 d H1 η1 l1 r1 q =>
    br_of q (fun q => ⟨W1, τ, η1, θ, Qd, r1, q, fun W2 c2 H2 η2 x2 l2 => k _ _ _ _ _ (l1.trans l2)⟩) fun q => ⟨W1, τ, η1, θ, Qd, r1, q, fun W2 c2 H2 η2 x2 l2 => k _ _ _ _ _ (l1.trans l2)⟩⟩
/-- - a -/
def dNeg (ta : TD) : TD := fun η Q => ta η fun x η1 => match x with
  | .d (.int i) => Q (.d (.int (-i))) η1
  | _ => False
theorem pd_neg (ha : PD X a va) : PD X (.UnaryOp .USub a pos) (dNeg va) :=
  (pe_un un_neg ha).weak fun σ H Q ⟨W, τ, η, θ, Qd, r, t, k⟩ => ⟨W, τ, η, θ, _, r, t, fun W1 v H1 η1 x l1 r1 q => by
    unfold dNeg at t
    split at q
    · cases r1.topD
      exact ⟨_, rfl, k _ _ _ _ _ l1 (r1.pop.pushD (.int _)) q⟩
    · exact q.elim⟩
end

/-! ### a < b < c -/
def datOf : DV → Option PyData
  | .d x => some x
  | .own xs => some (.list xs)
  | _ => none
theorem toD_dat {x : DV} {k : PyData → Prop} (h : toD x k) : ∃ d, datOf x = some d ∧ k d := by
  cases x <;> first | exact ⟨_, rfl, h⟩ | exact h.elim
theorem pk_dat {W : Wd} {H : Hp} {σ : L2.St} {τ : List V} {η θ : En} {v : V} {x : DV} {d : PyData} (r : R5 W H σ (τ ++ [v]) η (θ ++ [x])) (h : datOf x = some d) : Pk W H v d := by
  obtain ⟨d', p, e⟩ := toD_top (k := fun z => z = d) r (by
    cases x <;> simp only [datOf, reduceCtorEq, Option.some.injEq] at h
    · exact h
    · exact h)
  rw [← e]; exact p
section
variable {a b c : Expr} {pos : Pos} {fd fd' : F2} {ta tb : TD} {tc : TF}
def dChain (fd fd' : F2) (ta tb : TD) (tc : TF) : TD := fun η Q => ta η fun x η1 => tb η1 fun y η2 => toD x fun d1 => toD y fun d2 => fd d1 d2 fun z => isB z fun k =>
  Br k (tc η2 fun d3 η3 => fd' d2 d3 fun w => Q w η3) (Q (.d (.bool false)) η2)
theorem chain_core {r r' : R2} (h2 : ∀ (W : Wd) (H : Hp) (σ : L2.St) (τ : List V) (η θ : En) (v1 v2 : V) (d1 d2 : PyData) (Q : VK) (Qd : DV → Prop), R5 W H σ τ η θ → Pk W H v1 d1 → Pk W H v2 d2 → fd d1 d2 Qd →
      (∀ W' v H' x, Le W W' → R5 W' H' σ (τ ++ [v]) η (θ ++ [x]) → Qd x → Q v H') → r v1 v2 H Q)
    (h2' : ∀ (W : Wd) (H : Hp) (σ : L2.St) (τ : List V) (η θ : En) (v1 v2 : V) (d1 d2 : PyData) (Q : VK) (Qd : DV → Prop), R5 W H σ τ η θ → Pk W H v1 d1 → Pk W H v2 d2 → fd' d1 d2 Qd →
      (∀ W' v H' x, Le W W' → R5 W' H' σ (τ ++ [v]) η (θ ++ [x]) → Qd x → Q v H') → r' v1 v2 H Q) (σ : L2.St) (H : Hp) (Q : VK) (h : lE (dChain fd fd' ta tb tc) σ H Q) :
    (lE ta) σ H fun x H1 => (lE tb) σ H1 fun y H2 => r x y H2 fun z H3 => ∃ k, z = .bl k ∧ if k = true then (lF tc) σ H3 fun w H4 => r' y w H4 Q else Q (.bl false) H3 := by
  obtain ⟨W, τ, η, θ, Qd, r5, t, k⟩ := h
  refine ⟨W, τ, η, θ, _, r5, t, fun W1 v1 H1 η1 x l1 r1 t1 => ?_⟩
  refine ⟨W1, _, η1, _, _, r1, t1, fun W2 v2 H2 η2 y l2 r2 t2 => ?_⟩
  obtain ⟨d1, p1, t2⟩ := toD_top r2.pop t2
  obtain ⟨d2, e2, t2⟩ := toD_dat t2
  refine h2 W2 H2 σ _ η2 _ v1 v2 d1 d2 _ _ r2 p1 (pk_dat r2 e2) t2 fun W3 z H3 zd l3 r3 t3 => ?_
  obtain ⟨kk, rfl, t3⟩ := isB_ex t3
  cases r3.topD
  refine ⟨kk, rfl, br_of t3 (fun t3 => ?_) fun t3 => ?_⟩
  · refine ⟨W3, _, η2, _, _, r3.pop, t3, fun W4 w H4 η4 d3 l4 r4 p4 t4 => ?_⟩
    exact h2' W4 H4 σ τ η4 θ v2 w d2 d3 _ _ r4.pop.pop (pk_dat r4 e2) p4 t4 fun W' v H' x l r' q' => k _ _ _ _ _ ((((l1.trans l2).trans l3).trans l4).trans l) r' q'
  · exact k _ _ _ _ _ ((l1.trans l2).trans l3) (r3.pop.pop.pop.pushD (.bl false)) t3
theorem pd_chain {op op' : CmpOp} (ho : OpD X (compareOp op) fd) (ho' : OpD X (compareOp op') fd') (ha : PD X a ta) (hb : PD X b tb) (hc : PF X c tc)
    (hm : lastMarks [op, op'] [b, c] = false := by with_unfolding_all rfl) : PD X (.Compare a [op, op'] [b, c] pos) (dChain fd fd' ta tb tc) := by
  obtain ⟨r, h1, h2⟩ := ho
  obtain ⟨r', h1', h2'⟩ := ho'
  exact (pe_chain h1 h1' ha hb hc hm).weak fun σ H Q h => chain_core h2 h2' σ H Q h
theorem pb_chain {op op' : CmpOp} (ho : OpD X (compareOp op) fd) (ho' : OpD X (compareOp op') fd') (ha : PD X a ta) (hb : PD X b tb) (hc : PF X c tc)
    (hm : lastMarks [op, op'] [b, c] = false := by with_unfolding_all rfl) : PB X (.Compare a [op, op'] [b, c] pos) (toB (dChain fd fd' ta tb tc)) := by
  obtain ⟨r, h1, h2⟩ := ho
  obtain ⟨r', h1', h2'⟩ := ho'
  exact (pt_chain h1 h1' ha hb hc hm).weak fun σ H Q h => chain_core h2 h2' σ H _ (lB_of σ H Q h)
end
end L2.Gd

set_option Elab.async false
set_option linter.all false
set_option maxRecDepth 100000
set_option maxHeartbeats 1000000
namespace L2.Gd
open PySem PySem.Spec PyProof.Rows L2
variable {X : Cx}

/-! ### +, * -/
def fAdd : F2 := fun a b Q => match a, b with
  | .int i, .int j => Q (.d (.int (i + j)))
  | .list xs, .list ys => Need (xs.length + ys.length ≤ 1000000) ∧ Q (.own (xs ++ ys))
  | .tuple xs, .tuple ys => Need (xs.length + ys.length ≤ 1000000) ∧ Q (.d (.tuple (xs ++ ys)))
  | .str x, .str y => Need (x.length + y.length ≤ 1000000) ∧ Q (.d (.str (x ++ y)))
  | _, _ => False
theorem od_add : OpD X (binaryOp .Add) fAdd := by
  refine ⟨_, OpR.or op_add (OpR.or op_cat (OpR.or op_catA op_add_str)), fun W H σ τ η θ v1 v2 d1 d2 Q Qd r p1 p2 t k => ?_⟩
  unfold fAdd at t
  split at t
  · rw [p1.int, p2.int]
    exact .inl ⟨_, _, rfl, rfl, give r k (.int _) t⟩
  · obtain ⟨a, ys, rfl, e1, e2⟩ := p1.list r.hold
    obtain ⟨b, zs, rfl, e3, e4⟩ := p2.list r.hold
    exact .inr (.inl ⟨_, _, _, _, rfl, rfl, e1, e3, by rw [e2.length, e4.length]; exact line_of t.1.h, giveL r k (e2.append e4) t.2⟩)
  · obtain ⟨a, ys, rfl, e1, f1, e2⟩ := p1.tuple r.hold
    obtain ⟨b, zs, rfl, e3, f3, e4⟩ := p2.tuple r.hold
    refine .inr (.inr (.inl ⟨_, _, _, _, rfl, rfl, SqT.of e1, SqT.of e3, by rw [e2.length, e4.length]; exact line_of t.1.h, fun e => ?_, fun _ e => ?_, fun _ _ => giveT r k (e2.append e4) t.2⟩))
    · subst e
      cases e2
      exact give r k (.tup f3 e4) (by simpa using t.2)
    · subst e
      cases e4
      exact give r k (.tup f1 e2) (by simpa using t.2)
  · rw [p1.str, p2.str]
    exact .inr (.inr (.inr ⟨_, _, rfl, rfl, line_of t.1.h, give r k (.str _) t.2⟩))
  · exact t.elim
theorem DtAll.rep {H : Hp} {vs : List V} {ds : List PyData} (h : DtAll H vs ds) : ∀ k : Nat, DtAll H (List.replicate k vs).flatten (List.replicate k ds).flatten
  | 0 => .nil
  | k + 1 => by
    rw [List.replicate_succ, List.replicate_succ, List.flatten_cons, List.flatten_cons]
    exact h.append (DtAll.rep h k)
def fMul : F2 := fun a b Q => match a, b with
  | .int i, .int j => Need (i.natAbs < 2 ^ 64 ∨ j.natAbs < 2 ^ 64) ∧ Q (.d (.int (i * j)))
  | .list xs, .int j => Need (0 ≤ j ∧ j < 2 ^ 62 ∧ xs.length * j.toNat ≤ 1000000) ∧ Q (.own (List.replicate j.toNat xs).flatten)
  | .tuple xs, .int j => Need (xs ≠ [] ∧ 2 ≤ j ∧ j ≤ 1000 ∧ xs.length ≤ 1000) ∧ Q (.d (.tuple (List.replicate j.toNat xs).flatten))
  | _, _ => False
theorem od_mul : OpD X (binaryOp .Mult) fMul := by
  refine ⟨_, OpR.or op_mul (OpR.or op_rep op_repT), fun W H σ τ η θ v1 v2 d1 d2 Q Qd r p1 p2 t k => ?_⟩
  unfold fMul at t
  split at t
  · rw [p1.int, p2.int]
    refine .inl ⟨_, _, rfl, rfl, ?_, give r k (.int _) t.2⟩
    have := t.1.h
    unfold CMul
    omega
  · obtain ⟨a, ys, rfl, e1, e2⟩ := p1.list r.hold
    rw [p2.int]
    obtain ⟨h1, h2, h3⟩ := t.1.h
    exact .inr (.inl ⟨_, _, _, rfl, rfl, e1, by omega, by omega, by rw [e2.length]; exact line_of h3, giveL r k (e2.rep _) t.2⟩)
  · obtain ⟨a, ys, rfl, e1, f1, e2⟩ := p1.tuple r.hold
    rw [p2.int]
    obtain ⟨h0, h1, h2, h3⟩ := t.1.h
    refine .inr (.inr ⟨_, _, _, rfl, rfl, SqT.of e1, fun e => h0 ?_, h1, h2, by rw [e2.length]; exact h3, giveT r k (e2.rep _) t.2⟩)
    have := e2.length
    rw [e] at this
    exact List.eq_nil_of_length_eq_zero this.symm
  · exact t.elim

/-! ### subscripts -/
theorem DtAll.atI {H : Hp} {vs : List V} {ds : List PyData} {i : Int} {d : PyData} (h : DtAll H vs ds) (e : L2.atI ds i = some d) : ∃ v, L2.atI vs i = some v ∧ Dt H v d := by
  unfold L2.atI at e ⊢
  rw [h.length]
  cases q : ixN ds.length i with
  | none => rw [q] at e; cases e
  | some j =>
    rw [q] at e
    exact h.get e
def fIx : F2 := fun a b Q => match a, b with
  | .list xs, .int i => ∃ y, L2.atI xs i = some y ∧ Q (.d y)
  | .tuple xs, .int i => ∃ y, L2.atI xs i = some y ∧ Q (.d y)
  | _, _ => False
theorem ix_hr (W : Wd) (H : Hp) (σ : L2.St) (τ : List V) (η θ : En) (v1 v2 : V) (d1 d2 : PyData) (Q : VK) (Qd : DV → Prop) (r : R5 W H σ τ η θ) (p1 : Pk W H v1 d1) (p2 : Pk W H v2 d2) (t : fIx d1 d2 Qd)
    (k : ∀ W' v H' x, Le W W' → R5 W' H' σ (τ ++ [v]) η (θ ++ [x]) → Qd x → Q v H') : rIx X.K v1 v2 H Q := by
  unfold fIx at t
  split at t
  · obtain ⟨a, ys, rfl, e1, e2⟩ := p1.list r.hold
    rw [p2.int]
    obtain ⟨y, h1, h2⟩ := t
    obtain ⟨v, h3, h4⟩ := e2.atI h1
    exact .inl ⟨_, _, _, v, rfl, rfl, SqL.of e1, h3, give r k h4 h2⟩
  · obtain ⟨a, ys, rfl, e1, f1, e2⟩ := p1.tuple r.hold
    rw [p2.int]
    obtain ⟨y, h1, h2⟩ := t
    obtain ⟨v, h3, h4⟩ := e2.atI h1
    exact .inr (.inl ⟨_, _, _, v, rfl, rfl, SqT.of e1, h3, give r k h4 h2⟩)
  · exact t.elim
section
variable {a b : Expr} {pos : Pos} {ta : TD} {tb : TF}
theorem pd_ix (ha : PD X a ta) (hb : PF X b tb) (hs : PlainIx b := by intro _ _; rfl) : PD X (.Subscript a b pos) (dOp fIx ta tb) := (pe_ix ix_seq ha hb hs).weak fun σ H Q h => op_core ix_hr σ H Q h
theorem pd_ixN {i : Nat} (ha : PE X a (tVar i)) (hb : PF X b tb) (hs : PlainIx b := by intro _ _; rfl) : PD X (.Subscript a b pos) (dOpN fIx i tb) := (pe_ix ix_seq ha hb hs).weak fun σ H Q h => op_coreN ix_hr σ H Q h
end

/-! ### slices -/
def cut {α : Type} (xs : List α) (lo hi : Option Int) : List α := (xs.drop (HT.sIx xs.length 0 lo)).take (HT.sIx xs.length xs.length hi - HT.sIx xs.length 0 lo)
abbrev TOd := En → (Option Int → En → Prop) → Prop
def lO (t : TOd) : L2.TO := fun σ H Q => ∃ (W : Wd) (τ : List V) (η θ : En) (Qd : Option Int → En → Prop), R5 W H σ τ η θ ∧ t η Qd ∧ ∀ W' o H' η', Le W W' → R5 W' H' σ τ η' θ → Qd o η' → Q o H'
def dNo : TOd := fun η Q => Q none η
def dSome (t : TF) : TOd := fun η Q => t η fun d η1 => match d with
  | .int i => Q (some i) η1
  | _ => False
theorem _root_.L2.PO.weak {X : Cx} {e : Option Expr} {t t' : L2.TO} (h : PO X e t) (w : ∀ σ H Q, t' σ H Q → t σ H Q) : PO X e t' := ⟨fun pins s σ H Q I q => h.run pins s σ H Q I (w σ H Q q)⟩
theorem po_no : PO X none (lO dNo) := po_none.weak fun σ H Q ⟨W, τ, η, θ, Qd, r, t, k⟩ => k _ _ _ _ (Le.refl W) r t
theorem po_of {e : Expr} {t : TF} (h : PF X e t) : PO X (some e) (lO (dSome t)) := (po_some h).weak fun σ H Q ⟨W, τ, η, θ, Qd, r, t, k⟩ => ⟨W, τ, η, θ, _, r, t, fun W1 v H1 η1 d l1 r1 p q => by
  split at q
  · rw [p.int]; exact ⟨_, rfl, k _ _ _ _ l1 r1 q⟩
  · exact q.elim⟩
def fCut (d : PyData) (lo hi : Option Int) (Q : DV → Prop) : Prop := match d with
  | .list xs => Q (.own (cut xs lo hi))
  | .tuple xs => Q (.d (.tuple (cut xs lo hi)))
  | _ => False
theorem cut_all {H : Hp} {vs : List V} {ds : List PyData} (h : DtAll H vs ds) (lo hi : Option Int) : DtAll H (cutV vs lo hi) (cut ds lo hi) := by
  unfold cutV cut
  rw [h.length]
  exact (h.drop _).take _
theorem cut_whole {α : Type} {xs : List α} {lo hi : Option Int} (h : HT.sIx xs.length 0 lo = 0 ∧ HT.sIx xs.length xs.length hi = xs.length) : cut xs lo hi = xs := by
  unfold cut; rw [h.1, h.2]; simp
theorem cut_hr (W : Wd) (H : Hp) (σ : L2.St) (τ : List V) (η θ : En) (v : V) (d : PyData) (lo hi : Option Int) (Q : VK) (Qd : DV → Prop) (r : R5 W H σ τ η θ) (p1 : Pk W H v d) (t : fCut d lo hi Qd)
    (k : ∀ W' v H' x, Le W W' → R5 W' H' σ (τ ++ [v]) η (θ ++ [x]) → Qd x → Q v H') : rSlL X.K v lo hi H Q ∨ rSlA X.K v lo hi H Q := by
  unfold fCut at t
  split at t
  · obtain ⟨a, ys, rfl, e1, e2⟩ := p1.list r.hold
    exact .inl ⟨_, _, rfl, SqL.of e1, giveL r k (cut_all e2 lo hi) t⟩
  · obtain ⟨a, ys, rfl, e1, f1, e2⟩ := p1.tuple r.hold
    refine .inr ⟨_, _, rfl, SqT.of e1, fun h => ?_, fun _ => giveT r k (cut_all e2 lo hi) t⟩
    rw [e2.length] at h
    rw [cut_whole h] at t
    exact give r k (.tup f1 e2) t
  · exact t.elim
section
variable {a : Expr} {lo hi : Option Expr} {p2 pos : Pos} {ta : TD} {tl th : TOd}
def dCut (ta : TD) (tl th : TOd) : TD := fun η Q => ta η fun x η1 => tl η1 fun l η2 => th η2 fun u η3 => toD x fun d => fCut d l u fun y => Q y η3
def dCutN (i : Nat) (tl th : TOd) : TD := fun η Q => there (nth η i) <| tl η fun l η2 => th η2 fun u η3 => toD (nth η3 i) fun d => fCut d l u fun y => Q y η3
theorem pd_cut (ha : PD X a ta) (hl : PO X lo (lO tl)) (hh : PO X hi (lO th)) : PD X (.Subscript a (.Slice lo hi none p2) pos) (dCut ta tl th) :=
  (pe_slice (SlR.or sl_list sl_tupA) ha hl hh).weak fun σ H Q ⟨W, τ, η, θ, Qd, r, t, k⟩ => by
    refine ⟨W, τ, η, θ, _, r, t, fun W1 v1 H1 η1 x l1 r1 t1 => ⟨W1, _, η1, _, _, r1, t1, fun W2 l H2 η2 l2 r2 t2 => ⟨W2, _, η2, _, _, r2, t2, fun W3 u H3 η3 l3 r3 t3 => ?_⟩⟩⟩
    obtain ⟨d, p, t3⟩ := toD_top r3 t3
    exact cut_hr W3 H3 σ τ η3 θ v1 d l u Q _ r3.pop p t3 fun W' v H' x l' r' q' => k _ _ _ _ _ (((l1.trans l2).trans l3).trans l') r' q'
theorem pd_cutN {i : Nat} (ha : PE X a (tVar i)) (hl : PO X lo (lO tl)) (hh : PO X hi (lO th)) : PD X (.Subscript a (.Slice lo hi none p2) pos) (dCutN i tl th) :=
  (pe_slice (SlR.or sl_list sl_tupA) ha hl hh).weak fun σ H Q ⟨W, τ, η, θ, Qd, r, t, k⟩ => by
    obtain ⟨⟨v, hv⟩, t⟩ := there_ex r t
    refine ⟨v, hv, W, τ, η, θ, _, r, t, fun W2 l H2 η2 l2 r2 t2 => ⟨W2, _, η2, _, _, r2, t2, fun W3 u H3 η3 l3 r3 t3 => ?_⟩⟩
    obtain ⟨v', d, hv', p, t3⟩ := peek_at r3 t3
    rw [hv] at hv'; cases hv'
    exact cut_hr W3 H3 σ τ η3 θ v d l u Q _ r3 p t3 fun W' v H' x l' r' q' => k _ _ _ _ _ ((l2.trans l3).trans l') r' q'
end

/-! ### built-ins of one argument, of two -/
abbrev F1 := PyData → (DV → Prop) → Prop
def CallD1 (X : Cx) (f : Value) (fd : F1) : Prop := ∃ r, CallR X f r ∧
  ∀ (W : Wd) (H : Hp) (σ : L2.St) (τ : List V) (η θ : En) (v : V) (d : PyData) (Q : VK) (Qd : DV → Prop), R5 W H σ τ η θ → Pk W H v d → fd d Qd → (∀ W' v H' x, Le W W' → R5 W' H' σ (τ ++ [v]) η (θ ++ [x]) → Qd x → Q v H') → r [v] H Q
def CallD2 (X : Cx) (f : Value) (fd : F2) : Prop := ∃ r, CallR X f r ∧
  ∀ (W : Wd) (H : Hp) (σ : L2.St) (τ : List V) (η θ : En) (v1 v2 : V) (d1 d2 : PyData) (Q : VK) (Qd : DV → Prop), R5 W H σ τ η θ → Pk W H v1 d1 → Pk W H v2 d2 → fd d1 d2 Qd →
    (∀ W' v H' x, Le W W' → R5 W' H' σ (τ ++ [v]) η (θ ++ [x]) → Qd x → Q v H') → r [v1, v2] H Q
def dB1 (fd : F1) (ta : TF) : TD := fun η Q => ta η fun d η1 => fd d fun y => Q y η1
section
variable {x : Str} {p pos : Pos} {a b : Expr} {ta : TF} {tb : TD} {fd : F1} {fd2 : F2} {id T : String}
theorem b1_core {r : List V → Hp → VK → Prop} (hr : ∀ (W : Wd) (H : Hp) (σ : L2.St) (τ : List V) (η θ : En) (v : V) (d : PyData) (Q : VK) (Qd : DV → Prop), R5 W H σ τ η θ → Pk W H v d → fd d Qd → (∀ W' v H' x, Le W W' → R5 W' H' σ (τ ++ [v]) η (θ ++ [x]) → Qd x → Q v H') → r [v] H Q)
    (σ : L2.St) (H : Hp) (Q : VK) (h : lE (dB1 fd ta) σ H Q) : tCB r (tCons (lF ta) tNil) σ H Q := by
  obtain ⟨W, τ, η, θ, Qd, r5, t, k⟩ := h
  exact ⟨W, τ, η, θ, _, r5, t, fun W1 v H1 η1 d l1 r1 p q => hr W1 H1 σ τ η1 θ v d _ _ r1 p q fun W' v H' x l r' q' => k _ _ _ _ _ (l1.trans l) r' q'⟩
theorem b2_core {r : List V → Hp → VK → Prop} (hr : ∀ (W : Wd) (H : Hp) (σ : L2.St) (τ : List V) (η θ : En) (v1 v2 : V) (d1 d2 : PyData) (Q : VK) (Qd : DV → Prop), R5 W H σ τ η θ → Pk W H v1 d1 → Pk W H v2 d2 → fd2 d1 d2 Qd →
    (∀ W' v H' x, Le W W' → R5 W' H' σ (τ ++ [v]) η (θ ++ [x]) → Qd x → Q v H') → r [v1, v2] H Q) (σ : L2.St) (H : Hp) (Q : VK) (h : lE (dOp fd2 tb ta) σ H Q) : tCB r (tCons (lE tb) (tCons (lF ta) tNil)) σ H Q :=
  op_core (r := fun x y H Q => r [x, y] H Q) hr σ H Q h
theorem pd_b1 (hc : CallD1 X (.builtin id) fd) (ha : PF X a ta) (hg : Gl X x) (hm : X.mg x = none) (hv : bootBuiltins x = some (.builtin id)) (hn : x ≠ "__name__" := by decide) (hdb : (x == ("__debug__" : Str)) = false := by decide)
    (hs : starEach [a] X.env = (false, eval a X.env) :: starEach [] X.env := by rfl) : PD X (.Call (.Name x p) [a] [] pos) (dB1 fd ta) := by
  obtain ⟨r, h1, h2⟩ := hc
  exact (pe_callB h1 hg hm hv (pa_cons ha pa_nil hs) hn hdb hs).weak fun σ H Q h => b1_core h2 σ H Q h
theorem pd_ty1 (hc : CallD1 X (.type T) fd) (ha : PF X a ta) (hg : Gl X x) (hm : X.mg x = none) (hv : bootBuiltins x = some (.type T)) (hn : x ≠ "__name__" := by decide) (hdb : (x == ("__debug__" : Str)) = false := by decide)
    (hs : starEach [a] X.env = (false, eval a X.env) :: starEach [] X.env := by rfl) : PD X (.Call (.Name x p) [a] [] pos) (dB1 fd ta) := by
  obtain ⟨r, h1, h2⟩ := hc
  exact (pe_callTy h1 hg hm hv (pa_cons ha pa_nil hs) hn hdb hs).weak fun σ H Q h => b1_core h2 σ H Q h
theorem pd_b2 (hc : CallD2 X (.builtin id) fd2) (hb : PD X b tb) (ha : PF X a ta) (hg : Gl X x) (hm : X.mg x = none) (hv : bootBuiltins x = some (.builtin id)) (hn : x ≠ "__name__" := by decide) (hdb : (x == ("__debug__" : Str)) = false := by decide)
    (hs : starEach [b, a] X.env = (false, eval b X.env) :: starEach [a] X.env := by rfl) (hs2 : starEach [a] X.env = (false, eval a X.env) :: starEach [] X.env := by rfl) (hpl : (backTo pos (starEach [a] X.env)).any (·.1) = false := by rfl) :
    PD X (.Call (.Name x p) [b, a] [] pos) (dOp fd2 tb ta) := by
  obtain ⟨r, h1, h2⟩ := hc
  exact (pe_callB h1 hg hm hv (pa_cons hb (pa_cons ha pa_nil hs2) hs) hn hdb hs hpl).weak fun σ H Q h => b2_core h2 σ H Q h
end
def fLen : F1 := fun d Q => match d with
  | .list xs => Q (.d (.int xs.length))
  | .tuple xs => Q (.d (.int xs.length))
  | .str x => Need (x.length ≤ 1000000) ∧ Q (.d (.int x.length))
  | _ => False
theorem cd_len : CallD1 X (.builtin "len") fLen := by
  refine ⟨_, call_len, fun W H σ τ η θ v d Q Qd r p t k => ?_⟩
  unfold fLen at t
  split at t
  · obtain ⟨a, ys, rfl, e1, e2⟩ := p.list r.hold
    refine ⟨_, _, rfl, .inl ⟨_, SqL.of e1, e2.length.symm⟩, give r k (.int _) t⟩
  · obtain ⟨a, ys, rfl, e1, f1, e2⟩ := p.tuple r.hold
    refine ⟨_, _, rfl, .inr ⟨_, SqT.of e1, e2.length.symm⟩, give r k (.int _) t⟩
  · rw [p.str]
    exact ⟨_, _, rfl, ⟨line_of t.1.h, rfl⟩, give r k (.int _) t.2⟩
  · exact t.elim
def fAbs : F1 := fun d Q => match d with
  | .int i => Q (.d (.int (if i < 0 then -i else i)))
  | _ => False
theorem cd_abs : CallD1 X (.builtin "abs") fAbs := by
  refine ⟨_, call_abs, fun W H σ τ η θ v d Q Qd r p t k => ?_⟩
  unfold fAbs at t
  split at t
  · rw [p.int]; exact ⟨_, rfl, give r k (.int _) t⟩
  · exact t.elim
def fInt : F1 := fun d Q => match d with
  | .int i => Q (.d (.int i))
  | .bool b => Q (.d (.int (if b then 1 else 0)))
  | _ => False
theorem cd_int : CallD1 X (.type "int") fInt := by
  refine ⟨_, call_int1, fun W H σ τ η θ v d Q Qd r p t k => ?_⟩
  unfold fInt at t
  split at t
  · rw [p.int]; exact .inl ⟨_, rfl, give r k (.int _) t⟩
  · rw [p.bool]; exact .inr ⟨_, rfl, give r k (.int _) t⟩
  · exact t.elim
def fListOf : F1 := fun d Q => match d with
  | .list xs => Q (.own xs)
  | .tuple xs => Q (.own xs)
  | _ => False
theorem cd_list : CallD1 X (.type "list") fListOf := by
  refine ⟨_, call_list_of, fun W H σ τ η θ v d Q Qd r p t k => ?_⟩
  unfold fListOf at t
  split at t
  · obtain ⟨a, ys, rfl, e1, e2⟩ := p.list r.hold
    exact ⟨_, _, rfl, .inl (SqL.of e1), giveL r k e2 t⟩
  · obtain ⟨a, ys, rfl, e1, f1, e2⟩ := p.tuple r.hold
    exact ⟨_, _, rfl, .inr (SqT.of e1), giveL r k e2 t⟩
  · exact t.elim
def fTupOf : F1 := fun d Q => match d with
  | .list xs => Q (.d (.tuple xs))
  | .tuple xs => Q (.d (.tuple xs))
  | _ => False
theorem cd_tuple : CallD1 X (.type "tuple") fTupOf := by
  refine ⟨_, call_tuple_of, fun W H σ τ η θ v d Q Qd r p t k => ?_⟩
  unfold fTupOf at t
  split at t
  · obtain ⟨a, ys, rfl, e1, e2⟩ := p.list r.hold
    exact ⟨_, _, rfl, .inl ⟨SqL.of e1, giveT r k e2 t⟩⟩
  · obtain ⟨a, ys, rfl, e1, f1, e2⟩ := p.tuple r.hold
    exact ⟨_, _, rfl, .inr ⟨SqT.of e1, give r k (.tup f1 e2) t⟩⟩
  · exact t.elim
def fMax : F2 := fI0 fun i j => .int (if j > i then j else i)
def fMin : F2 := fI0 fun i j => .int (if j < i then j else i)
theorem cd_I0 {f : Value} {g : Int → Int → V} {gd : Int → Int → PyData} (h : CallR X f fun xs H Q => ∃ i j, xs = [.int i, .int j] ∧ Q (g i j) H) (hg : ∀ i j H, Dt H (g i j) (gd i j)) : CallD2 X f (fI0 gd) := by
  refine ⟨_, h, fun W H σ τ η θ v1 v2 d1 d2 Q Qd r p1 p2 t k => ?_⟩
  unfold fI0 at t
  split at t
  · rw [p1.int, p2.int]; exact ⟨_, _, rfl, give r k (hg _ _ _) t⟩
  · exact t.elim
theorem cd_max (hc : X.calm = true) : CallD2 X (.builtin "max") fMax := cd_I0 (call_max2 hc) fun _ _ _ => .int _
theorem cd_min (hc : X.calm = true) : CallD2 X (.builtin "min") fMin := cd_I0 (call_min2 hc) fun _ _ _ => .int _
/-- all of them truth values -/
def allB : List PyData → (List Bool → Prop) → Prop
  | [], k => k []
  | .bool b :: r, k => allB r fun bs => k (b :: bs)
  | _ :: _, _ => False
theorem allB_ex : ∀ {ds : List PyData} {k : List Bool → Prop}, allB ds k → ∃ bs, ds = bs.map PyData.bool ∧ k bs
  | [], k, h => ⟨[], rfl, h⟩
  | .bool b :: r, k, h => by
    obtain ⟨bs, e, h⟩ := allB_ex (ds := r) h
    exact ⟨b :: bs, by simp [e], h⟩
  | .none :: _, _, h => h.elim
  | .int _ :: _, _, h => h.elim
  | .str _ :: _, _, h => h.elim
  | .list _ :: _, _, h => h.elim
  | .tuple _ :: _, _, h => h.elim
  | .dict _ :: _, _, h => h.elim
theorem DtAll.bools {H : Hp} : ∀ {bs : List Bool} {vs : List V}, DtAll H vs (bs.map PyData.bool) → vs = bs.map V.bl
  | [], _, h => by cases h; rfl
  | b :: bs, _, h => by
    cases h with
    | cons h t => cases h; rw [DtAll.bools t]; rfl
def fAll : F1 := fun d Q => match d with
  | .list xs => ∃ bs : List Bool, xs = bs.map PyData.bool ∧ Q (.d (.bool (bs.all id)))
  | _ => False
def fAny : F1 := fun d Q => match d with
  | .list xs => ∃ bs : List Bool, xs = bs.map PyData.bool ∧ Q (.d (.bool (bs.any id)))
  | _ => False
theorem cd_all (hc : X.calm = true) : CallD1 X (.builtin "all") fAll := by
  refine ⟨_, cr_all hc, fun W H σ τ η θ v d Q Qd r p t k => ?_⟩
  unfold fAll at t
  split at t
  · obtain ⟨a, ys, rfl, e1, e2⟩ := p.list r.hold
    obtain ⟨bs, rfl, t⟩ := t
    rw [e2.bools] at e1
    exact ⟨_, _, rfl, SqL.of e1, give r k (.bl _) t⟩
  · exact t.elim
theorem cd_any (hc : X.calm = true) : CallD1 X (.builtin "any") fAny := by
  refine ⟨_, cr_any hc, fun W H σ τ η θ v d Q Qd r p t k => ?_⟩
  unfold fAny at t
  split at t
  · obtain ⟨a, ys, rfl, e1, e2⟩ := p.list r.hold
    obtain ⟨bs, rfl, t⟩ := t
    rw [e2.bools] at e1
    exact ⟨_, _, rfl, SqL.of e1, give r k (.bl _) t⟩
  · exact t.elim
def fSum : F1 := fun d Q => match d with
  | .list xs => ∃ ns : List Int, xs = ns.map PyData.int ∧ Q (.d (.int ns.sum))
  | _ => False
theorem cd_sum (hc : X.calm = true) : CallD1 X (.builtin "sum") fSum := by
  refine ⟨_, cr_sum hc, fun W H σ τ η θ v d Q Qd r p t k => ?_⟩
  unfold fSum at t
  split at t
  · obtain ⟨a, ys, rfl, e1, e2⟩ := p.list r.hold
    obtain ⟨ns, rfl, t⟩ := t
    rw [DtAll.of_ints e2] at e1
    exact ⟨_, _, rfl, SqL.of e1, give r k (.int _) t⟩
  · exact t.elim
def fMaxL : F1 := fun d Q => match d with
  | .list xs => ∃ ns : List Int, xs = ns.map PyData.int ∧ Need (0 < ns.length) ∧ ∀ m, m ∈ ns → (∀ y, y ∈ ns → y ≤ m) → Q (.d (.int m))
  | _ => False
def fMinL : F1 := fun d Q => match d with
  | .list xs => ∃ ns : List Int, xs = ns.map PyData.int ∧ Need (0 < ns.length) ∧ ∀ m, m ∈ ns → (∀ y, y ∈ ns → m ≤ y) → Q (.d (.int m))
  | _ => False
theorem cd_maxL (hc : X.calm = true) : CallD1 X (.builtin "max") fMaxL := by
  refine ⟨_, cr_max hc, fun W H σ τ η θ v d Q Qd r p t k => ?_⟩
  unfold fMaxL at t
  split at t
  · obtain ⟨a, ys, rfl, e1, e2⟩ := p.list r.hold
    obtain ⟨ns, rfl, h0, t⟩ := t
    rw [DtAll.of_ints e2] at e1
    exact ⟨_, _, rfl, SqL.of e1, h0.h, fun m h1 h2 => give r k (.int _) (t m h1 h2)⟩
  · exact t.elim
theorem cd_minL (hc : X.calm = true) : CallD1 X (.builtin "min") fMinL := by
  refine ⟨_, cr_min hc, fun W H σ τ η θ v d Q Qd r p t k => ?_⟩
  unfold fMinL at t
  split at t
  · obtain ⟨a, ys, rfl, e1, e2⟩ := p.list r.hold
    obtain ⟨ns, rfl, h0, t⟩ := t
    rw [DtAll.of_ints e2] at e1
    exact ⟨_, _, rfl, SqL.of e1, h0.h, fun m h1 h2 => give r k (.int _) (t m h1 h2)⟩
  · exact t.elim
/-- list(reversed(x)) -/
def fRev : F1 := fun d Q => match d with
  | .list xs => Q (.own xs.reverse)
  | _ => False
theorem pd_lstRev {e : Expr} {te : TF} {p p2 pos pos2 : Pos} (hc : X.calm = true) (hg : Gl X "list") (hm : X.mg "list" = none) (hg2 : Gl X "reversed") (hm2 : X.mg "reversed" = none) (he : PF X e te)
    (hs : starEach [e] X.env = (false, eval e X.env) :: starEach [] X.env := by rfl)
    (hs2 : starEach [.Call (.Name "reversed" p2) [e] [] pos2] X.env = (false, eval (.Call (.Name "reversed" p2) [e] [] pos2) X.env) :: starEach [] X.env := by rfl) :
    PD X (.Call (.Name "list" p) [.Call (.Name "reversed" p2) [e] [] pos2] [] pos) (dB1 fRev te) :=
  (pe_lstRev hc hg hm hg2 hm2 he hs hs2).weak fun σ H Q ⟨W, τ, η, θ, Qd, r5, t, k⟩ => ⟨W, τ, η, θ, _, r5, t, fun W1 v H1 η1 d l1 r1 p q => by
    unfold fRev at q
    split at q
    · obtain ⟨a, ys, rfl, e1, e2⟩ := p.list r1.hold
      exact ⟨_, _, rfl, SqL.of e1, giveL r1 (fun W' v H' x l => k _ _ _ _ _ (l1.trans l)) e2.reverse q⟩
    · exact q.elim⟩
end L2.Gd

set_option Elab.async false
set_option linter.all false
set_option maxRecDepth 100000
set_option maxHeartbeats 1000000
namespace L2.Gd
open PySem PySem.Spec PyProof.Rows L2
variable {X : Cx}

/-! ### what is walked -/
/-- J gives the items, in any world behind W0 -/
structure SrcOk (J : It) (W0 : Wd) (items : List PyData) : Prop where
  stop : ∀ W σ τ η θ H, Le W0 W → R5 W H σ τ η θ → J.stop items.length H
  go : ∀ i d W σ τ η θ H, Le W0 W → R5 W H σ τ η θ → items[i]? = some d → J.go i H
  yld : ∀ i d W σ τ η θ H x H', Le W0 W → R5 W H σ τ η θ → items[i]? = some d → J.yld i H x H' → ∃ W', Le W W' ∧ R5 W' H' σ τ η θ ∧ Dt (fx W') x d
abbrev TId := En → (List PyData → En → Prop) → Prop
def lI (t : TId) : TI := fun σ H R => ∃ (W : Wd) (τ : List V) (η θ : En) (Qd : List PyData → En → Prop), R5 W H σ τ η θ ∧ t η Qd ∧ ∀ W' H' η' items J, Le W W' → R5 W' H' σ τ η' θ → SrcOk J W' items → Qd items η' → R J H'
abbrev ID (X : Cx) (tg e : Expr) (t : TId) : Prop := PI X tg e (lI t)
theorem _root_.L2.PI.weak {X : Cx} {tg e : Expr} {t t' : TI} (h : PI X tg e t) (w : ∀ σ H Q, t' σ H Q → t σ H Q) : PI X tg e t' := ⟨fun pins s σ H Q I q => h.run pins s σ H Q I (w σ H Q q)⟩
theorem src_of {J : It} {n : Nat} {G : Hp → Prop} {Y : Nat → Hp → V → Hp → Prop} {W0 : Wd} {items : List PyData} (w : Walk J n G Y) (hn : items.length = n) (hG : ∀ W H, Le W0 W → Hold W H → G H)
    (hy : ∀ i d W σ τ η θ H x H', Le W0 W → R5 W H σ τ η θ → items[i]? = some d → Y i H x H' → ∃ W', Le W W' ∧ R5 W' H' σ τ η θ ∧ Dt (fx W') x d) : SrcOk J W0 items := by
  subst hn
  refine ⟨fun W σ τ η θ H l r => w.stops H (hG W H l r.hold), fun i d W σ τ η θ H l r e => w.goes i H (List.getElem?_eq_some_iff.mp e).1 (hG W H l r.hold), fun i d W σ τ η θ H x H' l r e y => ?_⟩
  exact hy i d W σ τ η θ H x H' l r e (w.yields i H x H' (List.getElem?_eq_some_iff.mp e).1 (hG W H l r.hold) y)
/-- the items of a sequence -/
def seqOf : DV → (List PyData → Prop) → Prop
  | .d (.list xs), k => k xs
  | .d (.tuple xs), k => k xs
  | .own xs, k => k xs
  | _, _ => False
/-- where the items of a frozen list or tuple stand -/
inductive SeqAt (W : Wd) : V → List PyData → Prop
  | lst {a : Addr} {ys : List V} {xs : List PyData} : fx W a = some (.lst ys) → DtAll (fx W) ys xs → SeqAt W (.ref a) xs
  | tup {a : Addr} {ys : List V} {xs : List PyData} : fx W a = some (.tup ys) → DtAll (fx W) ys xs → SeqAt W (.ref a) xs
theorem seq_top {W : Wd} {H : Hp} {σ : L2.St} {τ : List V} {η θ : En} {v : V} {x : DV} {k : List PyData → Prop} (r : R5 W H σ (τ ++ [v]) η (θ ++ [x])) (h : seqOf x k) : ∃ W' xs, Le W W' ∧ R5 W' H σ τ η θ ∧ SeqAt W' v xs ∧ k xs := by
  unfold seqOf at h
  split at h
  · cases r.topD with
    | lst e a => exact ⟨W, _, Le.refl W, r.pop, .lst e a, h⟩
  · cases r.topD with
    | tup e a => exact ⟨W, _, Le.refl W, r.pop, .tup e a, h⟩
  · obtain ⟨W', l, r'⟩ := r.freezeT
    cases r'.topD with
    | lst e a => exact ⟨W', _, l, r'.pop, .lst e a, h⟩
  · exact h.elim
theorem SeqAt.mono {W W' : Wd} {v : V} {xs : List PyData} (l : Le W W') : SeqAt W v xs → SeqAt W' v xs
  | .lst e a => .lst (l.fx _ _ e) (DtAll.mono l.fx a)
  | .tup e a => .tup (l.fx _ _ e) (DtAll.mono l.fx a)
theorem src_list {W0 : Wd} {K : PySem.W.Frag} {a : Addr} {ys : List V} {xs : List PyData} (e : fx W0 a = some (.lst ys)) (h : DtAll (fx W0) ys xs) : SrcOk (Itl K a) W0 xs :=
  src_of (walk_list (xs := ys)) h.length.symm (fun W H l hh => SqL.of (hh.same _ _ (l.fx _ _ e))) fun i d W σ τ η θ H x H' l r e1 y => by
    obtain ⟨rfl, y⟩ := y
    obtain ⟨d', q1, q2⟩ := h.get' y
    rw [e1] at q1; cases q1
    exact ⟨W, Le.refl W, r, Dt.mono l.fx q2⟩
theorem src_tup {W0 : Wd} {K : PySem.W.Frag} {a : Addr} {ys : List V} {xs : List PyData} (e : fx W0 a = some (.tup ys)) (h : DtAll (fx W0) ys xs) : SrcOk (Itt K a) W0 xs :=
  src_of (walk_tup (xs := ys)) h.length.symm (fun W H l hh => SqT.of (hh.same _ _ (l.fx _ _ e))) fun i d W σ τ η θ H x H' l r e1 y => by
    obtain ⟨rfl, y⟩ := y
    obtain ⟨d', q1, q2⟩ := h.get' y
    rw [e1] at q1; cases q1
    exact ⟨W, Le.refl W, r, Dt.mono l.fx q2⟩
section
variable {tg e : Expr} {te : TD} {p pos : Pos}
def iSeq (K : PySem.W.Frag) (tl : TE) : TI := fun σ H R => tl σ H fun x H1 => ∃ a, x = .ref a ∧ (((∃ xs, SqL K H1 a xs) ∧ R (Itl K a) H1) ∨ ((∃ xs, SqT K H1 a xs) ∧ R (Itt K a) H1))
theorem pi_seq {tl : TE} (hl : PE X e tl) : PI X tg e (iSeq X.K tl) := by
  refine ⟨fun pins s σ H R I h => ?_⟩
  refine thn (hl.run pins s σ H _ I h) fun v s1 ⟨x, H1, I1, r1, q1⟩ => ?_
  obtain ⟨a, e, q⟩ := q1
  subst e
  cases r1
  have done : ∀ {it : Addr} (h : s1.heap.objs.size = it) (b : Addr), b ∈ [it] → FpOk X pins H1 b := fun {it} h b hb => by
    have e : b = it := by simpa using hb
    subst e
    exact I1.fpOk (Nat.le_of_eq h) (I1.hok.fresh (Nat.le_of_eq h))
  rcases q with ⟨⟨xs, hq⟩, q⟩ | ⟨⟨xs, hq⟩, q⟩
  · obtain ⟨its, rv, p, hz⟩ := I1.list hq
    exact wpAny_pyIter_list p.isList ⟨s1.heap.objs.size, [s1.heap.objs.size], _, _, H1, rfl, I1.kept (t' := s1.toks) fun b o e => Heap.get?_push_of_some _ e, turn_list a _, ⟨_, Heap.get?_push_size _ rfl, rfl, rfl⟩, done rfl, q⟩
  · obtain ⟨its, rv, p, hz⟩ := I1.tuple hq
    exact wpAny_pyIter_tuple (show s1.heap.IsTuple a its.toArray from p) ⟨s1.heap.objs.size, [s1.heap.objs.size], _, _, H1, rfl, I1.kept (t' := s1.toks) fun b o e => Heap.get?_push_of_some _ e, turn_tuple a _, ⟨_, Heap.get?_push_size _ rfl, rfl, rfl⟩, done rfl, q⟩
def dIn (te : TD) : TId := fun η Q => te η fun x η1 => seqOf x fun xs => Q xs η1
theorem id_seq (he : PD X e te) : ID X tg e (dIn te) := (pi_seq he).weak fun σ H Q ⟨W, τ, η, θ, Qd, r, t, k⟩ => ⟨W, τ, η, θ, _, r, t, fun W1 v H1 η1 x l1 r1 q => by
  obtain ⟨W2, xs, l2, r2, s, q⟩ := seq_top r1 q
  cases s with
  | lst e a => exact ⟨_, rfl, .inl ⟨⟨_, SqL.of (r2.hold.same _ _ e)⟩, k _ _ _ _ _ (l1.trans l2) r2 (src_list e a) q⟩⟩
  | tup e a => exact ⟨_, rfl, .inr ⟨⟨_, SqT.of (r2.hold.same _ _ e)⟩, k _ _ _ _ _ (l1.trans l2) r2 (src_tup e a) q⟩⟩⟩
/-- lo, lo + 1, .. -/
def rng (lo : Int) (n : Nat) : List PyData := (List.range n).map fun (k : Nat) => .int (lo + k)
theorem rng_get {lo : Int} {n i : Nat} {d : PyData} (h : (rng lo n)[i]? = some d) : d = .int (lo + i) := by
  unfold rng at h
  rw [List.getElem?_map] at h
  have hi : i < n := by
    cases q : (List.range n)[i]? with
    | none => rw [q] at h; cases h
    | some z => simpa using (List.getElem?_eq_some_iff.mp q).1
  rw [List.getElem?_range hi] at h
  cases h
  rfl
theorem src_rng {W0 : Wd} {lo : Int} {n : Nat} : SrcOk (Itr lo n) W0 (rng lo n) :=
  src_of walk_range (by simp [rng]) (fun _ _ _ _ => trivial) fun i d W σ τ η θ H x H' l r e1 y => by
    obtain ⟨rfl, rfl⟩ := y
    rw [rng_get e1]
    exact ⟨W, Le.refl W, r, .int _⟩
def dRange1 (ta : TF) : TId := fun η Q => ta η fun d η1 => match d with
  | .int j => Need (-(2 ^ 62) ≤ j ∧ j < 2 ^ 62) ∧ Q (rng 0 j.toNat) η1
  | _ => False
def dRange2 (ta : TD) (tb : TF) : TId := fun η Q => ta η fun x η1 => tb η1 fun d η2 => toD x fun c => match c, d with
  | .int i, .int j => Need (-(2 ^ 62) ≤ i ∧ i < 2 ^ 62 ∧ -(2 ^ 62) ≤ j ∧ j < 2 ^ 62) ∧ Q (rng i (j - i).toNat) η2
  | _, _ => False
theorem id_range1 {a : Expr} {ta : TF} (hg : Gl X "range") (hm : X.mg "range" = none) (ha : PF X a ta) (hs : starEach [a] X.env = [(false, eval a X.env)] := by rfl) : ID X tg (.Call (.Name "range" p) [a] [] pos) (dRange1 ta) :=
  (pi_range1 hg hm (pa_cons ha pa_nil hs) hs).weak fun σ H Q ⟨W, τ, η, θ, Qd, r, t, k⟩ => ⟨W, τ, η, θ, _, r, t, fun W1 v H1 η1 d l1 r1 p q => by
    split at q
    · rw [p.int]
      exact ⟨_, rfl, q.1.h.1, q.1.h.2, k _ _ _ _ _ l1 r1 src_rng q.2⟩
    · exact q.elim⟩
theorem id_range2 {a b : Expr} {ta : TD} {tb : TF} (hg : Gl X "range") (hm : X.mg "range" = none) (ha : PD X a ta) (hb : PF X b tb) (hs : starEach [a, b] X.env = (false, eval a X.env) :: starEach [b] X.env := by rfl) (hs2 : starEach [b] X.env = [(false, eval b X.env)] := by rfl) :
    ID X tg (.Call (.Name "range" p) [a, b] [] pos) (dRange2 ta tb) :=
  (pi_range2 hg hm (pa_cons ha (pa_cons hb pa_nil hs2) hs) (hs.trans (by rw [hs2])) hs2).weak fun σ H Q ⟨W, τ, η, θ, Qd, r, t, k⟩ => ⟨W, τ, η, θ, _, r, t, fun W1 v1 H1 η1 x l1 r1 t1 => ⟨W1, _, η1, _, _, r1, t1, fun W2 v2 H2 η2 d l2 r2 p2 q => by
    obtain ⟨c, p1, q⟩ := toD_top r2 q
    split at q
    · rw [p1.int, p2.int]
      exact ⟨_, _, rfl, q.1.h, k _ _ _ _ _ (l1.trans l2) r2.pop src_rng q.2⟩
    · exact q.elim⟩⟩
/-- with their places -/
def enumD : Nat → List PyData → List PyData
  | _, [] => []
  | k, x :: xs => .tuple [.int (k : Nat), x] :: enumD (k + 1) xs
theorem enumD_get : ∀ {xs : List PyData} {k i : Nat} {d : PyData}, (enumD k xs)[i]? = some d → ∃ x, xs[i]? = some x ∧ d = .tuple [.int ((k + i : Nat) : Int), x]
  | [], k, i, d, h => by simp [enumD] at h
  | x :: xs, k, 0, d, h => by simp [enumD] at h; exact ⟨x, rfl, by simpa using h.symm⟩
  | x :: xs, k, i + 1, d, h => by
    obtain ⟨y, h1, h2⟩ := enumD_get (xs := xs) (k := k + 1) (i := i) (by simpa [enumD] using h)
    refine ⟨y, by simpa using h1, ?_⟩
    rw [h2]
    have : k + 1 + i = k + (i + 1) := by omega
    rw [this]
theorem enumD_length : ∀ (xs : List PyData) (k : Nat), (enumD k xs).length = xs.length
  | [], _ => rfl
  | x :: xs, k => by simp [enumD, enumD_length xs]
theorem walk_enumT {K : PySem.W.Frag} {a : Addr} {xs : List V} : Walk (IteT K a) xs.length (fun H => SqT K H a xs) (YPair (fun i => some (.int (i : Nat))) (fun i => xs[i]?)) := by
  refine ⟨fun i _ hi q => ⟨xs, xs[i], q, by simp [hi]⟩, fun _ q => ⟨xs, q, Nat.le_refl _⟩, fun i H v H' _ q y => ?_⟩
  obtain ⟨T, x, h1, h2, h3, h4⟩ := y
  exact ⟨T, .int (i : Nat), x, h1, h2, h3, rfl, h4 xs q⟩
theorem pair_yld {W : Wd} {H H' : Hp} {σ : L2.St} {τ : List V} {η θ : En} {f g : Nat → Option V} {i : Nat} {x : V} {d e : PyData} (r : R5 W H σ τ η θ) (y : YPair f g i H x H') (h1 : ∀ u, f i = some u → Dt (fx W) u d) (h2 : ∀ u, g i = some u → Dt (fx W) u e) :
    ∃ W', Le W W' ∧ R5 W' H' σ τ η θ ∧ Dt (fx W') x (.tuple [d, e]) := by
  obtain ⟨T, u, w, rfl, n, rfl, e1, e2⟩ := y
  have l := Le.wput (o := .tup [u, w]) (r.hold.free n)
  exact ⟨_, l, r.fix n, .tup (fx_of wput_same) (.cons (Dt.mono l.fx (h1 u e1)) (.cons (Dt.mono l.fx (h2 w e2)) .nil))⟩
theorem src_enumL {W0 : Wd} {K : PySem.W.Frag} {a : Addr} {ys : List V} {xs : List PyData} (e : fx W0 a = some (.lst ys)) (h : DtAll (fx W0) ys xs) : SrcOk (Ite K a) W0 (enumD 0 xs) :=
  src_of (walk_enum (xs := ys)) ((enumD_length _ _).trans h.length.symm) (fun W H l hh => SqL.of (hh.same _ _ (l.fx _ _ e))) fun i d W σ τ η θ H x H' l r e1 y => by
    obtain ⟨z, e2, rfl⟩ := enumD_get e1
    refine pair_yld r y (fun u q => by cases q; rw [Nat.zero_add]; exact .int _) fun u q => ?_
    obtain ⟨d', q1, q2⟩ := h.get' q
    rw [e2] at q1; cases q1
    exact Dt.mono l.fx q2
theorem src_enumT {W0 : Wd} {K : PySem.W.Frag} {a : Addr} {ys : List V} {xs : List PyData} (e : fx W0 a = some (.tup ys)) (h : DtAll (fx W0) ys xs) : SrcOk (IteT K a) W0 (enumD 0 xs) :=
  src_of (walk_enumT (xs := ys)) ((enumD_length _ _).trans h.length.symm) (fun W H l hh => SqT.of (hh.same _ _ (l.fx _ _ e))) fun i d W σ τ η θ H x H' l r e1 y => by
    obtain ⟨z, e2, rfl⟩ := enumD_get e1
    refine pair_yld r y (fun u q => by cases q; rw [Nat.zero_add]; exact .int _) fun u q => ?_
    obtain ⟨d', q1, q2⟩ := h.get' q
    rw [e2] at q1; cases q1
    exact Dt.mono l.fx q2
def iEnumA (K : PySem.W.Frag) (ta : TA) : TI := fun σ H R => ta σ H fun vs H1 => ∃ a, vs = [.ref a] ∧ (((∃ xs, SqL K H1 a xs) ∧ R (Ite K a) H1) ∨ ((∃ xs, SqT K H1 a xs) ∧ R (IteT K a) H1))
theorem pi_enumA {ta : TA} {tpos : Pos} {elts : List Expr} {kk : Nat} (hg : Gl X "enumerate") (hm : X.mg "enumerate" = none) (ha : PA X [e] ta) (hs : starEach [e] X.env = [(false, eval e X.env)] := by rfl) :
    PI X (.Tuple elts kk tpos) (.Call (.Name "enumerate" p) [e] [] pos) (iEnumA X.K ta) := by
  refine ⟨fun pins s σ H R I h => ?_⟩
  refine Call_ (ld_blt I hg hm boot_enumerate (PyProof.Rows.callWith_type1 (thn (ha.run pos pins s σ H _ I h) fun us s1 ⟨vs, H1, I1, r1, q1⟩ => ?_) hs rfl))
  obtain ⟨a, ex, q⟩ := q1
  subst ex
  obtain ⟨u, rfl, r⟩ := vals1 r1
  obtain rfl : u = Value.ref a := r
  have fin : ∀ b ∈ [s1.heap.objs.size + 1, s1.heap.objs.size], FpOk X pins H1 b := fun b hb => by
    have e' : b = s1.heap.objs.size + 1 ∨ b = s1.heap.objs.size := by simpa using hb
    have hle : s1.heap.objs.size ≤ b := by omega
    exact I1.fpOk hle (I1.hok.fresh hle)
  rcases q with ⟨⟨xs, hq⟩, q⟩ | ⟨⟨xs, hq⟩, q⟩
  · obtain ⟨its, rv, p', hz⟩ := I1.list hq
    exact call_enumerate_list p'.isList fun h' he hit hsz hk => wpAny_pyIter_enum he ⟨_, _, _, _, H1, rfl, I1.kept (t' := s1.toks) hk, turn_enum a (s1.heap.objs.size + 1) s1.heap.objs.size, ⟨⟨.none, he⟩, hit, Nat.succ_ne_self _⟩, fin, q⟩
  · obtain ⟨its, rv, p', hz⟩ := I1.tuple hq
    exact call_enumT p' fun h' he hit hsz hk => wpAny_pyIter_enum he ⟨_, _, _, _, H1, rfl, I1.kept (t' := s1.toks) hk, turn_enumT a (s1.heap.objs.size + 1) s1.heap.objs.size, ⟨⟨.none, he⟩, hit, Nat.succ_ne_self _⟩, fin, q⟩
def dEnum (te : TD) : TId := fun η Q => te η fun x η1 => seqOf x fun xs => Q (enumD 0 xs) η1
theorem id_enum {tpos : Pos} {elts : List Expr} {kk : Nat} (hg : Gl X "enumerate") (hm : X.mg "enumerate" = none) (he : PD X e te) (hs : starEach [e] X.env = [(false, eval e X.env)] := by rfl) :
    ID X (.Tuple elts kk tpos) (.Call (.Name "enumerate" p) [e] [] pos) (dEnum te) :=
  (pi_enumA hg hm (pa_cons he pa_nil hs) hs).weak fun σ H Q ⟨W, τ, η, θ, Qd, r, t, k⟩ => ⟨W, τ, η, θ, _, r, t, fun W1 v H1 η1 x l1 r1 q => by
    obtain ⟨W2, xs, l2, r2, s, q⟩ := seq_top r1 q
    cases s with
    | lst e a => exact ⟨_, rfl, .inl ⟨⟨_, SqL.of (r2.hold.same _ _ e)⟩, k _ _ _ _ _ (l1.trans l2) r2 (src_enumL e a) q⟩⟩
    | tup e a => exact ⟨_, rfl, .inr ⟨⟨_, SqT.of (r2.hold.same _ _ e)⟩, k _ _ _ _ _ (l1.trans l2) r2 (src_enumT e a) q⟩⟩⟩
end

/-! ### for, while -/
def forRec (g : TGd) (tb : TSd) (D : EndsD) : List PyData → En → Prop
  | [], η => D.nx η
  | d :: ds, η => g (.d d) η fun η1 => tb { nx := forRec g tb D ds, rt := D.rt, bk := D.nx, ct := forRec g tb D ds } η1
def dFor (src : TId) (g : TGd) (tb : TSd) : TSd := fun D η => src η fun items η1 => Need (forRec g tb D items η1)
theorem sd_for {tg iter : Expr} {body : List Stmt} {src : TId} {g : TGd} {tb : TSd} {pos : Pos} (hp : PassesOwn (model X.prog X.w) X.A X.env X.xe) (hc : X.calm = true) (hi : ID X tg iter src) (hg : GD X tg g) (hb : SDs X body tb)
    (hs : ∀ x, foldedSetIterable iter X.env x = pure x := by intro _; rfl) : SD X (.For tg iter body [] pos) (dFor src g tb) := by
  refine (ps_for hp hc hi hg hb hs).weak fun D σ H ⟨W, η, Dd, r, t, k⟩ => ⟨W, [], η, [], _, r, t, fun W0 H0 η0 items J l0 r0 S q => ?_⟩
  refine ⟨fun i m σ H => m = items.length - i ∧ i ≤ items.length ∧ ∃ W η, Le W0 W ∧ R5 W H σ [] η [] ∧ forRec g tb Dd (items.drop i) η, ⟨items.length, by simp, Nat.zero_le _, W0, η0, Le.refl W0, r0, by simpa using q.h⟩, ?_⟩
  rintro i m σ1 H1 ⟨rfl, hi, W1, η1, l1, r1, q1⟩
  by_cases hlt : i < items.length
  · have e : items.drop i = items[i] :: items.drop (i + 1) := List.drop_eq_getElem_cons hlt
    rw [e] at q1
    have e1 : items[i]? = some items[i] := List.getElem?_eq_getElem hlt
    refine .inr ⟨S.go i _ W1 σ1 [] η1 [] H1 l1 r1 e1, fun σ' H' => ∃ W η, Le W0 W ∧ R5 W H' σ' [] η [] ∧ forRec g tb Dd (items.drop (i + 1)) η, fun σ' H' ⟨W', η', l', r', q'⟩ => ⟨items.length - (i + 1), by omega, rfl, hlt, W', η', l', r', q'⟩, fun x H2 y => ?_⟩
    obtain ⟨W2, l2, r2, hx⟩ := S.yld i _ W1 σ1 [] η1 [] H1 x H2 l1 r1 e1 y
    refine ⟨W2, [], η1, [], .d items[i], _, r2.pushD hx, q1, fun W3 σ3 H3 η3 l3 r3 q3 => ⟨W3, η3, _, r3, q3, ?_⟩⟩
    have l03 : Le W0 W3 := (l1.trans l2).trans l3
    exact ⟨fun W' σ' H' η' l r' q' => ⟨W', η', l03.trans l, r', q'⟩, fun W' v H' x l => k.rt _ _ _ _ ((l0.trans l03).trans l), fun W' σ' H' η' l => k.nx _ _ _ _ ((l0.trans l03).trans l), fun W' σ' H' η' l r' q' => ⟨W', η', l03.trans l, r', q'⟩⟩
  · have e : i = items.length := by omega
    subst e
    rw [List.drop_length] at q1
    exact .inl ⟨S.stop W1 σ1 [] η1 [] H1 l1 r1, k.nx _ _ _ _ (l0.trans l1) r1 q1⟩
def dWhile (c : TB) (tb : TSd) : TSd := fun D η => ∃ I : Nat → En → Prop, (∃ m, I m η) ∧ ∀ m η, I m η → c η fun b η1 => Br b (tb { nx := fun η' => ∃ m', m' < m ∧ I m' η', rt := D.rt, bk := D.nx, ct := fun η' => ∃ m', m' < m ∧ I m' η' } η1) (D.nx η1)
theorem sd_while {c : Expr} {body : List Stmt} {tc : TB} {tb : TSd} {pos : Pos} (hp : PassesOwn (model X.prog X.w) X.A X.env X.xe) (hc : PB X c tc) (hb : SDs X body tb) : SD X (.While c body [] pos) (dWhile tc tb) := by
  refine (ps_while hp hc hb).weak fun D σ H ⟨W, η, Dd, r, ⟨I, ⟨m0, i0⟩, t⟩, k⟩ => ?_
  refine ⟨fun m σ H => ∃ W' η, Le W W' ∧ R5 W' H σ [] η [] ∧ I m η, ⟨m0, W, η, Le.refl W, r, i0⟩, ?_⟩
  rintro m σ1 H1 ⟨W1, η1, l1, r1, i1⟩
  refine ⟨W1, [], η1, [], _, r1, t m η1 i1, fun W2 b H2 η2 l2 r2 q => br_of q (fun q => ?_) fun q => k.nx _ _ _ _ (l1.trans l2) r2 q⟩
  refine ⟨fun σ' H' => ∃ m', m' < m ∧ ∃ W' η, Le W W' ∧ R5 W' H' σ' [] η [] ∧ I m' η, fun σ' H' z => z, W2, η2, _, r2, q, ?_⟩
  have l12 := l1.trans l2
  exact ⟨fun W' σ' H' η' l r' ⟨m', hm, q'⟩ => ⟨m', hm, W', η', l12.trans l, r', q'⟩, fun W' v H' x l => k.rt _ _ _ _ (l12.trans l), fun W' σ' H' η' l => k.nx _ _ _ _ (l12.trans l), fun W' σ' H' η' l r' ⟨m', hm, q'⟩ => ⟨m', hm, W', η', l12.trans l, r', q'⟩⟩

/-! ### comprehensions -/
def wipeD (η : En) : List Nat → En
  | [] => η
  | v :: vs => put (wipeD η vs) v .no
/-- own lists at these places are given up -/
def dropOwn (η : En) : List Nat → En
  | [] => η
  | v :: vs => match nth (dropOwn η vs) v with
    | .own _ => put (dropOwn η vs) v .no
    | _ => dropOwn η vs
/-- a target that stores into the places vs alone -/
def GOk (g : TG) (gd : TGd) (vs : List Nat) : Prop := ∀ (W : Wd) (σ : L2.St) (τ : List V) (η θ : En) (v : V) (x : DV) (H : Hp) (Q : L2.St → Hp → Prop) (Qd : En → Prop), R5 W H σ (τ ++ [v]) η (θ ++ [x]) → gd x η Qd →
  (∀ W' σ' H' η', Le W W' → R5 W' H' σ' τ η' θ → wipe σ' vs = wipe σ vs → Qd η' → Q σ' H') → g v σ H Q
def GsOk (g : TGs) (gd : TGsd) (vs : List Nat) : Prop := ∀ (W : Wd) (σ : L2.St) (τ : List V) (η θ : En) (us : List V) (ds : List PyData) (H : Hp) (Q : L2.St → Hp → Prop) (Qd : En → Prop), R5 W H σ τ η θ → DtAll (fx W) us ds → gd ds η Qd →
  (∀ W' σ' H' η', Le W W' → R5 W' H' σ' τ η' θ → wipe σ' vs = wipe σ vs → Qd η' → Q σ' H') → g us σ H Q
theorem wipe_get {σ : L2.St} {j : Nat} : ∀ {vs : List Nat}, (wipe σ vs)[j]? = if j ∈ vs ∧ j < σ.length then some none else σ[j]?
  | [] => by simp [wipe]
  | v :: vs => by
    have ih := wipe_get (σ := σ) (j := j) (vs := vs)
    unfold wipe
    by_cases h : v = j
    · subst h
      by_cases hl : v < σ.length
      · rw [List.getElem?_set_self (by rw [wipe_length]; exact hl), if_pos ⟨List.mem_cons_self, hl⟩]
      · rw [List.set_eq_of_length_le (by rw [wipe_length]; omega), ih, if_neg (fun z => hl z.2), if_neg (fun z => hl z.2)]
    · rw [List.getElem?_set_ne h, ih]
      have : (j ∈ v :: vs) ↔ (j ∈ vs) := by simp [Ne.symm h]
      simp only [this]
theorem wipe_set {σ : L2.St} {i : Nat} {x : Option V} {vs : List Nat} (h : i ∈ vs) : wipe (σ.set i x) vs = wipe σ vs := by
  apply List.ext_getElem?
  intro j
  rw [wipe_get, wipe_get, List.length_set]
  by_cases hj : i = j
  · subst hj
    by_cases hl : i < σ.length
    · rw [if_pos ⟨h, hl⟩, if_pos ⟨h, hl⟩]
    · rw [if_neg (fun z => hl z.2), if_neg (fun z => hl z.2), List.set_eq_of_length_le (by omega)]
  · rw [List.getElem?_set_ne hj]
theorem gok_name {i : Nat} {vs : List Nat} (h : i ∈ vs) : GOk (gName i) (gSet i) vs := fun W σ τ η θ v x H Q Qd r t k => k W _ H _ (Le.refl W) (r.set i) (wipe_set h) t
theorem gsok_nil {vs : List Nat} : GsOk gNil gsNil vs := fun W σ τ η θ us ds H Q Qd r a t k => by
  cases a with
  | nil => exact ⟨rfl, k _ _ _ _ (Le.refl W) r rfl t⟩
  | cons _ _ => exact t.elim
theorem gsok_cons {g : TG} {gs : TGs} {gd : TGd} {gsd : TGsd} {vs : List Nat} (h1 : GOk g gd vs) (h2 : GsOk gs gsd vs) : GsOk (gCons g gs) (gsCons gd gsd) vs := fun W σ τ η θ us ds H Q Qd r a t k => by
  cases a with
  | nil => exact t.elim
  | cons h a =>
    refine ⟨_, _, rfl, h1 W σ τ η θ _ _ H _ _ (r.pushD h) t fun W1 σ1 H1 η1 l1 r1 e1 q1 => ?_⟩
    exact h2 W1 σ1 τ η1 θ _ _ H1 Q Qd r1 (DtAll.mono l1.fx a) q1 fun W2 σ2 H2 η2 l2 r2 e2 q2 => k _ _ _ _ (l1.trans l2) r2 (e2.trans e1) q2
theorem gok_tup {K : PySem.W.Frag} {n : Nat} {gs : TGs} {gsd : TGsd} {vs : List Nat} (h : GsOk gs gsd vs) : GOk (gTup K n gs) (dgTup n gsd) vs := fun W σ τ η θ v x H Q Qd r t k => by
  unfold dgTup at t
  split at t
  · cases r.topD with
    | tup e a => exact ⟨_, _, rfl, SqT.of (r.hold.same _ _ e), by rw [a.length]; exact t.1.h, h W σ τ η θ _ _ H Q Qd r.pop a t.2 k⟩
  · exact t.elim
theorem wipeD_get {η : En} {j : Nat} : ∀ {vs : List Nat}, (wipeD η vs)[j]? = if j ∈ vs ∧ j < η.length then some .no else η[j]?
  | [] => by simp [wipeD]
  | v :: vs => by
    have ih := wipeD_get (η := η) (j := j) (vs := vs)
    have hl' : (wipeD η vs).length = η.length := by
      clear ih
      induction vs with
      | nil => rfl
      | cons a b h => unfold wipeD; rw [put_eq, List.length_set, h]
    unfold wipeD
    rw [put_eq]
    by_cases h : v = j
    · subst h
      by_cases hl : v < η.length
      · rw [List.getElem?_set_self (by rw [hl']; exact hl), if_pos ⟨List.mem_cons_self, hl⟩]
      · rw [List.set_eq_of_length_le (by rw [hl']; omega), ih, if_neg (fun z => hl z.2), if_neg (fun z => hl z.2)]
    · rw [List.getElem?_set_ne h, ih]
      have : (j ∈ v :: vs) ↔ (j ∈ vs) := by simp [Ne.symm h]
      simp only [this]
theorem wipeD_length (η : En) : ∀ vs : List Nat, (wipeD η vs).length = η.length
  | [] => rfl
  | v :: vs => by unfold wipeD; rw [put_eq, List.length_set, wipeD_length η vs]
theorem R5.wiped {W : Wd} {H : Hp} {σ : L2.St} {τ : List V} {η θ : En} (r : R5 W H σ τ η θ) (vs : List Nat) : R5 W H (wipe σ vs) τ (wipeD η vs) θ := by
  refine ⟨by rw [wipe_length, wipeD_length, r.len], ?_⟩
  have hl := r.len
  refine r.rel.sub (by simp [wipe_length, wipeD_length, r.len, r.lens]) (fun i => i) (fun i x e => ?_) fun i j _ _ e hij _ _ _ _ => hij e
  by_cases hi : i < η.length
  · rw [List.getElem?_append_left (by rw [wipeD_length]; exact hi), wipeD_get] at e
    rw [List.getElem?_append_left (by rw [wipe_length]; omega), List.getElem?_append_left hi, List.getElem?_append_left (l₁ := σ) (by omega), wipe_get]
    split at e
    · rename_i h
      cases e
      exact .inl ⟨rfl, none, by rw [if_pos ⟨h.1, by omega⟩]⟩
    · rename_i h
      rw [if_neg (fun z => h ⟨z.1, by omega⟩)]
      exact .inr ⟨e, rfl⟩
  · rw [List.getElem?_append_right (by rw [wipeD_length]; omega), wipeD_length] at e
    rw [List.getElem?_append_right (by rw [wipe_length]; omega), List.getElem?_append_right (l₁ := η) (by omega), List.getElem?_append_right (l₁ := σ) (by omega), wipe_length]
    rw [hl]
    exact .inr ⟨e, rfl⟩
theorem nth_get : ∀ {η : En} {i : Nat} {x : DV}, η[i]? = some x → nth η i = x
  | [], _, _, h => by simp at h
  | y :: r, 0, x, h => by simpa [nth] using h
  | y :: r, i + 1, x, h => nth_get (η := r) (i := i) (by simpa using h)
theorem dropOwn_length (η : En) : ∀ vs : List Nat, (dropOwn η vs).length = η.length
  | [] => rfl
  | v :: vs => by
    have ih := dropOwn_length η vs
    unfold dropOwn
    split
    · rw [put_eq, List.length_set, ih]
    · exact ih
theorem dropOwn_get {η : En} {j : Nat} {x : DV} : ∀ {vs : List Nat}, (dropOwn η vs)[j]? = some x → x = .no ∨ (η[j]? = some x ∧ (j ∈ vs → ∀ xs, x ≠ .own xs))
  | [], h => .inr ⟨h, fun z => by simp at z⟩
  | v :: vs, h => by
    unfold dropOwn at h
    split at h
    · rename_i xs e
      rw [put_eq] at h
      by_cases q : v = j
      · subst q
        rw [List.getElem?_set_self (by have := (List.getElem?_eq_some_iff.mp h).1; simpa using this)] at h
        cases h; exact .inl rfl
      · rw [List.getElem?_set_ne q] at h
        rcases dropOwn_get (vs := vs) h with z | ⟨z1, z2⟩
        · exact .inl z
        · exact .inr ⟨z1, fun m => z2 (by simpa [Ne.symm q] using m)⟩
    · rename_i ne
      rcases dropOwn_get (vs := vs) h with z | ⟨z1, z2⟩
      · exact .inl z
      · refine .inr ⟨z1, fun m xs e => ?_⟩
        rcases List.mem_cons.mp m with q | q
        · subst q; subst e
          exact ne xs (nth_get h)
        · exact z2 q xs e
/-- behind a block: its own names are as they were -/
theorem R5.unwipe {W W' : Wd} {H H' : Hp} {σ : L2.St} {τ τ0 : List V} {η θ θ0 : En} {vs : List Nat} (r : R5 W H σ τ0 η θ0) (l : Le W W') (r' : R5 W' H' (wipe σ vs) τ (wipeD η vs) θ) : R5 W' H' σ τ (dropOwn η vs) θ := by
  refine ⟨by rw [dropOwn_length, r.len], ?_⟩
  obtain ⟨h, ln, o, a, b⟩ := r'.rel
  have hl := r.len
  have key : ∀ i x, (dropOwn η vs ++ θ)[i]? = some x → x = .no ∨ (i < η.length ∧ i ∈ vs ∧ η[i]? = some x ∧ ∀ xs, x ≠ .own xs) ∨ (wipeD η vs ++ θ)[i]? = some x ∧ (wipe σ vs ++ τ.map some)[i]? = (σ ++ τ.map some)[i]? := fun i x e => by
    by_cases hi : i < η.length
    · rw [List.getElem?_append_left (by rw [dropOwn_length]; exact hi)] at e
      rcases dropOwn_get e with z | ⟨z1, z2⟩
      · exact .inl z
      · by_cases hm : i ∈ vs
        · exact .inr (.inl ⟨hi, hm, z1, z2 hm⟩)
        · refine .inr (.inr ⟨?_, ?_⟩)
          · rw [List.getElem?_append_left (by rw [wipeD_length]; exact hi), wipeD_get, if_neg (fun z => hm z.1)]; exact z1
          · rw [List.getElem?_append_left (by rw [wipe_length]; omega), List.getElem?_append_left (by omega), wipe_get, if_neg (fun z => hm z.1)]
    · rw [List.getElem?_append_right (by rw [dropOwn_length]; omega), dropOwn_length] at e
      refine .inr (.inr ⟨?_, ?_⟩)
      · rw [List.getElem?_append_right (by rw [wipeD_length]; omega), wipeD_length]; exact e
      · rw [List.getElem?_append_right (by rw [wipe_length]; omega), List.getElem?_append_right (by omega), wipe_length]
  refine ⟨h, by simp [dropOwn_length, r.len, r'.lens], o, fun i x e => ?_, fun i j xs ys e1 e2 hij => ?_⟩
  · rcases key i x e with rfl | ⟨hi, hm, e1, hn⟩ | ⟨e1, e2⟩
    · have hz := (List.getElem?_eq_some_iff.mp e).1
      have : i < (σ ++ τ.map some).length := by
        have := r'.lens
        simp [dropOwn_length] at hz ⊢
        omega
      exact ⟨_, List.getElem?_eq_getElem this, trivial⟩
    · obtain ⟨o', v, e2, e3⟩ := r.at e1
      refine ⟨v, by rw [List.getElem?_append_left (by omega)]; exact e2, ?_⟩
      cases x with
      | no => trivial
      | d x => obtain ⟨y, e4, e5⟩ := e3; exact ⟨y, e4, Dt.mono l.fx e5⟩
      | own xs => exact absurd rfl (hn xs)
      | bag => obtain ⟨b, c, e4, e5⟩ := e3; exact ⟨b, c, e4, l.keep _ _ e5⟩
      | raw y => obtain ⟨z, e4, e5⟩ := e3; exact ⟨z, e4, fun H' s => e5 H' (Same.trans l.fx s)⟩
    · obtain ⟨v, e3, e4⟩ := a i x e1
      exact ⟨v, e2 ▸ e3, e4⟩
  · rcases key i _ e1 with z | ⟨_, _, _, hn⟩ | ⟨e3, _⟩
    · cases z
    · exact absurd rfl (hn xs)
    · rcases key j _ e2 with z | ⟨_, _, _, hn⟩ | ⟨e4, _⟩
      · cases z
      · exact absurd rfl (hn ys)
      · exact b i j xs ys e3 e4 hij
/-- the list made so far is acc -/
def compRec (vs : List Nat) (ηb : En) (g : TGd) (tt : TB) (te : TD) (K : List PyData → Prop) : List PyData → List PyData → Prop
  | [], acc => K acc
  | d :: ds, acc => g (.d d) ηb fun η2 => tt η2 fun b η3 => Br b (te η3 fun y η4 => toD y fun z => Need (wipeD η4 vs = ηb) ∧ compRec vs ηb g tt te K ds (acc ++ [z])) (Need (wipeD η3 vs = ηb) ∧ compRec vs ηb g tt te K ds acc)
def dComp (vs : List Nat) (src : TId) (g : TGd) (tt : TB) (te : TD) : TD := fun η Q => src η fun items η1 => Need (items.length ≤ 1000000) ∧ Need (compRec vs (wipeD η1 vs) g tt te (fun acc => Q (.own acc) (dropOwn η1 vs)) items [])
end L2.Gd

set_option Elab.async false
set_option linter.all false
set_option maxRecDepth 100000
set_option maxHeartbeats 1000000
namespace L2.Gd
open PySem PySem.Spec PyProof.Rows L2
variable {X : Cx}

theorem toD_frz {W : Wd} {H : Hp} {σ : L2.St} {τ : List V} {η θ : En} {v : V} {y : DV} {k : PyData → Prop} (r : R5 W H σ (τ ++ [v]) η (θ ++ [y])) (h : toD y k) : ∃ W' d, Le W W' ∧ R5 W' H σ τ η θ ∧ Dt (fx W') v d ∧ k d := by
  cases y with
  | d x => exact ⟨W, x, Le.refl W, r.pop, r.topD, h⟩
  | own xs =>
    obtain ⟨W', l, r'⟩ := r.freezeT
    exact ⟨W', _, l, r'.pop, r'.topD, h⟩
  | no => exact h.elim
  | bag => exact h.elim
  | raw y => exact h.elim
theorem R5.topOwn {W : Wd} {H : Hp} {σ : L2.St} {τ : List V} {η θ : En} {D : Addr} {xs : List PyData} (r : R5 W H σ (τ ++ [.ref D]) η (θ ++ [.own xs])) : ∃ ys, H D = some (.lst ys) ∧ DtAll (fx W) ys xs := by
  obtain ⟨o, n, e, _, ys, e2, e3⟩ := r.top
  cases e
  exact ⟨ys, e2, e3⟩
theorem R5.writeTop {W : Wd} {H : Hp} {σ : L2.St} {τ : List V} {η θ : En} {D : Addr} {xs xs' : List PyData} {ys' : List V} (r : R5 W H σ (τ ++ [.ref D]) η (θ ++ [.own xs])) (h : DtAll (fx W) ys' xs') :
    R5 W (upd H D (.lst ys')) σ (τ ++ [.ref D]) η (θ ++ [.own xs']) := by
  have hl := r.len
  have ht := r.pop.lens
  have q := r.rel.write (i := (η ++ θ).length) (xs := xs) (p := D) (by rw [← List.append_assoc, List.getElem?_append_right (Nat.le_refl _)]; simp) (by
    rw [List.map_append, ← List.append_assoc, List.getElem?_append_right (by simp; omega)]
    have : (η ++ θ).length - (σ ++ τ.map some).length = 0 := by simp; omega
    rw [this]; rfl) h
  rw [← List.append_assoc, List.set_append_right _ _ (Nat.le_refl _), Nat.sub_self, List.append_assoc] at q
  exact ⟨hl, q⟩
theorem R5.ownAt {W : Wd} {H : Hp} {σ : L2.St} {τ : List V} {η θ : En} {i : Nat} {xs : List PyData} (r : R5 W H σ τ η θ) (e : η[i]? = some (.own xs)) : ∃ p ys, σ[i]? = some (some (.ref p)) ∧ H p = some (.lst ys) ∧ DtAll (fx W) ys xs := by
  obtain ⟨o, v, hv, e1, _, ys, e2, e3⟩ := r.at e
  subst e1
  exact ⟨_, ys, hv, e2, e3⟩
theorem R5.writeL {W : Wd} {H : Hp} {σ : L2.St} {τ : List V} {η θ : En} {i : Nat} {p : Addr} {xs xs' : List PyData} {ys' : List V} (r : R5 W H σ τ η θ) (e : η[i]? = some (.own xs)) (ev : σ[i]? = some (some (.ref p))) (h : DtAll (fx W) ys' xs') :
    R5 W (upd H p (.lst ys')) σ τ (put η i (.own xs')) θ := by
  have hi := (List.getElem?_eq_some_iff.mp e).1
  have q := r.rel.write (i := i) (xs := xs) (p := p) (by rw [List.getElem?_append_left hi]; exact e) (by rw [List.getElem?_append_left (by rw [r.len]; exact hi)]; exact ev) h
  rw [List.set_append_left _ _ hi] at q
  exact ⟨by rw [put_eq, List.length_set, r.len], by rw [put_eq]; exact q⟩
theorem wipe_wipe (σ : L2.St) (vs : List Nat) : wipe (wipe σ vs) vs = wipe σ vs := by
  apply List.ext_getElem?
  intro j
  rw [wipe_get, wipe_length, wipe_get]
  split <;> rfl

theorem pd_comp {elt tg iter : Expr} {ifs : List Expr} {scope : Scope} {own : List (Str × Nat)} {pos : Pos} {src : TId} {g : TG} {gd : TGd} {tt : TB} {te : TD} (hc : X.calm = true) (hN : X.N.Nodup) (hi : ID X tg iter src) (ok : BlkOk X.N X.env.scope scope own)
    (hg : ∀ (s : Shared) (H : Hp) (C : Addr) (cl : List (Str × Addr)) (fp : List Addr), PG (X.blk s H scope (compEnvC scope cl C X.env) fp) tg g) (gok : GOk g gd (own.map (·.2)))
    (ht : ∀ (s : Shared) (H : Hp) (C : Addr) (cl : List (Str × Addr)) (fp : List Addr), PTs (X.blk s H scope (compEnvC scope cl C X.env) fp) ifs (lB tt))
    (he : ∀ (s : Shared) (H : Hp) (C : Addr) (cl : List (Str × Addr)) (fp : List Addr), PD (X.blk s H scope (compEnvC scope cl C X.env) fp) elt te) (hs : ∀ x, foldedSetIterable iter X.env x = pure x := by intro _; rfl) :
    PD X (.ListComp elt [⟨tg, iter, ifs, 0⟩] scope pos) (dComp (own.map (·.2)) src gd tt te) :=
  (pe_lc hc hN hi ok hg ht he hs).weak fun σ H Q h => comp_core gok h
where
  comp_core {vs : List Nat} {src : TId} {g : TG} {gd : TGd} {tt : TB} {te : TD} (gok : GOk g gd vs) {σ : L2.St} {H : Hp} {Q : VK} (h : lE (dComp vs src gd tt te) σ H Q) : tLc (lI src) g (lB tt) (lE te) vs σ H Q := by
    obtain ⟨W, τ, η, θ, Qd, r, t, k⟩ := h
    refine ⟨W, τ, η, θ, _, r, t, fun W0 H0 η0 items J l0 r0 S q D hD => ?_⟩
    obtain ⟨hn, q⟩ := q
    have hn := hn.h
    have q := q.h
    refine ⟨fun i m H => m = items.length - i ∧ i ≤ items.length ∧ ∃ W1 acc, Le W0 W1 ∧ R5 W1 H (wipe σ vs) (τ ++ [.ref D]) (wipeD η0 vs) (θ ++ [.own acc]) ∧ acc.length ≤ i ∧
      compRec vs (wipeD η0 vs) gd tt te (fun acc => Qd (.own acc) (dropOwn η0 vs)) (items.drop i) acc, ⟨items.length, by simp, Nat.zero_le _, W0, [], Le.refl W0, (r0.wiped vs).pushOwn hD .nil, Nat.le_refl _, by simpa using q⟩, ?_⟩
    rintro i m H1 ⟨rfl, hi, W1, acc, l1, r1, ha, q1⟩
    by_cases hlt : i < items.length
    · have e : items.drop i = items[i] :: items.drop (i + 1) := List.drop_eq_getElem_cons hlt
      rw [e] at q1
      have e1 : items[i]? = some items[i] := List.getElem?_eq_getElem hlt
      refine .inr ⟨S.go i _ W1 _ _ _ _ H1 l1 r1 e1, fun H' => ∃ W1 acc, Le W0 W1 ∧ R5 W1 H' (wipe σ vs) (τ ++ [.ref D]) (wipeD η0 vs) (θ ++ [.own acc]) ∧ acc.length ≤ i + 1 ∧
        compRec vs (wipeD η0 vs) gd tt te (fun acc => Qd (.own acc) (dropOwn η0 vs)) (items.drop (i + 1)) acc, fun H' z => ⟨items.length - (i + 1), by omega, rfl, hlt, z⟩, fun x H2 y => ?_⟩
      obtain ⟨W2, l2, r2, hx⟩ := S.yld i _ W1 _ _ _ _ H1 x H2 l1 r1 e1 y
      refine gok W2 (wipe σ vs) _ _ _ x (.d items[i]) H2 _ _ (r2.pushD hx) q1 fun W3 σ3 H3 η3 l3 r3 e3 q3 => ?_
      rw [wipe_wipe] at e3
      refine ⟨e3, W3, _, η3, _, _, r3, q3, fun W4 b H4 η4 l4 r4 q4 => br_of q4 (fun q5 => ?_) fun q5 => ?_⟩
      · refine ⟨W4, _, η4, _, _, r4, q5, fun W5 v H5 η5 z l5 r5 q6 => ?_⟩
        obtain ⟨W6, d, l6, r6, hd, hw, q7⟩ := toD_frz r5 q6
        obtain ⟨ys, e5, e6⟩ := r6.topOwn
        refine ⟨ys, e5, ?_, W6, acc ++ [d], ((((l1.trans l2).trans l3).trans l4).trans l5).trans l6, ?_, by simp; omega, q7⟩
        · rw [e6.length]
          exact Nat.lt_of_lt_of_le (Nat.lt_of_le_of_lt ha hlt) (line_of hn)
        · have r7 := (r6.writeTop (e6.append (.cons hd .nil))).wiped vs
          rw [e3, hw.h] at r7
          exact r7
      · have r7 := r4.wiped vs
        rw [e3, q5.1.h] at r7
        exact ⟨W4, acc, ((l1.trans l2).trans l3).trans l4, r7, by omega, q5.2⟩
    · have e : i = items.length := by omega
      subst e
      rw [List.drop_length] at q1
      exact .inl ⟨S.stop W1 _ _ _ _ H1 l1 r1, k _ _ _ _ _ (l0.trans l1) (R5.unwipe r0 l1 r1) q1⟩
def dYes : TB := fun η Q => Q true η
theorem pts_no : PTs X [] (lB dYes) := ⟨fun pins s σ H Q I ⟨W, τ, η, θ, Qd, r, t, k⟩ => wpAny_tests_nil ⟨H, I, k _ _ _ _ (Le.refl W) r t⟩⟩
theorem pts_of {c : Expr} {t : TB} (h : PB X c t) : PTs X [c] (lB t) := pts_one h

/-- name = [..] on one line -/
theorem sd_setComp {i : Nat} {y : Str} {py : Pos} {elt tg iter : Expr} {ifs : List Expr} {scope : Scope} {own : List (Str × Nat)} {pos spos : Pos} {src : TId} {g : TG} {gd : TGd} {tt : TB} {te : TD} (hc : X.calm = true) (hN : X.N.Nodup) (hy : X.N[i]? = some y) (hyl : X.env.scope.names.lookup y = some .local)
    (hsw : swapsWith (.ListComp elt [⟨tg, iter, ifs, 0⟩] scope pos) (some (.Name y py)) spos.line X.env = pure true) (hi : ID X tg iter src) (ok : BlkOk X.N X.env.scope scope own)
    (hg : ∀ (s : Shared) (H : Hp) (C : Addr) (cl : List (Str × Addr)) (fp : List Addr), PG (X.blk s H scope (compEnvC scope cl C X.env) fp) tg g) (gok : GOk g gd (own.map (·.2)))
    (ht : ∀ (s : Shared) (H : Hp) (C : Addr) (cl : List (Str × Addr)) (fp : List Addr), PTs (X.blk s H scope (compEnvC scope cl C X.env) fp) ifs (lB tt))
    (he : ∀ (s : Shared) (H : Hp) (C : Addr) (cl : List (Str × Addr)) (fp : List Addr), PD (X.blk s H scope (compEnvC scope cl C X.env) fp) elt te) (hs : ∀ x, foldedSetIterable iter X.env x = pure x := by intro _; rfl) :
    SD X (.Assign [.Name y py] (.ListComp elt [⟨tg, iter, ifs, 0⟩] scope pos) spos) (dAsg (dComp (own.map (·.2)) src gd tt te) (gSet i)) :=
  (ps_setLc hc hN hy hyl hsw hi ok hg ht he hs).weak fun D σ H ⟨W, η, Dd, r, t, k⟩ =>
    pd_comp.comp_core gok ⟨W, [], η, [], _, r, t, fun W1 v H1 η1 x l1 r1 q => k.nx _ _ _ _ l1 (R5.set (τ := []) (θ := []) r1 i) q⟩

/-! ### methods of an own list -/
def isOwn : DV → (List PyData → Prop) → Prop
  | .own xs, k => k xs
  | _, _ => False
theorem isOwn_ex {η : En} {i : Nat} {k : List PyData → Prop} (h : isOwn (nth η i) k) : ∃ xs, η[i]? = some (.own xs) ∧ k xs := by
  cases e : nth η i with
  | own xs => rw [e] at h; exact ⟨xs, nth_some e (by intro q; cases q), h⟩
  | no => rw [e] at h; exact h.elim
  | d d => rw [e] at h; exact h.elim
  | bag => rw [e] at h; exact h.elim
  | raw y => rw [e] at h; exact h.elim
theorem tyList {K : PySem.W.Frag} {H : Hp} {p : Addr} {ys : List V} (h : H p = some (.lst ys)) : tyV K "list" (.ref p) H := .inl ⟨rfl, _, SqL.of h⟩
def dAppend (i : Nat) (te : TD) : TD := fun η Q => isOwn (nth η i) fun _ => te η fun y η1 => isOwn (nth η1 i) fun xs => toD y fun d => Need (xs.length < 1000000) ∧ Q (.d .none) (put η1 i (.own (xs ++ [d])))
section
variable {o e : Expr} {i : Nat} {te : TD} {tf : TF} {apos cpos : Pos}
theorem pd_append (ho : PE X o (tVar i)) (he : PD X e te) (hbase : attributeBase o "append" X.env (eval o X.env) = eval o X.env := by rfl)
    (hfew : ((backTo cpos (starEach [e] X.env)).all (fun x => !x.1) && (backToKw cpos (keywordEach [] X.env)).all (fun x => x.1.isSome) && decide ([e].length + ([] : List Keyword).length + (if ([] : List Keyword).isEmpty then 0 else 1) < 30)) = true := by rfl)
    (hline : (apos.endLine == cpos.line) = true := by rfl) (hs : starEach [e] X.env = (false, eval e X.env) :: starEach [] X.env := by rfl) :
    PD X (.Call (.Attribute o "append" apos) [e] [] cpos) (dAppend i te) :=
  (pe_bm PySem.F.plainAttrs_list PySem.F.slot_list_append PySem.F.type_list_append mt_append ho (pa_cons he pa_nil hs) hbase hfew hline hs).weak fun σ H Q ⟨W, τ, η, θ, Qd, r, t, k⟩ => by
    obtain ⟨xs, e0, t⟩ := isOwn_ex t
    obtain ⟨p, ys, ev, eh, _⟩ := r.ownAt e0
    refine ⟨_, ev, tyList eh, W, τ, η, θ, _, r, t, fun W1 v H1 η1 y l1 r1 q => ?_⟩
    obtain ⟨xs1, e1, q⟩ := isOwn_ex q
    obtain ⟨W2, d, l2, r2, hd, hz, q⟩ := toD_frz r1 q
    obtain ⟨p', ys1, ev', eh1, ea⟩ := r2.ownAt e1
    rw [ev] at ev'; cases ev'
    refine ⟨p, ys1, v, rfl, rfl, eh1, ?_, ?_⟩
    · rw [ea.length]; exact Nat.lt_of_lt_of_le hz.h (line_of (Nat.le_refl _))
    · exact k _ _ _ _ _ (l1.trans l2) ((r2.writeL e1 ev (ea.append (.cons hd .nil))).pushD .non) q
def dExtend (i : Nat) (te : TD) : TD := fun η Q => isOwn (nth η i) fun _ => te η fun y η1 => isOwn (nth η1 i) fun xs => toD y fun d => match d with
  | .list zs => Need (xs.length + zs.length ≤ 1000000) ∧ Q (.d .none) (put η1 i (.own (xs ++ zs)))
  | _ => False
theorem pd_extend (ho : PE X o (tVar i)) (he : PD X e te) (hbase : attributeBase o "extend" X.env (eval o X.env) = eval o X.env := by rfl)
    (hfew : ((backTo cpos (starEach [e] X.env)).all (fun x => !x.1) && (backToKw cpos (keywordEach [] X.env)).all (fun x => x.1.isSome) && decide ([e].length + ([] : List Keyword).length + (if ([] : List Keyword).isEmpty then 0 else 1) < 30)) = true := by rfl)
    (hline : (apos.endLine == cpos.line) = true := by rfl) (hs : starEach [e] X.env = (false, eval e X.env) :: starEach [] X.env := by rfl) :
    PD X (.Call (.Attribute o "extend" apos) [e] [] cpos) (dExtend i te) :=
  (pe_bm PySem.F.plainAttrs_list PySem.F.slot_list_extend PySem.F.type_list_extend mt_extend ho (pa_cons he pa_nil hs) hbase hfew hline hs).weak fun σ H Q ⟨W, τ, η, θ, Qd, r, t, k⟩ => by
    obtain ⟨xs, e0, t⟩ := isOwn_ex t
    obtain ⟨p, ys, ev, eh, _⟩ := r.ownAt e0
    refine ⟨_, ev, tyList eh, W, τ, η, θ, _, r, t, fun W1 v H1 η1 y l1 r1 q => ?_⟩
    obtain ⟨xs1, e1, q⟩ := isOwn_ex q
    obtain ⟨W2, d, l2, r2, hd, q⟩ := toD_frz r1 q
    obtain ⟨p', ys1, ev', eh1, ea⟩ := r2.ownAt e1
    rw [ev] at ev'; cases ev'
    split at q
    · cases hd with
      | lst eb ab =>
        refine ⟨p, _, ys1, _, rfl, rfl, eh1, r2.hold.same _ _ eb, ?_, ?_⟩
        · rw [ea.length, ab.length]; exact line_of q.1.h
        · exact k _ _ _ _ _ (l1.trans l2) ((r2.writeL e1 ev (ea.append ab)).pushD .non) q.2
    · exact q.elim
theorem DtAll.dropLast {H : Hp} {vs : List V} {ds : List PyData} (h : DtAll H vs ds) : DtAll H vs.dropLast ds.dropLast := by
  rw [List.dropLast_eq_take, List.dropLast_eq_take, h.length]
  exact h.take _
theorem DtAll.eraseIdx {H : Hp} : ∀ {vs : List V} {ds : List PyData} (k : Nat), DtAll H vs ds → DtAll H (vs.eraseIdx k) (ds.eraseIdx k)
  | _, _, _, .nil => .nil
  | _, _, 0, .cons _ t => t
  | _, _, k + 1, .cons h t => .cons h (DtAll.eraseIdx k t)
/-- x.pop() -/
def dPop (i : Nat) : TD := fun η Q => isOwn (nth η i) fun xs => ∃ d, xs[xs.length - 1]? = some d ∧ Q (.d d) (put η i (.own xs.dropLast))
theorem pd_pop (ho : PE X o (tVar i)) (hbase : attributeBase o "pop" X.env (eval o X.env) = eval o X.env := by rfl) (hline : (apos.endLine == cpos.line) = true := by rfl) :
    PD X (.Call (.Attribute o "pop" apos) [] [] cpos) (dPop i) :=
  (pe_bm0 PySem.F.plainAttrs_list PySem.F.slot_list_pop PySem.F.type_list_pop mt_pop ho hbase hline).weak fun σ H Q ⟨W, τ, η, θ, Qd, r, t, k⟩ => by
    obtain ⟨xs, e0, d, hd, t⟩ := isOwn_ex t
    obtain ⟨p, ys, ev, eh, ea⟩ := r.ownAt e0
    obtain ⟨v, hv, hvd⟩ := ea.get hd
    exact ⟨_, ev, tyList eh, p, ys, v, rfl, rfl, eh, by rw [ea.length]; exact hv, k _ _ _ _ _ (Le.refl W) ((r.writeL e0 ev ea.dropLast).pushD hvd) t⟩
/-- x.pop(k) -/
def dPopAt (i : Nat) (tf : TF) : TD := fun η Q => isOwn (nth η i) fun _ => tf η fun d η1 => isOwn (nth η1 i) fun xs => match d with
  | .int z => ∃ (j : Nat) (y : PyData), Need (-(2 ^ 63) ≤ z ∧ z < 2 ^ 63) ∧ seqIndex? z xs.length = some j ∧ xs[j]? = some y ∧ Q (.d y) (put η1 i (.own (xs.eraseIdx j)))
  | _ => False
theorem pd_popAt (ho : PE X o (tVar i)) (he : PF X e tf) (hbase : attributeBase o "pop" X.env (eval o X.env) = eval o X.env := by rfl)
    (hfew : ((backTo cpos (starEach [e] X.env)).all (fun x => !x.1) && (backToKw cpos (keywordEach [] X.env)).all (fun x => x.1.isSome) && decide ([e].length + ([] : List Keyword).length + (if ([] : List Keyword).isEmpty then 0 else 1) < 30)) = true := by rfl)
    (hline : (apos.endLine == cpos.line) = true := by rfl) (hs : starEach [e] X.env = (false, eval e X.env) :: starEach [] X.env := by rfl) :
    PD X (.Call (.Attribute o "pop" apos) [e] [] cpos) (dPopAt i tf) :=
  (pe_bm PySem.F.plainAttrs_list PySem.F.slot_list_pop PySem.F.type_list_pop mt_popAt ho (pa_cons he pa_nil hs) hbase hfew hline hs).weak fun σ H Q ⟨W, τ, η, θ, Qd, r, t, k⟩ => by
    obtain ⟨xs, e0, t⟩ := isOwn_ex t
    obtain ⟨p, ys, ev, eh, _⟩ := r.ownAt e0
    refine ⟨_, ev, tyList eh, W, τ, η, θ, _, r, t, fun W1 v H1 η1 y l1 r1 pk q => ?_⟩
    obtain ⟨xs1, e1, q⟩ := isOwn_ex q
    obtain ⟨p', ys1, ev', eh1, ea⟩ := r1.ownAt e1
    rw [ev] at ev'; cases ev'
    split at q
    · rw [pk.int]
      obtain ⟨j, y, hz, h1, h2, q⟩ := q
      obtain ⟨v, hv, hvd⟩ := ea.get h2
      exact ⟨p, ys1, _, j, v, rfl, rfl, eh1, hz.h.1, hz.h.2, by rw [ea.length]; exact h1, hv, k _ _ _ _ _ l1 ((r1.writeL e1 ev (ea.eraseIdx j)).pushD hvd) q⟩
    · exact q.elim
end
/-- x[e] = .. , x an own list -/
def gSubL (i : Nat) (tf : TF) : TGd := fun v η Q => isOwn (nth η i) fun _ => tf η fun d η1 => isOwn (nth η1 i) fun xs => match d with
  | .int z => ∃ j, ixN xs.length z = some j ∧ toD v fun y => Q (put η1 i (.own (xs.set j y)))
  | _ => False
theorem gd_subL {o e : Expr} {i : Nat} {tf : TF} {pos : Pos} (ho : PE X o (tVar i)) (he : PF X e tf)
    (ha : ∀ v, assign (.Subscript o e pos) X.env v = (do
      let ov ← holding [v] (eval o X.env)
      let iv ← holding [v, ov] (eval e X.env)
      standAt pos
      holding [v, ov, iv] (setItem ov iv v)
      release [v, ov, iv] []) := by intro _; rfl) : GD X (.Subscript o e pos) (gSubL i tf) :=
  (pg_sub ho he set_list ha).weak fun v σ H Q ⟨W, τ, η, θ, x, Qd, r, t, k⟩ => by
    obtain ⟨xs, e0, t⟩ := isOwn_ex t
    obtain ⟨p, ys, ev, eh, _⟩ := r.ownAt e0
    refine ⟨_, ev, W, _, η, _, _, r, t, fun W1 u H1 η1 d l1 r1 pk q => ?_⟩
    obtain ⟨xs1, e1, q⟩ := isOwn_ex q
    split at q
    · rw [pk.int]
      obtain ⟨j, hj, q⟩ := q
      obtain ⟨W2, y, l2, r2, hy, q⟩ := toD_frz r1 q
      obtain ⟨p', ys1, ev', eh1, ea⟩ := r2.ownAt e1
      rw [ev] at ev'; cases ev'
      exact ⟨p, ys1, _, j, rfl, rfl, eh1, by rw [ea.length]; exact hj, k _ _ _ _ (l1.trans l2) (r2.writeL e1 ev (ea.set hy j)) q⟩
    · exact q.elim
end L2.Gd

set_option Elab.async false
set_option linter.all false
set_option maxRecDepth 100000
set_option maxHeartbeats 1000000
namespace L2.Gd
open PySem PySem.Spec PyProof.Rows L2
variable {X : Cx}

/-! ### calls by names -/
def ro {α : Type} (idx : List Nat) (xs : List α) : List α := idx.filterMap fun i => xs[i]?
def gK {α : Type} (a b : Nat) (idx : List Nat) (us ws : List α) : List α := if us.length = a ∧ ws.length = b then ro idx (us ++ ws) else []
theorem ro_paired {α β : Type} {R : α → β → Prop} : ∀ (idx : List Nat) {xs : List α} {ys : List β}, Paired R xs ys → Paired R (ro idx xs) (ro idx ys)
  | [], _, _, _ => .nil
  | i :: idx, xs, ys, h => by
    have ih := ro_paired idx h
    have get : ∀ {xs : List α} {ys : List β} (i : Nat), Paired R xs ys → (xs[i]? = none ∧ ys[i]? = none) ∨ ∃ x y, xs[i]? = some x ∧ ys[i]? = some y ∧ R x y := by
      intro xs ys i h
      induction h generalizing i with
      | nil => exact .inl ⟨rfl, rfl⟩
      | cons r t ih =>
        cases i with
        | zero => exact .inr ⟨_, _, rfl, rfl, r⟩
        | succ i => simpa using ih i
    unfold ro
    rcases get i h with ⟨e1, e2⟩ | ⟨x, y, e1, e2, r⟩
    · rw [List.filterMap_cons_none e1, List.filterMap_cons_none e2]; exact ih
    · rw [List.filterMap_cons_some e1, List.filterMap_cons_some e2]; exact .cons r ih
theorem paired_app {α β : Type} {R : α → β → Prop} : ∀ {xs : List α} {ys : List β} {zs : List α} {ws : List β}, Paired R xs ys → Paired R zs ws → Paired R (xs ++ zs) (ys ++ ws)
  | _, _, _, _, .nil, h => h
  | _, _, _, _, .cons r t, h => .cons r (paired_app t h)
theorem kb_mk {K : PySem.W.Frag} {x qual : Str} {st : Stmt} {f : Addr} {fd : FuncData} {ps ks : List Str} {a b : Nat} {idx : List Nat} (F : Fun K x qual st f fd) (hp : ps ≠ [])
    (h : ∀ (kV doc pm : Value) (an : Option Addr) (cdv ct : Value) (us ws : List Value), us.length = a → ws.length = b →
      bindArgs (PySem.W.fnOf x qual (defArgs st) (defBody st) (defScope st) .none kV doc pm an cdv ct) ⟨us, ks.zip ws⟩ = pure (ps.zip (ro idx (us ++ ws)))) : KBinds K fd ps ks (gK a b idx) (gK a b idx) := by
  obtain ⟨oc, od, kV, doc, pm, an, cdv, ct, osl, rfl, lk, hcd⟩ := F.ex
  refine ⟨fun s us ws _ hl => ?_, fun {vs us zs ws} r rz => ?_⟩
  · unfold gK at hl ⊢
    split at hl
    · rename_i hc
      rw [if_pos hc]
      exact .of_eq (h kV doc pm an cdv ct us ws hc.1 hc.2)
    · exact absurd (List.eq_nil_of_length_eq_zero hl.symm) hp
  · unfold gK
    rw [r.length, rz.length]
    split
    · exact ro_paired idx (paired_app r rz)
    · exact .nil
abbrev PKd (X : Cx) (kws : List Keyword) (t : TL) : Prop := PK X kws (lLn kws.length t)
theorem _root_.L2.PK.weak {X : Cx} {e : List Keyword} {t t' : TA} (h : PK X e t) (w : ∀ σ H Q, t' σ H Q → t σ H Q) : PK X e t' := ⟨fun pos pins s σ H Q I q => h.run pos pins s σ H Q I (w σ H Q q)⟩
theorem pk_no : PKd X [] dNil := pk_nil.weak fun σ H Q ⟨W, τ, η, θ, Qd, r, t, k⟩ => k W [] H η [] (Le.refl W) (by simpa using r) rfl rfl t
theorem pk_more {nm : Option Str} {e : Expr} {kpos : Pos} {kws : List Keyword} {te : TD} {t : TL} (ha : PD X e te) (hr : PKd X kws t) : PKd X (⟨nm, e, kpos⟩ :: kws) (dCons te t) := by
  refine (pk_cons ha hr).weak fun σ H Q ⟨W, τ, η, θ, Qd, r, t, k⟩ => ?_
  refine ⟨W, τ, η, θ, _, r, t, fun W1 v1 H1 η1 x l1 r1 t1 => ?_⟩
  refine ⟨W1, _, η1, _, _, r1, t1, fun W2 vs H2 η2 xs l2 r2 e1 e2 t2 => ?_⟩
  exact k W2 (v1 :: vs) H2 η2 (x :: xs) (l1.trans l2) (by simpa using r2) (by simp [e1]) (by simp [e2]) t2
theorem ro_get {α : Type} : ∀ (idx : List Nat) (xs : List α) (n : Nat), (∀ i ∈ idx, i < xs.length) → (ro idx xs)[n]? = (idx[n]?).bind fun i => xs[i]?
  | [], xs, n, _ => by simp [ro]
  | i :: idx, xs, n, h => by
    have hi := h i List.mem_cons_self
    have e : xs[i]? = some xs[i] := List.getElem?_eq_getElem hi
    unfold ro
    rw [List.filterMap_cons_some e]
    cases n with
    | zero => simp [e]
    | succ n => simpa [ro] using ro_get idx xs n fun j hj => h j (List.mem_cons_of_mem _ hj)
theorem ro_length {α : Type} : ∀ (idx : List Nat) (xs : List α), (∀ i ∈ idx, i < xs.length) → (ro idx xs).length = idx.length
  | [], _, _ => rfl
  | i :: idx, xs, h => by
    have hi := h i List.mem_cons_self
    have e : xs[i]? = some xs[i] := List.getElem?_eq_getElem hi
    have := ro_length idx xs fun j hj => h j (List.mem_cons_of_mem _ hj)
    unfold ro at this ⊢
    rw [List.filterMap_cons_some e, List.length_cons, this, List.length_cons]
theorem ro_map {α β : Type} (f : α → β) : ∀ (idx : List Nat) (xs : List α), ro idx (xs.map f) = (ro idx xs).map f
  | [], _ => rfl
  | i :: idx, xs => by
    have ih := ro_map f idx xs
    unfold ro at ih ⊢
    cases e : xs[i]? with
    | none => rw [List.filterMap_cons_none e, List.filterMap_cons_none (by rw [List.getElem?_map, e]; rfl), ih]
    | some y => rw [List.filterMap_cons_some e, List.filterMap_cons_some (by rw [List.getElem?_map, e]; rfl), ih, List.map_cons]
/-- the same places of what is held, where nothing is own -/
theorem Rel.ro {W : Wd} {H : Hp} {vs : List V} {ds : List DV} (r : Rel W H (vs.map some) ds) (idx : List Nat) (hi : ∀ i ∈ idx, i < ds.length) (hn : ∀ x ∈ ds, ∀ xs, x ≠ .own xs) : Rel W H ((Gd.ro idx vs).map some) (Gd.ro idx ds) := by
  have hl : vs.length = ds.length := by have := r.len; simpa using this
  rw [← ro_map]
  refine r.sub (by rw [ro_length _ _ (by simpa [hl] using hi), ro_length _ _ hi]) (fun n => idx[n]?.getD 0) (fun n x e => .inr ?_) fun i j _ _ _ _ xs ys e _ => ?_
  · rw [ro_get _ _ _ hi] at e
    rw [ro_get _ _ _ (by simpa [hl] using hi)]
    cases q : idx[n]? with
    | none => rw [q] at e; cases e
    | some m => rw [q] at e; exact ⟨e, rfl⟩
  · rw [ro_get _ _ _ hi] at e
    cases q : idx[i]? with
    | none => rw [q] at e; cases e
    | some m => rw [q] at e; exact hn _ (List.mem_of_getElem? e) xs rfl
theorem callK_core {sp : SpD} {W : Wd} {H : Hp} {σ : L2.St} {τ vs : List V} {η θ : En} {xs : List DV} {Q : VK} {Qd : DV → En → Prop} {E : XK} (idx : List Nat) (hi : ∀ i ∈ idx, i < xs.length) (r : R5 W H σ (τ ++ vs) η (θ ++ xs)) (hl : vs.length = xs.length)
    (h : sp (ro idx (xs.map frz)) fun x => Qd x η) (k : ∀ W' v H' η' x, Le W W' → R5 W' H' σ (τ ++ [v]) η' (θ ++ [x]) → Qd x η' → Q v H') : lSp sp (ro idx vs) H Q E := by
  obtain ⟨W1, l1, r1⟩ := r.frzAll
  have hlen := r1.len
  have hl2 := r1.lens
  have q := r1.rel
  rw [List.map_append, ← List.append_assoc, ← List.append_assoc] at q
  have hn : ∀ x ∈ xs.map frz, ∀ ys, x ≠ .own ys := fun x hx ys e => by
    obtain ⟨z, _, rfl⟩ := List.mem_map.mp hx
    exact frz_not e
  obtain ⟨Wc, rc, back⟩ := q.aside (by simp at hl2 ⊢; omega) hn
  refine ⟨Wc, _, _, rc.ro idx (by simpa using hi) hn, h, fun W' v H' x l rv qd => ?_⟩
  obtain ⟨W2, l2, r2⟩ := back W' H' v x l rv
  refine k W2 v H' η x (l1.trans l2) ⟨hlen, ?_⟩ qd
  rw [List.map_append, ← List.append_assoc, ← List.append_assoc]
  exact r2
def dCallK (sp : SpD) (idx : List Nat) (ta tk : TL) : TD := fun η Q => ta η fun xs η1 => tk η1 fun zs η2 => sp (ro idx ((xs ++ zs).map frz)) fun x => Q x η2
section
variable {CX : CXT} {k : Nat} {f : Addr} {fd : FuncData} {ps ks : List Str} {sp : SpD} {E : XK} {x : Str} {p pos : Pos} {e : Expr} {es : List Expr} {kws : List Keyword} {t tk : TL} {idx : List Nat}
theorem pd_callK (F : FnG X.prog X.w X.K X.mg X.base CX k f fd ps (lSp sp)) (hgu : X.A.guards = some []) (hr : Room k X.A) (hg : Gl X x) (hm : X.mg x = some (.ref f)) (hk : PySem.W.keepIn X.K (.ref f) = true) (hb : KBinds X.K fd ps ks (gK (e :: es).length kws.length idx) (gK (e :: es).length kws.length idx)) (hx : Passes CX X E)
    (ha : PLn X (e :: es) t) (hkw : PKd X kws tk) (hi : ∀ i ∈ idx, i < (e :: es).length + kws.length := by decide) (hall : (backToKw pos (keywordEach kws X.env)).all (·.1.isSome) = true := by rfl) (hks : (backToKw pos (keywordEach kws X.env)).filterMap (·.1) = ks := by rfl)
    (hdb : (x == ("__debug__" : Str)) = false := by decide) (he : starEach (e :: es) X.env = (false, eval e X.env) :: starEach es X.env := by rfl)
    (hpl : ((backTo pos (starEach (e :: es) X.env)).any (·.1) || (backToKw pos (keywordEach kws X.env)).any (·.1.isNone)) = false := by rfl) : PD X (.Call (.Name x p) (e :: es) kws pos) (dCallK sp idx t tk) := by
  refine (pe_callKG (E := E) F hgu hr hg hm hk hb hx ha hkw hall hks hdb he hpl).weak fun σ H Q ⟨W, τ, η, θ, Qd, r, t, k⟩ => ?_
  refine ⟨W, τ, η, θ, _, r, t, fun W1 vs H1 η1 xs l1 r1 e1 e2 q => ⟨W1, _, η1, _, _, r1, q, fun W2 zs H2 η2 ys l2 r2 e3 e4 q2 => ?_⟩⟩
  show lSp sp (gK _ _ idx vs zs) H2 Q E
  unfold gK
  rw [if_pos ⟨e1.trans e2, e3.trans e4⟩]
  exact callK_core idx (by simpa [e2, e4] using hi) (by simpa using r2) (by simp [e1, e3]) q2 fun W' v H' η' x l => k _ _ _ _ _ ((l1.trans l2).trans l)
theorem pd_callK0 (F : FnG X.prog X.w X.K X.mg X.base CX k f fd ps (lSp sp)) (hgu : X.A.guards = some []) (hr : Room k X.A) (hg : Gl X x) (hm : X.mg x = some (.ref f)) (hk : PySem.W.keepIn X.K (.ref f) = true) (hb : KBinds X.K fd ps ks (gK 0 kws.length idx) (gK 0 kws.length idx)) (hx : Passes CX X E)
    (hkw : PKd X kws tk) (hi : ∀ i ∈ idx, i < kws.length := by decide) (hall : (backToKw pos (keywordEach kws X.env)).all (·.1.isSome) = true := by rfl) (hks : (backToKw pos (keywordEach kws X.env)).filterMap (·.1) = ks := by rfl)
    (hdb : (x == ("__debug__" : Str)) = false := by decide)
    (hpl : ((backTo pos (starEach [] X.env)).any (·.1) || (backToKw pos (keywordEach kws X.env)).any (·.1.isNone)) = false := by rfl) : PD X (.Call (.Name x p) [] kws pos) (dCallK sp idx dNil tk) := by
  refine (pe_callK0G (E := E) F hgu hr hg hm hk hb hx hkw hall hks hdb hpl).weak fun σ H Q ⟨W, τ, η, θ, Qd, r, t, k⟩ => ?_
  refine ⟨W, τ, η, θ, _, r, t, fun W2 zs H2 η2 ys l2 r2 e3 e4 q2 => ?_⟩
  show lSp sp (gK _ _ idx [] zs) H2 Q E
  unfold gK
  rw [if_pos ⟨rfl, e3.trans e4⟩]
  exact callK_core idx (by simpa [e4] using hi) r2 e3 q2 fun W' v H' η' x l => k _ _ _ _ _ (l2.trans l)
end

/-! ### repr -/
structure RpOk (d : PyData) : Prop where
  sh : d.showable = true
  nd : d.hasDict = false
  dp : d.depth ≤ 60
  ln : d.shown.length ≤ 1000000
def fRepr : F1 := fun d Q => Need (RpOk d) ∧ Q (.d (.str d.shown))
theorem cr_repr (hg : X.A.guards = some []) (hu : X.A.units + 64 < cLine) : CallR X (.builtin "repr") (fun xs H Q => ∃ x d, xs = [x] ∧ Dp X.K H x d ∧ RpOk d ∧ Q (.str d.shown) H) := by
  intro pins s σ H xs us Q I r h
  obtain ⟨x, d, rfl, hd, ok, q⟩ := h
  obtain ⟨u, rfl, rx⟩ := vals1 r
  obtain ⟨as, rd⟩ := Dp.reads I d x u hd rx
  have sz := line_of ok.ln
  cases u with
  | ref a => exact repr_of_reads' rd ok.sh (PyData.noDict_hsm ok.nd) hg (by have := ok.dp; omega) (fun _ _ e => e) (fun h' u tk hk => ⟨.str d.shown, H, I.kept hk, ⟨u, rfl⟩, q⟩) sz
  | none => cases rd; exact PySem.P.repr_of_none ⟨.str _, H, I.tok _, ⟨_, rfl⟩, by simpa [PyData.shown] using q⟩
  | bool b => cases rd; exact PySem.P.repr_of_bool ⟨.str _, H, I.tok _, ⟨_, rfl⟩, by simpa [PyData.shown] using q⟩
  | int i t => cases rd; exact PySem.P.repr_of_int (by have := ok.sh; simpa [PyData.showable] using this) ⟨.str _, H, I.tok _, ⟨_, rfl⟩, by simpa [PyData.shown] using q⟩
  | str y t => cases rd; exact PySem.P.repr_of_str (hsz := by simpa [PyData.shown] using sz) ⟨.str _, H, I.tok _, ⟨_, rfl⟩, by simpa [PyData.shown] using q⟩
  | _ => cases rd
theorem cd_repr (hg : X.A.guards = some []) (hu : X.A.units + 64 < cLine) : CallD1 X (.builtin "repr") fRepr :=
  ⟨_, cr_repr hg hu, fun W H σ τ η θ v d Q Qd r p t k => ⟨v, d, rfl, Dt.dp _ (p.dt r.hold), t.1.h, give r k (.str _) t.2⟩⟩

/-! ### unpacking, any sequence -/
def dgSeq (n : Nat) (gs : TGsd) : TGd := fun x η Q => seqOf x fun ds => Need (ds.length = n) ∧ gs ds η Q
theorem pg_seq {es : List Expr} {k : Nat} {t : TGs} {n : Nat} {pos : Pos} (hc : X.calm = true) (h : PGs X es t) (hn : (assignEach es X.env).length = n := by rfl) (hst : (assignEach es X.env).findIdx? (·.1) = none := by rfl) :
    PG X (.Tuple es k pos) (fun v σ H Q => gTup X.K n t v σ H Q ∨ gUnl X.K n t v σ H Q) :=
  ⟨fun pins s σ H v u Q I r q => q.elim (fun q => (pg_tup hc h hn hst).run pins s σ H v u Q I r q) fun q => (pg_unl hc h hn hst).run pins s σ H v u Q I r q⟩
theorem gd_seq {es : List Expr} {k : Nat} {gs : TGsd} {n : Nat} {pos : Pos} (hc : X.calm = true) (h : GDs X es gs) (hn : (assignEach es X.env).length = n := by rfl) (hst : (assignEach es X.env).findIdx? (·.1) = none := by rfl) : GD X (.Tuple es k pos) (dgSeq n gs) :=
  (pg_seq hc h hn hst).weak fun v σ H Q ⟨W, τ, η, θ, x, Qd, r, t, k⟩ => by
    obtain ⟨W2, xs, l2, r2, s, q⟩ := seq_top r t
    cases s with
    | lst e a => exact .inr ⟨_, _, rfl, SqL.of (r2.hold.same _ _ e), by rw [a.length]; exact q.1.h, W2, τ, η, θ, _, _, r2, a, q.2, fun W' σ' H' η' l => k _ _ _ _ (l2.trans l)⟩
    | tup e a => exact .inl ⟨_, _, rfl, SqT.of (r2.hold.same _ _ e), by rw [a.length]; exact q.1.h, W2, τ, η, θ, _, _, r2, a, q.2, fun W' σ' H' η' l => k _ _ _ _ (l2.trans l)⟩
/-- as a comprehension's target -/
theorem gok_seq {K : PySem.W.Frag} {n : Nat} {gs : TGs} {gsd : TGsd} {vs : List Nat} (h : GsOk gs gsd vs) : GOk (fun v σ H Q => gTup K n gs v σ H Q ∨ gUnl K n gs v σ H Q) (dgSeq n gsd) vs := fun W σ τ η θ v x H Q Qd r t k => by
  obtain ⟨W2, xs, l2, r2, s, q⟩ := seq_top r t
  cases s with
  | lst e a => exact .inr ⟨_, _, rfl, SqL.of (r2.hold.same _ _ e), by rw [a.length]; exact q.1.h, h W2 σ τ η θ _ _ H Q Qd r2 a q.2 fun W' σ' H' η' l => k _ _ _ _ (l2.trans l)⟩
  | tup e a => exact .inl ⟨_, _, rfl, SqT.of (r2.hold.same _ _ e), by rw [a.length]; exact q.1.h, h W2 σ τ η θ _ _ H Q Qd r2 a q.2 fun W' σ' H' η' l => k _ _ _ _ (l2.trans l)⟩

/-! ### sorted of ints, in -/
def fSorted : F1 := fun d Q => match d with
  | .list xs => ∃ ns : List Int, xs = ns.map PyData.int ∧ ∀ ms : List Int, ms.Perm ns → ms.Pairwise (· ≤ ·) → Q (.own (ms.map PyData.int))
  | _ => False
theorem cd_sorted : CallD1 X (.builtin "sorted") fSorted := by
  refine ⟨_, cr_sortedI, fun W H σ τ η θ v d Q Qd r p t k => ?_⟩
  unfold fSorted at t
  split at t
  · obtain ⟨a, ys, rfl, e1, e2⟩ := p.list r.hold
    obtain ⟨ns, rfl, t⟩ := t
    rw [DtAll.of_ints e2] at e1
    exact ⟨_, _, rfl, SqL.of e1, fun ms q h1 h2 h3 => giveL r k (DtAll.ints ms) (t ms h1 h2) q h3⟩
  · exact t.elim
end L2.Gd

set_option Elab.async false
set_option linter.all false
set_option maxRecDepth 100000
set_option maxHeartbeats 2000000
namespace L2.Gd
open PySem PySem.Spec PyProof.Rows L2
variable {X : Cx}

/-! ### a def of the text, called -/
structure Cal (P : Program) (w : World) (K : PySem.W.Frag) (mg : Str → Option Value) (base : Heap) (k : Nat) (x : Str) (st : Stmt) (ps : List Str) (sp : SpD) : Prop where
  ex : ∃ (f : Addr) (fd : FuncData), Fun K x x st f fd ∧ FnG P w K mg base CX0 k f fd ps (lSp sp) ∧ mg x = some (.ref f) ∧ Binds K fd ps []
theorem Cal.mono {P : Program} {w : World} {K : PySem.W.Frag} {mg : Str → Option Value} {base : Heap} {j k : Nat} {x : Str} {st : Stmt} {ps : List Str} {sp : SpD} (c : Cal P w K mg base j x st ps sp) (h : j ≤ k) : Cal P w K mg base k x st ps sp := by
  obtain ⟨f, fd, h1, h2, h3, h4⟩ := c.ex
  exact ⟨f, fd, h1, h2.mono h, h3, h4⟩
/-- where a def stands -/
def AtD (K : PySem.W.Frag) (mg : Str → Option Value) (x : Str) (st : Stmt) (ps : List Str) : Prop := ∃ (f : Addr) (fd : FuncData), Fun K x x st f fd ∧ mg x = some (.ref f) ∧ Binds K fd ps []
section
variable {k : Nat} {st : Stmt} {ps ks : List Str} {sp : SpD} {x : Str} {p pos : Pos} {e : Expr} {es : List Expr} {kws : List Keyword} {t tk : TL} {idx : List Nat}
theorem pd_callC (c : Cal X.prog X.w X.K X.mg X.base k x st ps sp) (hgu : X.A.guards = some []) (hr : Room k X.A) (hg : Gl X x)
    (ha : PLn X (e :: es) t) (hdb : (x == ("__debug__" : Str)) = false := by decide) (he : starEach (e :: es) X.env = (false, eval e X.env) :: starEach es X.env := by rfl)
    (hpl : (backTo pos (starEach es X.env)).any (·.1) = false := by rfl) : PD X (.Call (.Name x p) (e :: es) [] pos) (dCall sp t) := by
  obtain ⟨f, fd, h1, h2, h3, h4⟩ := c.ex
  exact pd_call h2 hgu hr hg h3 h1.kp h4 (E := E0) pass0 ha hdb he hpl
theorem pd_callKC (c : Cal X.prog X.w X.K X.mg X.base k x st ps sp) (kb : ∀ (f : Addr) (fd : FuncData), Fun X.K x x st f fd → KBinds X.K fd ps ks (gK (e :: es).length kws.length idx) (gK (e :: es).length kws.length idx)) (hgu : X.A.guards = some []) (hr : Room k X.A) (hg : Gl X x)
    (ha : PLn X (e :: es) t) (hkw : PKd X kws tk) (hi : ∀ i ∈ idx, i < (e :: es).length + kws.length := by decide) (hall : (backToKw pos (keywordEach kws X.env)).all (·.1.isSome) = true := by rfl) (hks : (backToKw pos (keywordEach kws X.env)).filterMap (·.1) = ks := by rfl)
    (hdb : (x == ("__debug__" : Str)) = false := by decide) (he : starEach (e :: es) X.env = (false, eval e X.env) :: starEach es X.env := by rfl)
    (hpl : ((backTo pos (starEach (e :: es) X.env)).any (·.1) || (backToKw pos (keywordEach kws X.env)).any (·.1.isNone)) = false := by rfl) : PD X (.Call (.Name x p) (e :: es) kws pos) (dCallK sp idx t tk) := by
  obtain ⟨f, fd, h1, h2, h3, h4⟩ := c.ex
  exact pd_callK h2 hgu hr hg h3 h1.kp (kb f fd h1) (E := E0) pass0 ha hkw hi hall hks hdb he hpl
theorem pd_callKC0 (c : Cal X.prog X.w X.K X.mg X.base k x st ps sp) (kb : ∀ (f : Addr) (fd : FuncData), Fun X.K x x st f fd → KBinds X.K fd ps ks (gK 0 kws.length idx) (gK 0 kws.length idx)) (hgu : X.A.guards = some []) (hr : Room k X.A) (hg : Gl X x)
    (hkw : PKd X kws tk) (hi : ∀ i ∈ idx, i < kws.length := by decide) (hall : (backToKw pos (keywordEach kws X.env)).all (·.1.isSome) = true := by rfl) (hks : (backToKw pos (keywordEach kws X.env)).filterMap (·.1) = ks := by rfl)
    (hdb : (x == ("__debug__" : Str)) = false := by decide)
    (hpl : ((backTo pos (starEach [] X.env)).any (·.1) || (backToKw pos (keywordEach kws X.env)).any (·.1.isNone)) = false := by rfl) : PD X (.Call (.Name x p) [] kws pos) (dCallK sp idx dNil tk) := by
  obtain ⟨f, fd, h1, h2, h3, h4⟩ := c.ex
  exact pd_callK0 h2 hgu hr hg h3 h1.kp (kb f fd h1) (E := E0) pass0 hkw hi hall hks hdb hpl
end
theorem cal_of {P : Program} {w : World} {K : PySem.W.Frag} {mg : Str → Option Value} {base : Heap} {x : Str} {st : Stmt} {N ps : List Str} {k : Nat} {sp : SpD} {t : TSd} (a : AtD K mg x st ps) (S : FnScope N ps (defScope st))
    (len : ∀ xs Q, sp xs Q → xs.length = ps.length)
    (hbody : ∀ (f : Addr) (cdv : Value) (A : Around) (outer : List PySem.Env) (s : Shared) (H : Hp) (E : XK), A.guards = some [] → Room k (A.deeper (envOfC x (defScope st) s.heap.objs.size f cdv)) →
      SDs (cxOf CX0 P w K mg base N x (defScope st) f cdv A outer s H E).nox (defBody st) t)
    (h : ∀ xs Q, sp xs Q → t { nx := fun _ => Q (.d .none), rt := Q } (xs ++ List.replicate (N.length - xs.length) .no)) : Cal P w K mg base (k + 1) x st ps sp := by
  obtain ⟨f, fd, h1, h2, h3⟩ := a
  exact ⟨f, fd, h1, fn_body h1 S len (hbody f) h, h2, h3⟩

/-! ### the script -/
def isScr (K : PySem.W.Frag) (ns : List Int) : Hp → V → Prop := fun H y => ∃ a, y = .ref a ∧ SqL K H a (ns.map V.int)
def dScr (K : PySem.W.Frag) (i : Nat) (n : Nat) : TD := fun η Q => ∃ ns : List Int, nth η i = .raw (isScr K ns) ∧ Q (.own ((ns.take n).map PyData.int)) η
theorem pd_scr {e c : Expr} {i n : Nat} {p2 pos : Pos} (he : PE X e (tVar i)) (hc : PE X c (tC (.int (n : Nat)))) : PD X (.Subscript e (.Slice none (some c) none p2) pos) (dScr X.K i n) :=
  (pe_slice sl_list he po_none (po_some hc)).weak fun σ H Q ⟨W, τ, η, θ, Qd, r, ⟨ns, e1, t⟩, k⟩ => by
    obtain ⟨o, v, hv, y, rfl, h⟩ := r.at (nth_some e1 (by intro q; cases q))
    obtain ⟨a, rfl, hq⟩ := h H r.hold.same
    refine ⟨_, hv, _, rfl, a, _, rfl, hq, giveL (Qd := fun x => Qd x η) r (fun W' v H' x l => k _ _ _ _ _ l) ?_ t⟩
    have e : cutV (ns.map V.int) none (some (n : Int)) = (ns.take n).map V.int := by
      unfold cutV
      rw [HT.sIx_none, HT.sIx_nat, List.length_map, List.drop_zero, Nat.sub_zero, List.map_take]
      rw [← List.length_map (f := V.int) (as := ns)]
      exact (List.take_eq_take_min).symm
    rw [e]
    exact DtAll.ints _

/-! ### the bag -/
theorem R5.bagAt {W : Wd} {H : Hp} {σ : L2.St} {τ : List V} {η θ : En} {i : Nat} (r : R5 W H σ τ η θ) (e : nth η i = .bag) : ∃ b c, σ[i]? = some (some (.ref b)) ∧ W b = some (.bag c) ∧ BagAt H b c ∧ b ≠ c := by
  obtain ⟨o, v, hv, b, c, e1, e2⟩ := r.at (nth_some e (by intro q; cases q))
  subst e1
  have z := r.hold b _ e2
  refine ⟨b, c, hv, e2, z.2, fun q => ?_⟩
  have := z.1
  rw [← q, e2] at this; cases this
theorem R5.bagStep {W : Wd} {H H' : Hp} {σ : L2.St} {τ : List V} {η θ : En} {b c : Addr} (r : R5 W H σ τ η θ) (e : W b = some (.bag c)) (k : ∀ a, a ≠ b → a ≠ c → H' a = H a) (h : BagAt H' b c) : R5 W H' σ τ η θ := by
  have hc := (r.hold b _ e).1
  refine r.step (Le.refl W) (fun a kd q => ?_) fun a ys w q => ⟨(k a (fun z => by rw [z, e] at w; cases w) (fun z => by rw [z, hc] at w; cases w)).trans q, w⟩
  have z := r.hold a kd q
  cases kd with
  | fix o => exact (k a (fun z => by rw [z, e] at q; cases q) (fun z => by rw [z, hc] at q; cases q)).trans z
  | ext o => exact (k a (fun z => by rw [z, e] at q; cases q) (fun z => by rw [z, hc] at q; cases q)).trans z
  | cell d => exact z
  | bag d =>
    by_cases hab : a = b
    · subst hab
      rw [e] at q; cases q
      exact ⟨hc, h⟩
    · obtain ⟨z1, is, kk, m, z2, z3, z4⟩ := z
      have hac : a ≠ c := fun z => by rw [z, hc] at q; cases q
      have hdb : d ≠ b := fun z => by rw [z, e] at z1; cases z1
      have hdc : d ≠ c := fun z => by rw [z, hc] at z1; cases z1; exact hab rfl
      exact ⟨z1, is, kk, m, (k a hab hac).trans z2, (k d hdb hdc).trans z3, z4⟩
/-- bag[1], bag[2] -/
def dBagK (i : Nat) : TD := fun η Q => nth η i = .bag ∧ ∀ k : Int, 0 ≤ k → Q (.d (.int k)) η
def dBagM (i : Nat) : TD := fun η Q => nth η i = .bag ∧ ∀ k : Int, 0 ≤ k → k < 2147483647 → Q (.d (.int k)) η
section
variable {e c : Expr} {i : Nat} {pos : Pos}
theorem pd_bagK (he : PE X e (tVar i)) (hc : PE X c (tC (.int 1))) (hs : PlainIx c := by intro _ _; rfl) : PD X (.Subscript e c pos) (dBagK i) :=
  (pe_ix ix_list he hc hs).weak fun σ H Q ⟨W, τ, η, θ, Qd, r, ⟨e1, t⟩, k⟩ => by
    obtain ⟨b, c, hv, hw, ⟨is, kk, m, h1, h2, h3, h4, h5, h6⟩, _⟩ := r.bagAt e1
    exact ⟨_, hv, b, _, _, _, rfl, rfl, SqL.of h1, rfl, k _ _ _ _ _ (Le.refl W) (r.pushD (.int _)) (t _ h3)⟩
theorem pd_bagM (he : PE X e (tVar i)) (hc : PE X c (tC (.int 2))) (hs : PlainIx c := by intro _ _; rfl) : PD X (.Subscript e c pos) (dBagM i) :=
  (pe_ix ix_list he hc hs).weak fun σ H Q ⟨W, τ, η, θ, Qd, r, ⟨e1, t⟩, k⟩ => by
    obtain ⟨b, c, hv, hw, ⟨is, kk, m, h1, h2, h3, h4, h5, h6⟩, _⟩ := r.bagAt e1
    exact ⟨_, hv, b, _, _, _, rfl, rfl, SqL.of h1, rfl, k _ _ _ _ _ (Le.refl W) (r.pushD (.int _)) (t _ h4 h5)⟩
def gBagK (i : Nat) : TGd := fun x η Q => nth η i = .bag ∧ match x with
  | .d (.int k) => Need (0 ≤ k) ∧ Q η
  | _ => False
def gBagM (i : Nat) : TGd := fun x η Q => nth η i = .bag ∧ match x with
  | .d (.int k) => Need (0 ≤ k ∧ k < 2147483647) ∧ Q η
  | _ => False
theorem gd_bagK (he : PE X e (tVar i)) (hc : PE X c (tC (.int 1)))
    (ha : ∀ v, assign (.Subscript e c pos) X.env v = (do
      let ov ← holding [v] (eval e X.env)
      let iv ← holding [v, ov] (eval c X.env)
      standAt pos
      holding [v, ov, iv] (setItem ov iv v)
      release [v, ov, iv] []) := by intro _; rfl) : GD X (.Subscript e c pos) (gBagK i) :=
  (pg_sub he hc set_list ha).weak fun v σ H Q ⟨W, τ, η, θ, x, Qd, r, ⟨e1, t⟩, k⟩ => by
    obtain ⟨b, c, hv, hw, ⟨is, kk, m, h1, h2, h3, h4, h5, h6⟩, ne⟩ := r.bagAt e1
    split at t
    · cases r.topD
      exact ⟨_, hv, b, _, _, 1, rfl, rfl, h1, rfl, k _ _ _ _ (Le.refl W) (r.pop.bagStep hw (fun a h _ => upd_ne h) ⟨is, _, m, upd_same, (upd_ne ne.symm).trans h2, t.1.h, h4, h5, h6⟩) t.2⟩
    · exact t.elim
theorem gd_bagM (he : PE X e (tVar i)) (hc : PE X c (tC (.int 2)))
    (ha : ∀ v, assign (.Subscript e c pos) X.env v = (do
      let ov ← holding [v] (eval e X.env)
      let iv ← holding [v, ov] (eval c X.env)
      standAt pos
      holding [v, ov, iv] (setItem ov iv v)
      release [v, ov, iv] []) := by intro _; rfl) : GD X (.Subscript e c pos) (gBagM i) :=
  (pg_sub he hc set_list ha).weak fun v σ H Q ⟨W, τ, η, θ, x, Qd, r, ⟨e1, t⟩, k⟩ => by
    obtain ⟨b, c, hv, hw, ⟨is, kk, m, h1, h2, h3, h4, h5, h6⟩, ne⟩ := r.bagAt e1
    split at t
    · cases r.topD
      exact ⟨_, hv, b, _, _, 2, rfl, rfl, h1, rfl, k _ _ _ _ (Le.refl W) (r.pop.bagStep hw (fun a h _ => upd_ne h) ⟨is, kk, _, upd_same, (upd_ne ne.symm).trans h2, h3, t.1.h.1, t.1.h.2, h6⟩) t.2⟩
    · exact t.elim
end
/-- [cells, k, m] -/
def dMkBag (ta : TL) : TD := fun η Q => ta η fun xs η1 => match xs with
  | [.own cs, .d (.int k), .d (.int m)] => ∃ ns : List Int, cs = ns.map PyData.int ∧ Need (0 ≤ k ∧ 0 ≤ m ∧ m < 2147483647 ∧ (∀ i ∈ ns, 0 ≤ i) ∧ ns.length ≤ 63) ∧ Q .bag η1
  | _ => False
theorem pd_mkBag {es : List Expr} {t : TL} {pos : Pos} (h : PLn X es t) : PD X (.List es pos) (dMkBag t) :=
  (pe_lst h).weak fun σ H Q ⟨W, τ, η, θ, Qd, r, t, k⟩ => by
    refine ⟨W, τ, η, θ, _, r, t, fun W1 vs H1 η1 xs l1 r1 e1 e2 q => ?_⟩
    split at q
    · rename_i cs kk m
      obtain ⟨v1, v2, v3, rfl⟩ : ∃ v1 v2 v3, vs = [v1, v2, v3] := by
        match vs, e1 with
        | [v1, v2, v3], _ => exact ⟨v1, v2, v3, rfl⟩
      obtain ⟨ns, rfl, hn, q⟩ := q
      obtain ⟨n1, n2, n3, n4, n5⟩ := hn.h
      refine ⟨by show 3 ≤ sizeLine; decide, fun p hp => ?_⟩
      have ra : R5 W1 H1 σ ((τ ++ [v1, v2]) ++ [v3]) η1 ((θ ++ [.own (ns.map PyData.int), .d (.int kk)]) ++ [.d (.int m)]) := by simpa using r1
      have rb : R5 W1 H1 σ ((τ ++ [v1]) ++ [v2]) η1 ((θ ++ [.own (ns.map PyData.int)]) ++ [.d (.int kk)]) := by simpa using ra.pop
      cases ra.topD
      cases rb.topD
      have rc := rb.pop
      obtain ⟨hh, ln, o, a, b⟩ := id rc.rel
      have hl := rc.pop.lens
      have hl2 := rc.len
      have ix : (η1 ++ (θ ++ [DV.own (ns.map PyData.int)]))[η1.length + θ.length]? = some (.own (ns.map PyData.int)) := by
        rw [← List.append_assoc, List.getElem?_append_right (by simp)]; simp
      obtain ⟨u, u1, u2, w0, ys, u3, u4⟩ := a _ _ ix
      have u5 : (σ ++ (τ ++ [v1]).map some)[η1.length + θ.length]? = some (some v1) := by
        rw [List.map_append, ← List.append_assoc, List.getElem?_append_right (by simp; omega)]
        have : η1.length + θ.length - (σ ++ τ.map some).length = 0 := by simp; omega
        rw [this]; rfl
      rw [u5] at u1
      cases u1
      have u2 := Option.some.inj u2
      subst u2
      generalize hc : o (η1.length + θ.length) = c at *
      have ncp : c ≠ p := ne_of_none u3 hp
      rw [DtAll.of_ints u4] at u3
      have wp := hh.free hp
      let W' : Wd := wput (wput W1 p (.bag c)) c (.cell p)
      have we : ∀ d, d ≠ p → d ≠ c → W' d = W1 d := fun d h1 h2 => (wput_ne h2).trans (wput_ne h1)
      have wk : ∀ d k, W1 d = some k → W' d = some k := fun d k e => by
        rw [we d (fun z => by rw [z, wp] at e; cases e) (fun z => by rw [z, w0] at e; cases e)]; exact e
      have wpp : W' p = some (.bag c) := (wput_ne ncp.symm).trans wput_same
      have wcc : W' c = some (.cell p) := wput_same
      have same : Same H1 (upd H1 p (.lst [.ref c, .int kk, .int m])) := fun d ob e => (upd_ne (ne_of_none e hp)).trans e
      have le : Le W1 W' := by
        refine ⟨wk, fun d ob e => ?_⟩
        by_cases h1 : d = c
        · subst h1; rw [wcc] at e; cases e
        · by_cases h2 : d = p
          · subst h2; rw [wpp] at e; cases e
          · rw [we d h2 h1] at e; exact e
      have hold : Hold W' (upd H1 p (.lst [.ref c, .int kk, .int m])) := fun d kd e => by
        by_cases h1 : d = c
        · subst h1; rw [wcc] at e; cases e; exact wpp
        · by_cases h2 : d = p
          · subst h2
            rw [wpp] at e; cases e
            exact ⟨wcc, ns, kk, m, upd_same, (upd_ne ncp).trans u3, n1, n2, n3, n4, n5⟩
          · rw [we d h2 h1] at e
            have z := hh d kd e
            cases kd with
            | fix ob => exact same _ _ z
            | ext ob => exact same _ _ z
            | cell x => exact wk _ _ z
            | bag x => obtain ⟨z1, is, k1, m1, z2, z3, z4⟩ := z; exact ⟨wk _ _ z1, is, k1, m1, same _ _ z2, same _ _ z3, z4⟩
      have r0 : R5 W' (upd H1 p (.lst [.ref c, .int kk, .int m])) σ τ η1 θ := by
        have base := rc.pop
        refine ⟨base.len, hold, base.rel.len, o, fun j x e => ?_, fun i j xs ys e3 e4 => ?_⟩
        · have hj := (List.getElem?_eq_some_iff.mp e).1
          have hj2 : j < η1.length + θ.length := by simpa using hj
          obtain ⟨v, e3, e4⟩ := a j x (by rw [← List.append_assoc, List.getElem?_append_left hj]; exact e)
          refine ⟨v, ?_, ?_⟩
          · rw [List.map_append, ← List.append_assoc, List.getElem?_append_left (by simp; omega)] at e3; exact e3
          · cases x with
            | no => trivial
            | d x => obtain ⟨y, e5, e6⟩ := e4; exact ⟨y, e5, Dt.mono le.fx e6⟩
            | own xs =>
              obtain ⟨e5, e6, ys, e7, e8⟩ := e4
              have ne : o j ≠ c := fun z => by
                refine b j (η1.length + θ.length) xs _ (by rw [← List.append_assoc, List.getElem?_append_left hj]; exact e) ix (by omega) ?_
                rw [z, hc]
              exact ⟨e5, by rw [we _ (ne_of_none e7 hp) ne]; exact e6, ys, same _ _ e7, DtAll.mono le.fx e8⟩
            | bag => obtain ⟨b, d, e5, e6⟩ := e4; exact ⟨b, d, e5, wk _ _ e6⟩
            | raw y => obtain ⟨z, e5, e6⟩ := e4; exact ⟨z, e5, fun H' s => e6 H' (Same.trans le.fx s)⟩
        · have h3 := (List.getElem?_eq_some_iff.mp e3).1
          have h4 := (List.getElem?_eq_some_iff.mp e4).1
          exact b i j xs ys (by rw [← List.append_assoc, List.getElem?_append_left h3]; exact e3) (by rw [← List.append_assoc, List.getElem?_append_left h4]; exact e4)
      exact k W' _ _ _ _ (l1.trans le) (r0.push (x := .bag) (fun _ _ => ⟨p, c, rfl, wpp⟩) fun _ q => nomatch q) q
    · exact q.elim
end L2.Gd

set_option Elab.async false
set_option linter.all false
set_option maxRecDepth 100000
set_option maxHeartbeats 2000000
namespace L2.Gd
open PySem PySem.Spec PyProof.Rows L2
variable {X : Cx}

theorem R5.forget {W : Wd} {H : Hp} {σ : L2.St} {τ : List V} {η θ : En} (r : R5 W H σ τ η θ) (j : Nat) : R5 W H σ τ (put η j .no) θ := by
  refine ⟨by rw [put_eq, List.length_set]; exact r.len, r.rel.sub (by rw [put_eq]; simpa using r.rel.len) (fun i => i) (fun i x e => ?_) fun i j _ _ e hij _ _ _ _ => hij e⟩
  by_cases hi : i < η.length
  · rw [put_eq, List.getElem?_append_left (by simpa using hi)] at e
    by_cases hj : j = i
    · subst hj
      rw [List.getElem?_set_self hi] at e
      cases e
      have : j < (σ ++ τ.map some).length := by rw [r.rel.len]; simp; omega
      exact .inl ⟨rfl, _, List.getElem?_eq_getElem this⟩
    · rw [List.getElem?_set_ne hj] at e
      exact .inr ⟨by rw [List.getElem?_append_left hi]; exact e, rfl⟩
  · rw [put_eq, List.getElem?_append_right (by simp; omega), List.length_set] at e
    exact .inr ⟨by rw [List.getElem?_append_right (by omega)]; exact e, rfl⟩
theorem put_put (η : En) (j : Nat) (x y : DV) : put (put η j x) j y = put η j y := by simp only [put_eq]; exact List.set_set ..
theorem nth_put_ne {η : En} {i j : Nat} {x : DV} (h : i ≠ j) : nth (put η j x) i = nth η i := by
  induction η generalizing i j with
  | nil => rfl
  | cons y r ih =>
    cases j with
    | zero =>
      cases i with
      | zero => exact absurd rfl h
      | succ i => rfl
    | succ j =>
      cases i with
      | zero => rfl
      | succ i => exact ih (fun e => h (by rw [e]))
/-- the bag's own loop: the cells are taken until one is great -/
def dBagLoop (i j : Nat) : TSd := fun D η => nth η i = .bag ∧ i ≠ j ∧ D.nx (put η j .no)
theorem canLay_ints : ∀ is : List Int, PyData.canLayAll0 (is.map PyData.int) = true
  | [] => by simp [PyData.canLayAll0]
  | i :: is => by simp [PyData.canLayAll0, PyData.canLay0, canLay_ints is]
theorem depth_ints : ∀ is : List Int, PyData.depthAll (is.map PyData.int) = 0
  | [] => by simp [PyData.depthAll]
  | i :: is => by simp [PyData.depthAll, PyData.depth, depth_ints is]
theorem shp_ints (is : List Int) : SeqAt.shaped (.list (is.map PyData.int)) = true := by
  unfold SeqAt.shaped
  simp [PyData.canLay0, PyData.depth, canLay_ints, depth_ints]
theorem eqv_nil (is : List Int) : PyData.eqv (.list (is.map PyData.int)) (.list []) = is.isEmpty := by cases is <;> simp [PyData.eqv, PyData.eqvAll]
/-- the loop's state, by its cells -/
def BagSt (W : Wd) (η : En) (i : Nat) (n : Nat) (σ : L2.St) (H : Hp) : Prop := ∃ W', Le W W' ∧ R5 W' H σ [] η [] ∧ ∃ (b c : Addr) (is : List Int) (k m : Int), σ[i]? = some (some (.ref b)) ∧ W' b = some (.bag c) ∧ b ≠ c ∧ H b = some (.lst [.ref c, .int k, .int m]) ∧ H c = some (.lst (is.map V.int)) ∧
  0 ≤ k ∧ 0 ≤ m ∧ m < 2147483647 ∧ (∀ i ∈ is, 0 ≤ i) ∧ is.length ≤ 63 ∧ n = is.length
theorem bagSt_of {W : Wd} {η : En} {i : Nat} {σ : L2.St} {H : Hp} (r : R5 W H σ [] η []) (e : nth η i = .bag) : ∃ n, BagSt W η i n σ H := by
  obtain ⟨b, c, hv, hw, ⟨is, k, m, h1, h2, h3, h4, h5, h6, h7⟩, ne⟩ := r.bagAt e
  exact ⟨is.length, W, Le.refl W, r, b, c, is, k, m, hv, hw, ne, h1, h2, h3, h4, h5, h6, h7, rfl⟩
abbrev tBagTest (K : PySem.W.Frag) (i : Nat) : TT := tAnd (tTest (tOp rEq (tOp (rIxL K) (tVar i) (tC (.int 1))) (tC (.int 0)))) (tTest (tOp (rNeD K) (tOp (rIxL K) (tVar i) (tC (.int 0))) (tLst tNil)))
theorem bag_test {K : PySem.W.Frag} {W : Wd} {η : En} {i n : Nat} {σ : L2.St} {H : Hp} {Q : Bool → Hp → Prop} (s : BagSt W η i n σ H) (h : ∀ b H', BagSt W η i n σ H' → (b = true → 0 < n) → Q b H') : tBagTest K i σ H Q := by
  obtain ⟨W', l, r, b, c, is, k, m, hv, hw, ne, h1, h2, h3, h4, h5, h6, h7, hn⟩ := s
  refine ⟨_, hv, b, _, _, _, rfl, rfl, SqL.of h1, rfl, rfl, _, rfl, ?_⟩
  by_cases hk : k = 0
  · have e : decide (V.int k = V.int 0) = true := by rw [hk]; simp
    rw [e]
    refine iteT ⟨_, hv, b, _, _, _, rfl, rfl, SqL.of h1, rfl, Nat.zero_le _, fun p hp => ?_⟩
    have r' : R5 W' (upd H p (.lst [])) σ [] η [] := (R5.pushOwn (xs := []) r hp .nil).pop (τ := []) (θ := [])
    have np : ∀ a o, H a = some o → a ≠ p := fun a o e => ne_of_none e hp
    have h1' : upd H p (.lst []) b = some (.lst [.ref c, .int k, .int m]) := (upd_ne (np _ _ h1)).trans h1
    have h2' : upd H p (.lst []) c = some (.lst (is.map V.int)) := (upd_ne (np _ _ h2)).trans h2
    refine ⟨.list (is.map PyData.int), .list [], .lst (SqL.of h2') (DtAll.dp _ (DtAll.ints is)), .lst (SqL.of upd_same) .nil, shp_ints is, by decide, _, rfl, ?_⟩
    rw [eqv_nil]
    refine h _ _ ⟨W', l, r', b, c, is, k, m, hv, hw, ne, h1', h2', h3, h4, h5, h6, h7, hn⟩ fun e => ?_
    cases is with
    | nil => cases e
    | cons _ _ => rw [hn]; exact Nat.succ_pos _
  · have e : decide (V.int k = V.int 0) = false := decide_eq_false fun q => hk (by injection q)
    rw [e]
    exact iteF (h false H ⟨W', l, r, b, c, is, k, m, hv, hw, ne, h1, h2, h3, h4, h5, h6, h7, hn⟩ fun q => nomatch q)
/-- cell = bag[0].pop(), then bag[1] = cell if .. else 0 -/
theorem bag_pop {K : PySem.W.Frag} {W : Wd} {η : En} {i j n : Nat} {σ : L2.St} {H : Hp} {Q : V → Hp → Prop} (s : BagSt W (put η j .no) i n σ H) (h0 : 0 < n) (h : ∀ (z : Int) H' n', n' < n → 0 ≤ z → BagSt W (put η j .no) i n' σ H' → Q (.int z) H') :
    tBM0 K "list" rPop (tOp (rIxL K) (tVar i) (tC (.int 0))) σ H Q := by
  obtain ⟨W', l, r, b, c, is, k, m, hv, hw, ne, h1, h2, h3, h4, h5, h6, h7, hn⟩ := s
  have hl : is.length - 1 < is.length := by omega
  refine ⟨_, hv, b, _, _, _, rfl, rfl, SqL.of h1, rfl, tyList h2, c, is.map V.int, .int is[is.length - 1], rfl, rfl, h2, by rw [List.length_map, List.getElem?_map, List.getElem?_eq_getElem hl]; rfl, ?_⟩
  have e : (is.map V.int).dropLast = is.dropLast.map V.int := (List.map_dropLast ..).symm
  rw [e]
  have h2' : upd H c (.lst (is.dropLast.map V.int)) c = some (.lst (is.dropLast.map V.int)) := upd_same
  have h1' : upd H c (.lst (is.dropLast.map V.int)) b = some (.lst [.ref c, .int k, .int m]) := (upd_ne ne).trans h1
  have h6' : ∀ i ∈ is.dropLast, 0 ≤ i := fun i hi => h6 i (List.dropLast_subset _ hi)
  have h7' : is.dropLast.length ≤ 63 := by rw [List.length_dropLast]; omega
  refine h _ _ is.dropLast.length (by rw [hn, List.length_dropLast]; omega) (h6 _ (List.getElem_mem hl)) ⟨W', l, r.bagStep hw (fun a _ q => upd_ne q) ⟨is.dropLast, k, m, h1', h2', h3, h4, h5, h6', h7'⟩, b, c, _, k, m, hv, hw, ne, h1', h2', h3, h4, h5, h6', h7', rfl⟩
theorem bag_put {W : Wd} {η : En} {i n : Nat} {σ : L2.St} {H : Hp} {z : Int} {Q : L2.St → Hp → Prop} (s : BagSt W η i n σ H) (hz : 0 ≤ z) (h : ∀ H', BagSt W η i n σ H' → Q σ H') : gSub (tVar i) (tC (.int 1)) rSetL (.int z) σ H Q := by
  obtain ⟨W', l, r, b, c, is, k, m, hv, hw, ne, h1, h2, h3, h4, h5, h6, h7, hn⟩ := s
  have h1' : upd H b (.lst [.ref c, .int z, .int m]) b = some (.lst [.ref c, .int z, .int m]) := upd_same
  have h2' : upd H b (.lst [.ref c, .int z, .int m]) c = some (.lst (is.map V.int)) := (upd_ne ne.symm).trans h2
  exact ⟨_, hv, b, _, _, 1, rfl, rfl, h1, rfl, h _ ⟨W', l, r.bagStep hw (fun a q _ => upd_ne q) ⟨is, z, m, h1', h2', hz, h4, h5, h6, h7⟩, b, c, is, z, m, hv, hw, ne, h1', h2', hz, h4, h5, h6, h7, hn⟩⟩
theorem bagSt_set {W : Wd} {η : En} {i j n : Nat} {σ : L2.St} {H : Hp} {v : V} (s : BagSt W (put η j .no) i n σ H) (hij : i ≠ j) : BagSt W (put η j .no) i n (σ.set j (some v)) H := by
  obtain ⟨W', l, r, b, c, is, k, m, hv, hw, q⟩ := s
  refine ⟨W', l, ?_, b, c, is, k, m, by rw [List.getElem?_set_ne (Ne.symm hij)]; exact hv, hw, q⟩
  have := R5.set (τ := []) (θ := []) (R5.push (x := .raw fun _ y => y = v) r (fun _ _ => ⟨v, rfl, fun _ _ => rfl⟩) fun _ q => nomatch q) j
  have r2 := this.forget j
  rw [put_put, put_put] at r2
  exact r2
abbrev tBagBody (K : PySem.W.Frag) (i j : Nat) : TS := tSeq (tAsg (tBM0 K "list" rPop (tOp (rIxL K) (tVar i) (tC (.int 0)))) (gName j))
  (tAsg (tIf (tTest (tOp (rI0 fun i j => .bl (decide (j < i))) (tVar j) (tOp (rI CPow fun i j => .int (i ^ j.toNat)) (tC (.int 10)) (tC (.int 9))))) (tVar j) (tC (.int 0))) (gSub (tVar i) (tC (.int 1)) rSetL))
theorem bag_body {K : PySem.W.Frag} {W : Wd} {η : En} {i j n : Nat} {σ : L2.St} {H : Hp} {D : Ends} (hj : j < σ.length) (hij : i ≠ j) (s : BagSt W (put η j .no) i n σ H) (h0 : 0 < n) (h : ∀ σ' H' n', n' < n → BagSt W (put η j .no) i n' σ' H' → D.nx σ' H') : tBagBody K i j D σ H := by
  refine bag_pop s h0 fun z H1 n1 hn hz s1 => ?_
  have s2 := bagSt_set (v := .int z) s1 hij
  have hv : (σ.set j (some (V.int z)))[j]? = some (some (.int z)) := List.getElem?_set_self hj
  dsimp only [gName, tAsg, tIf, tTest, tOp, tVar, rI0, rI, tC]
  refine ⟨.int z, hv, _, _, rfl, rfl, ⟨by decide, by decide, by decide⟩, _, _, rfl, rfl, _, rfl, ?_⟩
  by_cases hc : (10 : Int) ^ (9 : Int).toNat < z
  · rw [decide_eq_true hc]
    exact iteT ⟨_, hv, bag_put s2 hz fun H' s3 => h _ _ n1 hn s3⟩
  · rw [decide_eq_false hc]
    exact iteF (bag_put s2 (Int.le_refl 0) fun H' s3 => h _ _ n1 hn s3)
theorem bagloop_core {K : PySem.W.Frag} {i j : Nat} {tb : TS} (hb : ∀ (W : Wd) (η : En) (n : Nat) (σ : L2.St) (H : Hp) (D : Ends), i ≠ j → j < σ.length → BagSt W (put η j .no) i n σ H → 0 < n → (∀ σ' H' n', n' < n → BagSt W (put η j .no) i n' σ' H' → D.nx σ' H') → tb D σ H)
    {N : Nat} {D : Ends} {σ : L2.St} {H : Hp} (hj : j < N) (hN : ∀ σ H η W, R5 W H σ [] η [] → lS (dBagLoop i j) D σ H → True) (h : lS (dBagLoop i j) D σ H) (hl : σ.length = N) : tWhile (tBagTest K i) tb D σ H := by
  obtain ⟨W, η, Dd, r, ⟨e1, hij, t⟩, k⟩ := h
  have r1 := r.forget j
  obtain ⟨n0, s0⟩ := bagSt_of r1 ((nth_put_ne hij).trans e1)
  have len : ∀ {n : Nat} {σ : L2.St} {H : Hp}, BagSt W (put η j .no) i n σ H → σ.length = η.length := fun s => by
    obtain ⟨_, _, r, _⟩ := s
    have := r.len
    rw [put_eq, List.length_set] at this
    exact this
  refine ⟨fun m σ H => BagSt W (put η j .no) i m σ H, ⟨n0, s0⟩, fun m σ1 H1 s1 => ?_⟩
  refine bag_test s1 fun b H2 s2 hb2 => ?_
  cases b with
  | true =>
    refine iteT ⟨fun σ' H' => ∃ m', m' < m ∧ BagSt W (put η j .no) i m' σ' H', fun σ' H' z => z, ?_⟩
    refine hb W η m σ1 H2 _ hij (by rw [len s2, ← r.len, hl]; exact hj) s2 (hb2 rfl) fun σ' H' n' hn s' => ⟨n', hn, s'⟩
  | false =>
    obtain ⟨W', l, r', _⟩ := s2
    exact iteF (k.nx _ _ _ _ l r' t)
/-- σ's length is known within a body -/
theorem _root_.L2.PS.weakL {X : Cx} {e : Stmt} {t t' : TS} (h : PS X e t) (w : ∀ D σ H, σ.length = X.N.length → t' D σ H → t D σ H) : PS X e t' := ⟨fun pins s σ H D I q => h.run pins s σ H D I (w D σ H I.len q)⟩
theorem sd_bagLoop {c : Expr} {body : List Stmt} {i j : Nat} {pos : Pos} (hp : PassesOwn (model X.prog X.w) X.A X.env X.xe) (hc : PT X c (tBagTest X.K i)) (hb : PSs X body (tBagBody X.K i j)) (hj : j < X.N.length) : SD X (.While c body [] pos) (dBagLoop i j) :=
  (ps_while hp hc hb).weakL fun D σ H hl h => bagloop_core (fun W η n σ H D hij hj s h0 h => bag_body hj hij s h0 h) hj (fun _ _ _ _ _ _ => trivial) h hl
end L2.Gd

set_option Elab.async false
set_option linter.all false
set_option maxRecDepth 100000
set_option maxHeartbeats 2000000
namespace L2.Gd
open PySem PySem.Spec PyProof.Rows L2
variable {X : Cx}
theorem units65 {A : Around} {k : Nat} (hr : Room k A) : A.units + 65 < cLine := by have := hr.un; omega
section
variable {i j : Nat} {e1 e2 e3 e4 : Expr} {j1 j2 j3 : Nat} {p1 p2 p3 p4 p5 p6 p7 p8 p9 : Pos}
theorem bagTestD (hu : X.A.units + 64 < cLine) (h1 : PE X e1 (tVar i)) (h2 : PE X e2 (tVar i)) :
    PT X (.BoolOp .And [.Compare (.Subscript e1 (.Constant (.int 1) j1 p1) p2) [.Eq] [.Constant (.int 0) j2 p3] p4, .Compare (.Subscript e2 (.Constant (.int 0) j3 p5) p6) [.NotEq] [.List [] p7] p8] p9) (tBagTest X.K i) :=
  PW.pt (pw_and (pt_cmpR op_eq (pe_ix ix_list h1 pe_int (by intro _ _; rfl)) pe_int (nomark _)) (pw_and1 (pt_cmpR (op_neD hu) (pe_ix ix_list h2 pe_int (by intro _ _; rfl)) (pe_lst pa_nil) (nomark _))))
end
/-- law's contract: a list of at most 63 ints comes in, True comes out -/
def spLaw (K : PySem.W.Frag) : SpD := fun xs Q => ∃ ns : List Int, ns.length ≤ 63 ∧ xs = [.raw (isScr K ns)] ∧ Q (.d (.bool true))
theorem spLaw_len {K : PySem.W.Frag} : ∀ xs Q, spLaw K xs Q → xs.length = 1 := fun xs Q ⟨_, _, e, _⟩ => by rw [e]; rfl
theorem law_start {K : PySem.W.Frag} {H : Hp} {a : Addr} {ns : List Int} {E : XK} (hl : ns.length ≤ 63) (hS : SqL K H a (ns.map V.int)) : lSp (spLaw K) [.ref a] H (fun v _ => v = .bl true) E := by
  let W : Wd := fun b => (H b).map Kd.fix
  have hW : fx W = H := by
    funext b
    unfold fx
    show (match (H b).map Kd.fix with | some (.fix o) => some o | _ => none) = H b
    cases H b <;> rfl
  have hh : Hold W H := fun b k e => by
    have e' : (H b).map Kd.fix = some k := e
    cases q : H b with
    | none => rw [q] at e'; cases e'
    | some o => rw [q] at e'; cases e'; exact q
  refine ⟨W, [.raw (isScr K ns)], fun x => x = .d (.bool true), ?_, ⟨ns, hl, rfl, rfl⟩, fun W' v H' x l r q => ?_⟩
  · exact (Rel.nil hh).push (y := some (.ref a)) (x := .raw (isScr K ns)) (fun _ => ⟨.ref a, rfl, fun H' s => ⟨a, rfl, by rw [hW] at s; exact s.seq hS⟩⟩) fun _ q => nomatch q
  · subst q
    have h := R5.topD (σ := []) (τ := []) (η := []) (θ := []) (v := v) (d := .bool true) ⟨rfl, r⟩
    cases h
    rfl
end L2.Gd

set_option Elab.async false
set_option linter.all false
set_option maxRecDepth 100000
set_option maxHeartbeats 2000000
namespace L2.Gd
open PySem PySem.Spec PyProof.Rows L2
/-! ### loops and comprehensions by invariants -/
theorem for_inv {g : TGd} {tb : TSd} {D : EndsD} (I : List PyData → En → Prop) {ds : List PyData} {η : En} (h0 : I ds η)
    (hs : ∀ d ds η, I (d :: ds) η → ∀ Nx : En → Prop, (∀ η', I ds η' → Nx η') → g (.d d) η fun η1 => tb { nx := Nx, rt := D.rt, bk := D.nx, ct := Nx } η1)
    (he : ∀ η, I [] η → D.nx η) : Need (forRec g tb D ds η) := by
  refine ⟨?_⟩
  induction ds generalizing η with
  | nil => exact he η h0
  | cons d ds ih => exact hs d ds η h0 _ fun η' h' => ih h'
/-- by the items already taken -/
theorem for_pre {g : TGd} {tb : TSd} {D : EndsD} (I : List PyData → En → Prop) {ds : List PyData} {η : En} (h0 : I [] η)
    (hs : ∀ pre d post η, ds = pre ++ d :: post → I pre η → ∀ Nx : En → Prop, (∀ η', I (pre ++ [d]) η' → Nx η') → g (.d d) η fun η1 => tb { nx := Nx, rt := D.rt, bk := D.nx, ct := Nx } η1)
    (he : ∀ η, I ds η → D.nx η) : Need (forRec g tb D ds η) :=
  for_inv (fun rest η => ∃ pre, ds = pre ++ rest ∧ I pre η) ⟨[], rfl, h0⟩ (fun d r η ⟨pre, e, h⟩ Nx k => hs pre d r η e h Nx fun η' h' => k η' ⟨pre ++ [d], by rw [e]; simp, h'⟩)
    fun η ⟨pre, e, h⟩ => he η (by rw [e]; simpa using h)
theorem comp_inv {vs : List Nat} {ηb : En} {g : TGd} {tt : TB} {te : TD} {K : List PyData → Prop} (I : List PyData → List PyData → Prop) {ds acc : List PyData} (h0 : I ds acc)
    (hs : ∀ d ds acc, I (d :: ds) acc → ∀ C : List PyData → Prop, (∀ acc', I ds acc' → C acc') → g (.d d) ηb fun η2 => tt η2 fun b η3 => Br b (te η3 fun y η4 => toD y fun z => Need (wipeD η4 vs = ηb) ∧ C (acc ++ [z])) (Need (wipeD η3 vs = ηb) ∧ C acc))
    (he : ∀ acc, I [] acc → K acc) : Need (compRec vs ηb g tt te K ds acc) := by
  refine ⟨?_⟩
  induction ds generalizing acc with
  | nil => exact he acc h0
  | cons d ds ih => exact hs d ds acc h0 _ fun acc' h' => ih h'
inductive All2 {α β : Type} (R : α → β → Prop) : List α → List β → Prop
  | nil : All2 R [] []
  | cons {x y xs ys} : R x y → All2 R xs ys → All2 R (x :: xs) (y :: ys)
theorem All2.app {α β : Type} {R : α → β → Prop} {xs : List α} {ys : List β} {x : α} {y : β} (h : All2 R xs ys) (r : R x y) : All2 R (xs ++ [x]) (ys ++ [y]) := by
  induction h with
  | nil => exact .cons r .nil
  | cons a _ ih => exact .cons a ih
theorem All2.eq {α β : Type} {f : α → β} {xs : List α} {ys : List β} (h : All2 (fun x y => y = f x) xs ys) : ys = xs.map f := by
  induction h with
  | nil => rfl
  | cons a _ ih => rw [a, ih]; rfl
theorem All2.len {α β : Type} {R : α → β → Prop} {xs : List α} {ys : List β} (h : All2 R xs ys) : xs.length = ys.length := by
  induction h with
  | nil => rfl
  | cons _ _ ih => simp [ih]
/-- the items that p keeps give one each, as R says -/
theorem comp_rel {vs : List Nat} {ηb : En} {g : TGd} {tt : TB} {te : TD} {K : List PyData → Prop} (p : PyData → Bool) (R : PyData → PyData → Prop) {ds : List PyData}
    (hs : ∀ d ∈ ds, ∀ (C : PyData → Prop) (F : Prop), (p d = true → ∀ z, R d z → C z) → (p d = false → F) → g (.d d) ηb fun η2 => tt η2 fun b η3 => Br b (te η3 fun y η4 => toD y fun z => Need (wipeD η4 vs = ηb) ∧ C z) (Need (wipeD η3 vs = ηb) ∧ F))
    (he : ∀ zs : List PyData, All2 R (ds.filter p) zs → K zs) : Need (compRec vs ηb g tt te K ds []) := by
  refine comp_inv (fun rest acc => ∃ pre, ds = pre ++ rest ∧ All2 R (pre.filter p) acc) ⟨[], rfl, .nil⟩ (fun d r acc ⟨pre, e, h⟩ C k => ?_) fun acc ⟨pre, e, h⟩ => he acc (by rw [e]; simpa using h)
  refine hs d (by rw [e]; simp) (fun z => C (acc ++ [z])) (C acc) (fun hp z hz => k _ ⟨pre ++ [d], by rw [e]; simp, ?_⟩) fun hp => k _ ⟨pre ++ [d], by rw [e]; simp, ?_⟩
  · rw [List.filter_append, List.filter_cons_of_pos hp]
    exact h.app hz
  · rw [List.filter_append, List.filter_cons_of_neg (by simp [hp])]
    simpa using h
theorem comp_fm {vs : List Nat} {ηb : En} {g : TGd} {tt : TB} {te : TD} {K : List PyData → Prop} (p : PyData → Bool) (f : PyData → PyData) {ds : List PyData}
    (hs : ∀ d ∈ ds, ∀ (C : PyData → Prop) (F : Prop), (p d = true → C (f d)) → (p d = false → F) → g (.d d) ηb fun η2 => tt η2 fun b η3 => Br b (te η3 fun y η4 => toD y fun z => Need (wipeD η4 vs = ηb) ∧ C z) (Need (wipeD η3 vs = ηb) ∧ F))
    (he : K ((ds.filter p).map f)) : Need (compRec vs ηb g tt te K ds []) :=
  comp_rel p (fun d z => z = f d) (fun d hd C F h1 h2 => hs d hd C F (fun hp => h1 hp _ rfl) h2) fun zs h => by rw [h.eq]; exact he
theorem filter_yes {α : Type} (xs : List α) : xs.filter (fun _ => true) = xs := by simp
theorem comp_map {vs : List Nat} {ηb : En} {g : TGd} {tt : TB} {te : TD} {K : List PyData → Prop} (f : PyData → PyData) {ds : List PyData}
    (hs : ∀ d ∈ ds, ∀ (C : PyData → Prop) (F : En → Prop), C (f d) → g (.d d) ηb fun η2 => tt η2 fun b η3 => Br b (te η3 fun y η4 => toD y fun z => Need (wipeD η4 vs = ηb) ∧ C z) (F η3))
    (he : K (ds.map f)) : Need (compRec vs ηb g tt te K ds []) :=
  comp_fm (fun _ => true) f (fun d hd C F h1 _ => hs d hd C (fun η3 => Need (wipeD η3 vs = ηb) ∧ F) (h1 rfl)) (by rw [filter_yes]; exact he)
theorem comp_all {vs : List Nat} {ηb : En} {g : TGd} {tt : TB} {te : TD} {K : List PyData → Prop} (R : PyData → PyData → Prop) {ds : List PyData}
    (hs : ∀ d ∈ ds, ∀ (C : PyData → Prop) (F : En → Prop), (∀ z, R d z → C z) → g (.d d) ηb fun η2 => tt η2 fun b η3 => Br b (te η3 fun y η4 => toD y fun z => Need (wipeD η4 vs = ηb) ∧ C z) (F η3))
    (he : ∀ zs, All2 R ds zs → K zs) : Need (compRec vs ηb g tt te K ds []) :=
  comp_rel (fun _ => true) R (fun d hd C F h1 _ => hs d hd C (fun η3 => Need (wipeD η3 vs = ηb) ∧ F) (h1 rfl)) (fun zs h => he zs (by rw [filter_yes] at h; exact h))
end L2.Gd

set_option Elab.async false
set_option linter.all false
set_option maxRecDepth 100000
set_option maxHeartbeats 2000000
namespace L2.Gd
open PySem PySem.Spec PyProof.Rows L2
/-! ### data of a known size: what equality and repr ask -/
structure Fit (k n : Nat) (d : PyData) : Prop where
  cl : d.canLay0 = true
  sh : d.showable = true
  nd : d.hasDict = false
  dp : d.depth ≤ k
  ln : d.shown.length ≤ n
theorem Fit.mono {k k' n n' : Nat} {d : PyData} (f : Fit k n d) (h : k ≤ k') (h' : n ≤ n') : Fit k' n' d := ⟨f.cl, f.sh, f.nd, Nat.le_trans f.dp h, Nat.le_trans f.ln h'⟩
theorem Fit.shp {k n : Nat} {d : PyData} (f : Fit k n d) (h : k ≤ 60 := by decide) : shp d := by
  have h1 := f.dp
  show (d.canLay0 && decide (d.depth ≤ 64)) = true
  rw [f.cl, decide_eq_true (by omega)]
  rfl
theorem Fit.rp {k n : Nat} {d : PyData} (f : Fit k n d) (h : k ≤ 60 := by decide) (h' : n ≤ 1000000 := by decide) : RpOk d := ⟨f.sh, f.nd, Nat.le_trans f.dp h, Nat.le_trans f.ln h'⟩
theorem Fit.eqv {k n : Nat} {d : PyData} (f : Fit k n d) : PyData.eqv d d = true := PySem.SeqAt.eqv_refl d f.cl
theorem Fit.int {i : Int} (h : i.natAbs < 10 ^ 20) : Fit 0 30 (.int i) := by
  have h2 : i.natAbs.log2 < 1920 := by
    rcases Nat.eq_zero_or_pos i.natAbs with e | e
    · rw [e]; decide
    · have : i.natAbs.log2 < 70 := (Nat.log2_lt (by omega)).mpr (Nat.lt_of_lt_of_le h (by decide))
      omega
  refine ⟨by simp [PyData.canLay0], by simp [PyData.showable, h2], by simp [PyData.hasDict], by simp [PyData.depth], ?_⟩
  have := int_text_length_le10 (k := 20) (by decide) h
  show (PyData.shown (.int i)).length ≤ 30
  rw [PyData.shown]
  show (Str.ofString (toString i)).length ≤ 30
  rw [PySem.ofString_length]
  omega
theorem Fit.bool {b : Bool} : Fit 0 5 (.bool b) := by
  refine ⟨by simp [PyData.canLay0], by simp [PyData.showable], by simp [PyData.hasDict], by simp [PyData.depth], ?_⟩
  rw [PyData.shown]
  cases b <;> decide
theorem Fit.none : Fit 0 5 .none := by
  refine ⟨by simp [PyData.canLay0], by simp [PyData.showable], by simp [PyData.hasDict], by simp [PyData.depth], ?_⟩
  rw [PyData.shown]
  decide
theorem Fit.str {x : Str} {n : Nat} (h : PyData.strOk x = true) (hn : (reprText x).length ≤ n) : Fit 0 n (.str x) := by
  refine ⟨by simpa [PyData.canLay0] using h, by simp [PyData.showable], by simp [PyData.hasDict], by simp [PyData.depth], ?_⟩
  rw [PyData.shown]
  exact hn
theorem fit_all {k n : Nat} : ∀ {xs : List PyData}, (∀ x ∈ xs, Fit k n x) → PyData.canLayAll0 xs = true ∧ PyData.showableAll xs = true ∧ PyData.hasDictAll xs = false ∧ PyData.depthAll xs ≤ k ∧ piled (PyData.shownAll xs) ≤ xs.length * (n + 2) ∧ (PyData.shownAll xs).length = xs.length
  | [], _ => by
    refine ⟨by simp [PyData.canLayAll0], by simp [PyData.showableAll], by simp [PyData.hasDictAll], by simp [PyData.depthAll], ?_, ?_⟩
    · rw [PyData.shownAll]; simp [piled]
    · rw [PyData.shownAll]; rfl
  | x :: xs, h => by
    obtain ⟨h1, h2, h3, h4, h5, h6⟩ := fit_all (xs := xs) fun y hy => h y (List.mem_cons_of_mem _ hy)
    have f := h x List.mem_cons_self
    refine ⟨by simp [PyData.canLayAll0, h1, f.cl], by simp [PyData.showableAll, h2, f.sh], by simp [PyData.hasDictAll, h3, f.nd], ?_, ?_, ?_⟩
    · rw [PyData.depthAll]; exact Nat.max_le.mpr ⟨f.dp, h4⟩
    · rw [PyData.shownAll, piled_cons, List.length_cons, Nat.succ_mul]
      have := f.ln
      omega
    · rw [PyData.shownAll, List.length_cons, List.length_cons, h6]
theorem list_ln (ts : List Str) : (listText ts).length ≤ piled ts + 2 := by
  have app : ∀ a b : Str, (a ++ b).length = a.length + b.length := fun a b => strLen_append a b
  show (textFrom 0 "[" ts ++ "]").length ≤ _
  cases ts with
  | nil => show (textFrom 0 "[" [] ++ "]").length ≤ 2; decide
  | cons t r =>
    rw [app]
    show (textFrom 1 ("[" ++ (if 0 > 0 then ", " else "" : String) ++ t) r).length + _ ≤ _
    rw [textFrom_length_pos r 1 _ (by decide), app, app, piled_cons]
    have e1 : (("[" : Str)).length = 1 := by decide
    have e2 : ((((if 0 > 0 then ", " else "") : String) : Str)).length = 0 := by decide
    have e3 : (("]" : Str)).length = 1 := by decide
    omega
theorem tuple_ln (ts : List Str) : (tupleText ts).length ≤ piled ts + 3 := by
  have app : ∀ a b : Str, (a ++ b).length = a.length + b.length := fun a b => strLen_append a b
  show (("(" : Str) ++ Str.join ", " ts ++ (if ts.length == 1 then ",)" else ")" : String)).length ≤ _
  rw [app, app]
  have e1 : (("(" : Str)).length = 1 := by decide
  have e2 : ((((if ts.length == 1 then ",)" else ")") : String) : Str)).length ≤ 2 := by
    split <;> decide
  have e3 : (Str.join ", " ts).length ≤ piled ts := by
    by_cases h : ts = []
    · subst h; decide
    · have := join_length_add ts h; omega
  omega
theorem Fit.list {k n m : Nat} {xs : List PyData} (h : ∀ x ∈ xs, Fit k n x) (hm : xs.length ≤ m) : Fit (k + 1) (m * (n + 2) + 3) (.list xs) := by
  obtain ⟨h1, h2, h3, h4, h5, h6⟩ := fit_all h
  refine ⟨by simpa [PyData.canLay0] using h1, by simpa [PyData.showable] using h2, by simpa [PyData.hasDict] using h3, by rw [PyData.depth]; omega, ?_⟩
  rw [PyData.shown]
  have := list_ln (PyData.shownAll xs)
  have : xs.length * (n + 2) ≤ m * (n + 2) := Nat.mul_le_mul_right _ hm
  omega
theorem Fit.tuple {k n m : Nat} {xs : List PyData} (h : ∀ x ∈ xs, Fit k n x) (hm : xs.length ≤ m) : Fit (k + 1) (m * (n + 2) + 3) (.tuple xs) := by
  obtain ⟨h1, h2, h3, h4, h5, h6⟩ := fit_all h
  refine ⟨by simpa [PyData.canLay0] using h1, by simpa [PyData.showable] using h2, by simpa [PyData.hasDict] using h3, by rw [PyData.depth]; omega, ?_⟩
  rw [PyData.shown]
  have := tuple_ln (PyData.shownAll xs)
  have : xs.length * (n + 2) ≤ m * (n + 2) := Nat.mul_le_mul_right _ hm
  omega
/-! ### ints -/
abbrev zints (is : List Int) : List PyData := is.map PyData.int
theorem ints_fit {is : List Int} (h : ∀ i ∈ is, i.natAbs < 10 ^ 20) : ∀ x ∈ zints is, Fit 0 30 x := fun x hx => by
  obtain ⟨i, hi, rfl⟩ := List.mem_map.mp hx
  exact Fit.int (h i hi)
theorem eqvAll_ints : ∀ is js : List Int, PyData.eqvAll (zints is) (zints js) = decide (is = js)
  | [], [] => by simp [PyData.eqvAll]
  | [], _ :: _ => by simp [PyData.eqvAll]
  | _ :: _, [] => by simp [PyData.eqvAll]
  | i :: is, j :: js => by
    have := eqvAll_ints is js
    simp only [zints, List.map_cons] at *
    rw [PyData.eqvAll, this, PyData.eqv, Bool.eq_iff_iff]
    simp
theorem eqv_int (i j : Int) : PyData.eqv (.int i) (.int j) = decide (i = j) := by rw [PyData.eqv, Bool.eq_iff_iff]; simp
theorem eqv_lists (is js : List Int) : PyData.eqv (.list (zints is)) (.list (zints js)) = decide (is = js) := by simp [PyData.eqv, eqvAll_ints]
theorem eqv_tuples (is js : List Int) : PyData.eqv (.tuple (zints is)) (.tuple (zints js)) = decide (is = js) := by simp [PyData.eqv, eqvAll_ints]
theorem eqv_str (x y : Str) : PyData.eqv (.str x) (.str y) = decide (x = y) := by rw [PyData.eqv, Bool.eq_iff_iff]; simp
/-! ### places in lists -/
theorem atI_of {xs : List PyData} {r : Int} (h1 : 0 ≤ r) (h2 : r < xs.length) : ∃ y, L2.atI xs r = some y ∧ y ∈ xs ∧ xs[r.toNat]? = some y := by
  have hl : r.toNat < xs.length := by omega
  refine ⟨xs[r.toNat], ?_, List.getElem_mem hl, List.getElem?_eq_getElem hl⟩
  unfold L2.atI ixN
  rw [if_pos h1, if_pos h2]
  exact List.getElem?_eq_getElem hl
theorem ix_in {xs : List PyData} {r : Int} {P : PyData → Prop} (h1 : 0 ≤ r) (h2 : r < xs.length) (h : ∀ y ∈ xs, P y) : ∃ y, L2.atI xs r = some y ∧ P y := by
  obtain ⟨y, e, m, _⟩ := atI_of h1 h2
  exact ⟨y, e, h y m⟩
end L2.Gd

set_option Elab.async false
set_option linter.all false
set_option maxRecDepth 100000
set_option maxHeartbeats 2000000
namespace L2.Gd
open PySem PySem.Spec PyProof.Rows L2
/-! ### lists of ints, by place -/
theorem ixN_nat {n k : Nat} (h : k < n) : ixN n (k : Int) = some k := by
  unfold ixN
  rw [if_pos (Int.natCast_nonneg k), if_pos (by omega), Int.toNat_natCast]
theorem ixN_neg1 {n : Nat} (h : 0 < n) : ixN n (-1) = some (n - 1) := by
  unfold ixN
  rw [if_neg (by decide), if_pos (by omega)]
  congr 1
  omega
theorem atI_nat {α : Type} {xs : List α} {k : Nat} {y : α} (h : xs[k]? = some y) : L2.atI xs (k : Int) = some y := by
  have hk : k < xs.length := (List.getElem?_eq_some_iff.mp h).1
  unfold L2.atI
  rw [ixN_nat hk]
  exact h
theorem z_get {is : List Int} {k : Nat} (h : k < is.length) : (zints is)[k]? = some (.int (is.getD k 0)) := by
  unfold zints
  rw [List.getElem?_map, List.getElem?_eq_getElem h, List.getD_eq_getElem?_getD, List.getElem?_eq_getElem h]
  rfl
theorem atI_z {is : List Int} {k : Nat} (h : k < is.length) : L2.atI (zints is) (k : Int) = some (.int (is.getD k 0)) := atI_nat (z_get h)
theorem atI_z1 {is : List Int} (h : 0 < is.length) : L2.atI (zints is) (-1) = some (.int (is.getD (is.length - 1) 0)) := by
  unfold L2.atI
  rw [ixN_neg1 (by simpa using h)]
  have : (zints is).length - 1 = is.length - 1 := by simp
  rw [this]
  exact z_get (by omega)
theorem z_len (is : List Int) : (zints is).length = is.length := by simp
theorem mem_z {is : List Int} {y : PyData} (h : y ∈ zints is) : ∃ i ∈ is, y = .int i := by
  obtain ⟨i, hi, rfl⟩ := List.mem_map.mp h
  exact ⟨i, hi, rfl⟩
theorem set_z (is : List Int) (j : Nat) (v : Int) : (zints is).set j (.int v) = zints (is.set j v) := by unfold zints; rw [List.map_set]
theorem app_z (is js : List Int) : zints is ++ zints js = zints (is ++ js) := by unfold zints; rw [List.map_append]
theorem one_z (is : List Int) (j : Int) : zints is ++ [.int j] = zints (is ++ [j]) := by unfold zints; rw [List.map_append]; rfl
theorem rev_z (is : List Int) : (zints is).reverse = zints is.reverse := by unfold zints; rw [List.map_reverse]
theorem cut_map {α β : Type} (f : α → β) (xs : List α) (lo hi : Option Int) : cut (xs.map f) lo hi = (cut xs lo hi).map f := by
  unfold cut
  rw [List.length_map, List.map_take, List.map_drop]
theorem cut_z (is : List Int) (lo hi : Option Int) : cut (zints is) lo hi = zints (cut is lo hi) := cut_map _ _ _ _
theorem cut_sub {α : Type} {xs : List α} {lo hi : Option Int} {x : α} (h : x ∈ cut xs lo hi) : x ∈ xs := List.mem_of_mem_drop (List.mem_of_mem_take h)
theorem cut_le {α : Type} (xs : List α) (lo hi : Option Int) : (cut xs lo hi).length ≤ xs.length := by
  unfold cut
  rw [List.length_take, List.length_drop]
  omega
/-- xs[-k:] -/
theorem cut_last {α : Type} (xs : List α) (k : Nat) (hk : 0 < k) : cut xs (some (-(k : Int))) none = xs.drop (xs.length - k) := by
  unfold cut
  have e : HT.sIx xs.length 0 (some (-(k : Int))) = xs.length - k := by
    show (if (-(k : Int)) < 0 then (-(k : Int) + (xs.length : Int)).toNat else _) = _
    rw [if_pos (by omega)]
    omega
  rw [e, HT.sIx_none]
  exact List.take_of_length_le (by rw [List.length_drop]; omega)
theorem cut_from {α : Type} (xs : List α) (k : Nat) : cut xs (some (k : Int)) none = xs.drop k := by
  unfold cut
  rw [HT.sIx_nat, HT.sIx_none]
  by_cases h : k ≤ xs.length
  · rw [Nat.min_eq_left h]
    exact List.take_of_length_le (by rw [List.length_drop]; omega)
  · rw [Nat.min_eq_right (by omega), List.drop_length, List.drop_eq_nil_of_le (by omega), List.take_nil]
theorem cut_to {α : Type} (xs : List α) (k : Nat) : cut xs none (some (k : Int)) = xs.take k := by
  unfold cut
  rw [HT.sIx_nat, HT.sIx_none, List.drop_zero, Nat.sub_zero]
  by_cases h : k ≤ xs.length
  · rw [Nat.min_eq_left h]
  · rw [Nat.min_eq_right (by omega), List.take_length, List.take_of_length_le (by omega)]
theorem getD_mem {is : List Int} {k : Nat} (h : k < is.length) : is.getD k 0 ∈ is := by
  rw [List.getD_eq_getElem?_getD, List.getElem?_eq_getElem h]
  exact List.getElem_mem h
theorem enumD_map (xs : List PyData) : ∀ k : Nat, enumD k xs = (List.range xs.length).map fun j => .tuple [.int ((k + j : Nat) : Int), xs.getD j .none] := by
  induction xs with
  | nil => intro k; rfl
  | cons x r ih =>
    intro k
    rw [List.length_cons, List.range_succ_eq_map, List.map_cons, List.map_map]
    show (.tuple [.int (k : Int), x] : PyData) :: enumD (k + 1) r = _
    rw [ih (k + 1)]
    congr 1
    apply List.map_congr_left
    intro j _
    show _ = (.tuple [.int ((k + (j + 1) : Nat) : Int), r.getD j .none] : PyData)
    rw [show k + 1 + j = k + (j + 1) by omega]
theorem z_getD {is : List Int} {k : Nat} (h : k < is.length) : (zints is).getD k .none = .int (is.getD k 0) := by
  rw [List.getD_eq_getElem?_getD, z_get h]
  rfl
/-- a list's places as ints -/
abbrev nints (ks : List Nat) : List PyData := ks.map fun (k : Nat) => .int (k : Int)
theorem rng0 (n : Nat) : rng 0 n = nints (List.range n) := by
  unfold rng nints
  apply List.map_congr_left
  intro k _
  rw [Int.zero_add]
theorem mem_set {is : List Int} {j : Nat} {v x : Int} (h : x ∈ is.set j v) : x ∈ is ∨ x = v := List.mem_or_eq_of_mem_set h
theorem all_rep (n : Nat) : (List.replicate n true).all id = true := by simp
theorem rng_ok {n : Nat} (h : n ≤ 1000000) : -(2 ^ 62) ≤ (n : Int) ∧ (n : Int) < 2 ^ 62 := by omega
theorem shp_nil : shp (.list []) := (Fit.list (k := 0) (n := 0) (m := 0) (fun x hx => absurd hx List.not_mem_nil) (Nat.le_refl _)).shp
theorem atI_zi {is : List Int} {i : Int} (k : Nat) (e : i = (k : Int)) (h : k < is.length) : L2.atI (zints is) i = some (.int (is.getD k 0)) := by rw [e]; exact atI_z h
theorem ixN_i {n : Nat} {i : Int} (k : Nat) (e : i = (k : Int)) (h : k < n) : ixN n i = some k := by rw [e]; exact ixN_nat h
theorem all_set {P : Int → Prop} {is : List Int} {j : Nat} {v : Int} (h : ∀ x ∈ is, P x) (hv : P v) : ∀ x ∈ is.set j v, P x := fun x hx => by
  rcases mem_set hx with hx | hx
  · exact h x hx
  · rw [hx]; exact hv
theorem getD_set_self {is : List Int} {k : Nat} {v : Int} (h : k < is.length) : (is.set k v).getD k 0 = v := by
  rw [List.getD_eq_getElem?_getD, List.getElem?_set_self h]
  rfl
/-- if A and B: the way that is taken otherwise is shown once -/
theorem br_and {e1 e2 : Bool} {T U : Prop} (hU : U) (hT : e1 = true → e2 = true → T) : Br e1 (Br e2 T U) (Br false T U) :=
  ⟨fun h1 => ⟨fun h2 => hT h1 h2, fun _ => hU⟩, fun _ => ⟨fun q => (nomatch q), fun _ => hU⟩⟩
theorem br_t {A B : Prop} (a : A) : Br true A B := ⟨fun _ => a, fun q => (nomatch q)⟩
theorem br_f {A B : Prop} (a : B) : Br false A B := ⟨fun q => (nomatch q), fun _ => a⟩
theorem atI_set {is : List Int} {k : Nat} {v : Int} (h : k < is.length) : L2.atI ((zints is).set k (.int v)) (k : Int) = some (.int v) := atI_nat (List.getElem?_set_self (by simpa using h))
theorem dec_comm {α : Type} [DecidableEq α] (x y : α) : decide (x = y) = decide (y = x) := decide_eq_decide.mpr eq_comm
theorem getD_rev {is : List Int} {k : Nat} (h : k < is.length) : is.reverse.getD (is.length - 1 - k) 0 = is.getD k 0 := by
  rw [List.getD_eq_getElem?_getD, List.getD_eq_getElem?_getD, List.getElem?_reverse (by omega), show is.length - 1 - (is.length - 1 - k) = k by omega]
theorem range_rev (n : Nat) : (List.range n).map (fun k => n - 1 - k) = (List.range n).reverse := by
  apply List.ext_getElem (by simp)
  intro i h1 h2
  simp at h1
  simp [List.getElem_reverse]
/-- both ways come to the same -/
theorem br_same {c : Bool} {A B P : Prop} (hp : P) (ha : c = true → P → A) (hb : c = false → P → B) : Br c A B := ⟨fun h => ha h hp, fun h => hb h hp⟩
theorem br_and3 {e1 e2 : Bool} {T U P : Prop} (hp : P) (hU : P → U) (hT : e1 = true → e2 = true → P → T) : Br e1 (Br e2 T U) (Br false T U) := br_and (hU hp) fun h1 h2 => hT h1 h2 hp
theorem br_all {α : Type} {c : Bool} {R1 R2 A B : α → Prop} (hp : ∀ a, R1 a → R2 a → B a) (hA : ∀ a, R1 a → R2 a → c = true → (∀ a, R1 a → R2 a → B a) → A a) : ∀ a, R1 a → R2 a → Br c (A a) (B a) :=
  fun a r1 r2 => ⟨fun h => hA a r1 r2 h hp, fun _ => hp a r1 r2⟩
theorem br_all3 {α : Type} {e1 e2 : Bool} {R1 R2 A B : α → Prop} (hp : ∀ a, R1 a → R2 a → B a) (hA : ∀ a, R1 a → R2 a → e1 = true → e2 = true → (∀ a, R1 a → R2 a → B a) → A a) : ∀ a, R1 a → R2 a → Br e1 (Br e2 (A a) (B a)) (Br false (A a) (B a)) :=
  fun a r1 r2 => br_and (hp a r1 r2) fun h1 h2 => hA a r1 r2 h1 h2 hp
end L2.Gd

set_option Elab.async false
set_option linter.all false
set_option maxRecDepth 100000
set_option maxHeartbeats 2000000
namespace L2.Gd
open PySem PySem.Spec PyProof.Rows L2
variable {X : Cx}
/-! ### what is never reached -/
def dNever : TSd := fun _ _ => False
theorem sd_never {s : Stmt} : SD X s dNever := ⟨fun pins s σ H D I ⟨W, η, Dd, r, t, k⟩ => t.elim⟩
def dNone : TD := fun _ _ => False
theorem pd_never {e : Expr} : PD X e dNone := ⟨fun pins s σ H Q I ⟨W, τ, η, θ, Qd, r, t, k⟩ => t.elim⟩
/-! ### a number that the module's top has named -/
theorem pd_glob {x : Str} {i : Int} {pos : Pos} (hg : Gl X x) (hm : ∃ t, X.mg x = some (.int i t)) (hd : (x == ("__debug__" : Str)) = false := by decide) : PD X (.Name x pos) (dC (.int i)) := by
  obtain ⟨t, hm⟩ := hm
  exact pd_const (pe_glob (v := .int i) hg hm ⟨t, rfl⟩ hd) fun _ => .int i
/-! ### is, is not -/
def isNone : PyData → Bool
  | .none => true
  | _ => false
def fIs (neg : Bool) : F2 := fun a b Q => match b with
  | .none => Q (.d (.bool (if neg then !isNone a else isNone a)))
  | .bool y => (match a with
    | .bool x => Q (.d (.bool (if neg then !decide (x = y) else decide (x = y))))
    | _ => False)
  | _ => False
theorem pk_non {W : Wd} {H : Hp} {v : V} {d : PyData} (p : Pk W H v d) (h : Hold W H) : decide (v = V.non) = isNone d := by
  have q := p.dt h
  cases q <;> rfl
theorem od_is : OpD X (compareOp .Is) (fIs false) := by
  refine ⟨_, OpR.or op_isN op_isBl, fun W H σ τ η θ v1 v2 d1 d2 Q Qd r p1 p2 t k => ?_⟩
  unfold fIs at t
  split at t
  · rw [p2.none]; refine .inl ⟨rfl, give r k (.bl _) ?_⟩; rw [pk_non p1 r.hold]; exact t
  · split at t
    · rw [p1.bool, p2.bool]; exact .inr ⟨_, _, rfl, rfl, give r k (.bl _) t⟩
    · exact t.elim
  · exact t.elim
theorem od_isnot : OpD X (compareOp .IsNot) (fIs true) := by
  refine ⟨_, OpR.or op_notN op_notBl, fun W H σ τ η θ v1 v2 d1 d2 Q Qd r p1 p2 t k => ?_⟩
  unfold fIs at t
  split at t
  · rw [p2.none]; refine .inl ⟨rfl, give r k (.bl _) ?_⟩; rw [pk_non p1 r.hold]; exact t
  · split at t
    · rw [p1.bool, p2.bool]; exact .inr ⟨_, _, rfl, rfl, give r k (.bl _) t⟩
    · exact t.elim
  · exact t.elim
/-! ### in, not in -/
def fInA (neg : Bool) : F2 := fun a b Q => match b with
  | .list xs => Need (shp a) ∧ Need (shp (.list xs)) ∧ Q (.d (.bool (if neg then !xs.any (fun z => PyData.eqv z a) else xs.any fun z => PyData.eqv z a)))
  | .tuple xs => ∃ (i : Int) (is : List Int), a = .int i ∧ xs = zints is ∧ Q (.d (.bool (if neg then !decide (i ∈ is) else decide (i ∈ is))))
  | _ => False
theorem inV_ints (i : Int) : ∀ is : List Int, inV (.int i) (is.map V.int) = decide (i ∈ is)
  | [] => by simp [inV]
  | j :: is => by
    have := inV_ints i is
    unfold inV at this ⊢
    rw [List.map_cons, List.any_cons, this, Bool.eq_iff_iff]
    have e : eqV (.int j) (.int i) = decide (j = i) := by first | rfl | (simp [eqV])
    rw [e]
    simp only [Bool.or_eq_true, decide_eq_true_eq, List.mem_cons]
    exact or_congr_left eq_comm
theorem flat_ints (is : List Int) : (is.map V.int).all flatV = true := by simp [flatV]
theorem in_core {neg : Bool} {W : Wd} {H : Hp} {v1 v2 : V} {i : Int} {is : List Int} (h : Hold W H) (p1 : Pk W H v1 (.int i)) (p2 : Pk W H v2 (.tuple (zints is))) {K : PySem.W.Frag} {Q : VK} (q : Q (.bl (if neg then !decide (i ∈ is) else decide (i ∈ is))) H) : rIn K neg v1 v2 H Q := by
  obtain ⟨a, ys, rfl, e, _, hy⟩ := p2.tuple h
  rw [p1.int]
  have e2 := hy.of_ints
  subst e2
  refine ⟨a, _, rfl, .inr (SqT.of e), rfl, flat_ints is, ?_⟩
  rw [inV_ints]
  exact q
theorem od_inA (hu : X.A.units + 65 < cLine) : OpD X (compareOp .In) (fInA false) := by
  refine ⟨_, OpR.or (op_inD hu) op_in_seq, fun W H σ τ η θ v1 v2 d1 d2 Q Qd r p1 p2 t k => ?_⟩
  unfold fInA at t
  split at t
  · exact .inl ⟨d1, _, Dt.dp _ (p1.dt r.hold), Dt.dp _ (p2.dt r.hold), t.1.h, t.2.1.h, give r k (.bl _) t.2.2⟩
  · obtain ⟨i, is, rfl, rfl, t⟩ := t
    exact .inr (in_core r.hold p1 p2 (give r k (.bl _) t))
  · exact t.elim
theorem od_notin (hu : X.A.units + 65 < cLine) : OpD X (compareOp .NotIn) (fInA true) := by
  refine ⟨_, OpR.or (op_notInD hu) op_notIn_seq, fun W H σ τ η θ v1 v2 d1 d2 Q Qd r p1 p2 t k => ?_⟩
  unfold fInA at t
  split at t
  · exact .inl ⟨d1, _, Dt.dp _ (p1.dt r.hold), Dt.dp _ (p2.dt r.hold), t.1.h, t.2.1.h, give r k (.bl _) t.2.2⟩
  · obtain ⟨i, is, rfl, rfl, t⟩ := t
    exact .inr (in_core r.hold p1 p2 (give r k (.bl _) t))
  · exact t.elim
theorem any_z (i : Int) : ∀ is : List Int, (zints is).any (fun z => PyData.eqv z (.int i)) = decide (i ∈ is)
  | [] => by simp
  | j :: is => by
    have := any_z i is
    rw [Bool.eq_iff_iff] at this ⊢
    simp only [zints, List.map_cons, List.any_cons, eqv_int, Bool.or_eq_true, decide_eq_true_eq, List.mem_cons] at this ⊢
    rw [this]
    exact or_congr_left eq_comm
/-! ### the helpers that the laws share -/
abbrev Rt (Q : DV → Prop) : EndsD := { nx := fun _ => Q (.d .none), rt := Q }
def tdOwnBag (K : PySem.W.Frag) (c : Int) (tf : TF) : TSd := (dSeq (dAsg (dComp [3] (dIn (dScr K 0 63)) (gSet 3) dYes (dB1 fAbs tf)) (gSet 1))
 (dSeq (dAsg (dOp fAdd (dC (.int c)) (dF (dB1 fLen (dPeek 1)))) (gSet 2))
 (dSeq (dFor (dIn (dVar 1)) (gSet 3)
 (dAsg (dOp fMod (dB1 fInt (dF (dOp fAdd (dOp fAdd (dOpN fMul 2 (dF (dC (.int 48271)))) (dF (dOp fMod (dB1 fInt (dPeek 3)) (dF (dC (.int 2147483629)))))) (dF (dC (.int 7)))))) (dF (dC (.int 2147483647)))) (gSet 2)))
 (dRet (dMkBag (dCons (dB1 fRev (dF (dB1 fListOf (dPeek 1)))) (dCons (dC (.int 0)) (dCons (dVar 2) dNil))))))))
def spOwnBag (K : PySem.W.Frag) : SpD := fun xs Q => ∃ ns, xs = [.raw (isScr K ns)] ∧ Q .bag
theorem spOwnBag_len {K : PySem.W.Frag} : ∀ xs Q, spOwnBag K xs Q → xs.length = 1 := by rintro xs Q ⟨ns, rfl, h⟩; rfl
theorem ownBag_pf {K : PySem.W.Frag} {c : Int} {tf : TF} (hc : 0 ≤ c) (hc2 : c < 2147483000) (htf : ∀ (η : En) (i : Int) (Q : PyData → En → Prop), nth η 3 = .d (.int i) → Q (.int i) η → tf η Q) :
    ∀ xs Q, spOwnBag K xs Q → tdOwnBag K c tf (Rt Q) (xs ++ List.replicate (4 - xs.length) .no) := by
  rintro xs Q ⟨ns, rfl, h⟩
  show tdOwnBag K c tf _ [.raw (isScr K ns), .no, .no, .no]
  refine ⟨ns, rfl, ?_⟩
  have hl : ((ns.take 63).map PyData.int).length ≤ 63 := by simp; omega
  refine ⟨⟨by omega⟩, comp_map (fun d => match d with | .int i => .int (if i < 0 then -i else i) | _ => .none) ?_ ?_⟩
  · intro d hd C F k
    obtain ⟨i, hi, rfl⟩ := List.mem_map.mp hd
    exact ⟨fun _ => htf _ i _ rfl ⟨⟨rfl⟩, k⟩, fun q => nomatch q⟩
  have e : ((ns.take 63).map PyData.int).map (fun d => match d with | .int i => .int (if i < 0 then -i else i) | _ => .none) = zints ((ns.take 63).map fun i => if i < 0 then -i else i) := by
    unfold zints; rw [List.map_map, List.map_map]; rfl
  rw [e]
  generalize hc : (ns.take 63).map (fun i => if i < 0 then -i else i) = cells
  have h0 : ∀ c ∈ cells, 0 ≤ c := fun c hc' => by
    rw [← hc] at hc'
    obtain ⟨i, _, rfl⟩ := List.mem_map.mp hc'
    split <;> omega
  have h1 : cells.length ≤ 63 := by rw [← hc]; simpa using hl
  clear e hl hc
  refine for_pre (fun _ η => ∃ (m : Int) (x : DV), 0 ≤ m ∧ m < 2147483647 ∧ η = [.raw (isScr K ns), .d (.list (zints cells)), .d (.int m), x]) ⟨c + (zints cells).length, .no, by omega, by simp; omega, rfl⟩ ?_ ?_
  · rintro pre d post η he ⟨m, x, hm, hm2, rfl⟩ Nx k
    obtain ⟨c, hc, rfl⟩ := List.mem_map.mp (show d ∈ zints cells by rw [he]; simp)
    exact ⟨⟨Or.inr (by decide)⟩, ⟨(by decide : (0 : Int) < 2147483629)⟩, ⟨(by decide : (0 : Int) < 2147483647)⟩, k _ ⟨_, _, Int.emod_nonneg _ (by decide), Int.emod_lt_of_pos _ (by decide), rfl⟩⟩
  · rintro η ⟨m, x, hm, hm2, rfl⟩
    exact ⟨cells.reverse, by simp [zints], ⟨by omega, hm, hm2, by simpa using h0, by simpa using h1⟩, h⟩
theorem ownBag_pf1 {K : PySem.W.Frag} {c : Int} (hc : 0 ≤ c) (hc2 : c < 2147483000) : ∀ xs Q, spOwnBag K xs Q → tdOwnBag K c (dPeek 3) (Rt Q) (xs ++ List.replicate (4 - xs.length) .no) :=
  ownBag_pf hc hc2 fun η i Q e q => by unfold dPeek; rw [e]; exact q
theorem ownBag_pf2 {K : PySem.W.Frag} {c : Int} (hc : 0 ≤ c) (hc2 : c < 2147483000) : ∀ xs Q, spOwnBag K xs Q → tdOwnBag K c (dF (dB1 fInt (dPeek 3))) (Rt Q) (xs ++ List.replicate (4 - xs.length) .no) :=
  ownBag_pf hc hc2 fun η i Q e q => by
    show toD (nth η 3) _
    rw [e]
    exact q
def tdDraw : TSd := (dSeq (dBagLoop 0 2)
 (dSeq (dIf (toB (dOp fGt (dBagK 0) (dF (dC (.int 0)))))
 (dSeq (dAsg (dOp fMod (dB1 fInt (dF (dBagK 0))) (dPeek 1)) (gSet 3))
 (dSeq (dAsg (dOp fDiv (dB1 fInt (dF (dBagK 0))) (dPeek 1)) (gBagK 0))
 (dRet (dVar 3))))
 dNext)
 (dSeq (dAsg (dOp fMod (dB1 fInt (dF (dOp fAdd (dOp fMul (dBagM 0) (dF (dC (.int 48271)))) (dF (dC (.int 11)))))) (dF (dC (.int 2147483647)))) (gBagM 0))
 (dRet (dOp fMod (dB1 fInt (dF (dOp fDiv (dOp fMod (dB1 fInt (dF (dOp fMul (dBagM 0) (dF (dBagM 0))))) (dF (dC (.int 2147483629)))) (dF (dC (.int 7)))))) (dPeek 1))))))
def spDraw : SpD := fun xs Q => ∃ n : Int, xs = [.bag, .d (.int n)] ∧ 0 < n ∧ n < 1073741824 ∧ ∀ r : Int, 0 ≤ r → r < n → Q (.d (.int r))
theorem spDraw_len : ∀ xs Q, spDraw xs Q → xs.length = 2 := by rintro xs Q ⟨n, rfl, h⟩; rfl
theorem draw_pf : ∀ xs Q, spDraw xs Q → tdDraw (Rt Q) (xs ++ List.replicate (4 - xs.length) .no) := by
  rintro xs Q ⟨n, rfl, h1, h2, h⟩
  show tdDraw _ [.bag, .d (.int n), .no, .no]
  refine ⟨rfl, by decide, rfl, fun k hk => ⟨fun e => ?_, fun e => ?_⟩⟩
  · refine ⟨rfl, fun k2 hk2 => ⟨⟨h1⟩, ?_⟩⟩
    refine ⟨rfl, fun k3 hk3 => ⟨⟨h1, h2⟩, rfl, ⟨Int.ediv_nonneg hk3 (by omega)⟩, ?_⟩⟩
    exact h _ (Int.emod_nonneg _ (by omega)) (Int.emod_lt_of_pos _ h1)
  · refine ⟨rfl, fun k2 a2 b2 => ⟨⟨Or.inr (by decide)⟩, ⟨(by decide : (0 : Int) < 2147483647)⟩, rfl, ⟨Int.emod_nonneg _ (by decide), Int.emod_lt_of_pos _ (by decide)⟩, ?_⟩⟩
    refine ⟨rfl, fun k3 a3 b3 => ⟨rfl, fun k4 a4 b4 => ⟨⟨Or.inl (by omega)⟩, ⟨(by decide : (0 : Int) < 2147483629)⟩, ⟨(by decide : (0 : Int) < 7), (by decide : (7 : Int) < 1073741824)⟩, ⟨h1⟩, ?_⟩⟩⟩
    exact h _ (Int.emod_nonneg _ (by omega)) (Int.emod_lt_of_pos _ h1)
def tdPick : TSd := (dRet (dOpN fIx 1 (dF (dCall spDraw (dCons (dVar 0) (dCons (dB1 fLen (dPeek 1)) dNil))))))
def spPick : SpD := fun xs Q => ∃ ys : List PyData, (xs = [.bag, .d (.list ys)] ∨ xs = [.bag, .d (.tuple ys)]) ∧ 0 < ys.length ∧ ys.length < 1073741824 ∧ ∀ y ∈ ys, Q (.d y)
theorem spPick_len : ∀ xs Q, spPick xs Q → xs.length = 2 := by rintro xs Q ⟨n, rfl | rfl, h⟩ <;> rfl
theorem pick_pf : ∀ xs Q, spPick xs Q → tdPick (Rt Q) (xs ++ List.replicate (2 - xs.length) .no) := by
  rintro xs Q ⟨ys, rfl | rfl, h1, h2, h⟩
  · show tdPick _ [.bag, .d (.list ys)]
    refine ⟨ys.length, rfl, by omega, by omega, fun r hr1 hr2 => ?_⟩
    exact ix_in hr1 hr2 h
  · show tdPick _ [.bag, .d (.tuple ys)]
    refine ⟨ys.length, rfl, by omega, by omega, fun r hr1 hr2 => ?_⟩
    exact ix_in hr1 hr2 h
def tdIs : TSd := (dRet (dAndV (dOpN fEq 0 (dPeek 1)) (dOp fEq (dB1 fRepr (dPeek 0)) (dF (dB1 fRepr (dPeek 1))))))
def spIs : SpD := fun xs Q => ∃ (a : PyData) (k n : Nat), xs = [.d a, .d a] ∧ Fit k n a ∧ k ≤ 60 ∧ n ≤ 1000000 ∧ Q (.d (.bool true))
theorem spIs_len : ∀ xs Q, spIs xs Q → xs.length = 2 := by rintro xs Q ⟨a, k, n, rfl, h⟩; rfl
theorem is_pf : ∀ xs Q, spIs xs Q → tdIs (Rt Q) (xs ++ List.replicate (2 - xs.length) .no) := by
  rintro xs Q ⟨a, k, n, rfl, f, hk, hn, h⟩
  show tdIs _ [.d a, .d a]
  have key : Br (PyData.eqv a a) (dOp fEq (dB1 fRepr (dPeek 0)) (dF (dB1 fRepr (dPeek 1))) [.d a, .d a] fun x _ => Q x) (Q (.d (.bool false))) := by
    rw [f.eqv]
    refine ⟨fun _ => ⟨⟨f.rp hk hn⟩, ⟨f.rp hk hn⟩, ?_⟩, fun q => nomatch q⟩
    show Q (.d (.bool (decide (a.shown = a.shown))))
    rw [decide_eq_true rfl]
    exact h
  exact (fEq_of (f.shp hk) (f.shp hk) key : fEq a a fun y => isB y fun b => Br b (dOp fEq (dB1 fRepr (dPeek 0)) (dF (dB1 fRepr (dPeek 1))) [.d a, .d a] fun x _ => Q x) (Q (.d (.bool false))))
def tdAll : TSd := (dRet (dB1 fAll (dF (dComp [1] (dIn (dVar 0)) (gSet 1) dYes (dCall spIs (dCons (dOpN fIx 1 (dF (dC (.int 0)))) (dCons (dOpN fIx 1 (dF (dC (.int 1)))) dNil)))))))
def spAll : SpD := fun xs Q => ∃ ps : List PyData, xs = [.d (.list ps)] ∧ ps.length ≤ 10000 ∧ (∀ p ∈ ps, ∃ a k n, p = .list [a, a] ∧ Fit k n a ∧ k ≤ 60 ∧ n ≤ 1000000) ∧ Q (.d (.bool true))
theorem spAll_len : ∀ xs Q, spAll xs Q → xs.length = 1 := by rintro xs Q ⟨ps, rfl, h⟩; rfl
theorem all_pf : ∀ xs Q, spAll xs Q → tdAll (Rt Q) (xs ++ List.replicate (2 - xs.length) .no) := by
  rintro xs Q ⟨ps, rfl, hn, hp, h⟩
  show tdAll _ [.d (.list ps), .no]
  refine ⟨⟨Nat.le_trans hn (by decide)⟩, comp_map (fun _ => .bool true) ?_ ?_⟩
  · intro d hd C F k
    obtain ⟨a, k1, n1, rfl, f, h1, h2⟩ := hp d hd
    exact ⟨fun _ => ⟨_, rfl, _, rfl, a, k1, n1, rfl, f, h1, h2, ⟨rfl⟩, k⟩, fun q => nomatch q⟩
  exact ⟨List.replicate ps.length true, by rw [List.map_replicate]; exact List.map_const' .., by rw [all_rep]; exact h⟩
/-! ### the greatest common divisor, as the laws go about it -/
def tdGcd : TSd := (dSeq (dPar 0 1 (dCons (dB1 fAbs (dPeek 0)) (dCons (dB1 fAbs (dPeek 1)) dNil)))
 (dSeq (dWhile (toB (dOpN fGt 1 (dF (dC (.int 0)))))
 (dPar 0 1 (dCons (dVar 1) (dCons (dOp fMod (dB1 fInt (dPeek 0)) (dPeek 1)) dNil))))
 (dRet (dVar 0))))
def spGcd : SpD := fun xs Q => ∃ a b : Int, xs = [.d (.int a), .d (.int b)] ∧ Q (.d (.int (Int.gcd a b : Nat)))
theorem spGcd_len : ∀ xs Q, spGcd xs Q → xs.length = 2 := by rintro xs Q ⟨a, b, rfl, h⟩; rfl
theorem gcd_pf : ∀ xs Q, spGcd xs Q → tdGcd (Rt Q) (xs ++ List.replicate (2 - xs.length) .no) := by
  rintro xs Q ⟨a, b, rfl, h⟩
  show tdGcd _ [.d (.int a), .d (.int b)]
  refine ⟨fun m η => ∃ x y : Nat, m = y ∧ Nat.gcd x y = Int.gcd a b ∧ η = [.d (.int x), .d (.int y)], ⟨b.natAbs, a.natAbs, b.natAbs, rfl, rfl, ?_⟩, ?_⟩
  · have e1 : (if a < 0 then -a else a) = (a.natAbs : Int) := by split <;> omega
    have e2 : (if b < 0 then -b else b) = (b.natAbs : Int) := by split <;> omega
    show [DV.d (.int (if a < 0 then -a else a)), .d (.int (if b < 0 then -b else b))] = _
    rw [e1, e2]
  · rintro m η ⟨x, y, rfl, hg, rfl⟩
    refine ⟨fun e => ?_, fun e => ?_⟩
    · have hy : (0 : Int) < (m : Int) := of_decide_eq_true e
      refine ⟨⟨hy⟩, x % m, Nat.mod_lt _ (by omega), m, x % m, rfl, ?_, ?_⟩
      · rw [← hg, Nat.gcd_comm x m, Nat.gcd_rec m x, Nat.gcd_comm]
      · rfl
    · have hy : ¬ (0 : Int) < (m : Int) := of_decide_eq_false e
      have : m = 0 := by omega
      subst this
      rw [Nat.gcd_zero_right] at hg
      show Q (.d (.int (x : Int)))
      rw [hg]
      exact h
end L2.Gd

set_option Elab.async false
set_option linter.all false
set_option maxRecDepth 100000
set_option maxHeartbeats 2000000
namespace L2.Gd
open PySem PySem.Spec PyProof.Rows L2
variable {X : Cx}
/-! ### a comprehension over a name: the list stays the frame's own -/
/-- J gives the items as long as the frame is σ, η -/
structure SrcC (J : It) (W0 : Wd) (items : List PyData) (σ : L2.St) (η : En) : Prop where
  stop : ∀ W τ θ H, Le W0 W → R5 W H σ τ η θ → J.stop items.length H
  go : ∀ i d W τ θ H, Le W0 W → R5 W H σ τ η θ → items[i]? = some d → J.go i H
  yld : ∀ i d W τ θ H x H', Le W0 W → R5 W H σ τ η θ → items[i]? = some d → J.yld i H x H' → ∃ W', Le W W' ∧ R5 W' H' σ τ η θ ∧ Dt (fx W') x d
theorem SrcOk.c {J : It} {W0 : Wd} {items : List PyData} {σ : L2.St} {η : En} (S : SrcOk J W0 items) : SrcC J W0 items σ η :=
  ⟨fun W τ θ H => S.stop W σ τ η θ H, fun i d W τ θ H => S.go i d W σ τ η θ H, fun i d W τ θ H x H' => S.yld i d W σ τ η θ H x H'⟩
theorem src_own {K : PySem.W.Frag} {W0 : Wd} {p : Addr} {items : List PyData} {σ : L2.St} {η : En} {i : Nat} (ev : σ[i]? = some (some (.ref p))) (eη : η[i]? = some (.own items)) : SrcC (Itl K p) W0 items σ η := by
  have at_ : ∀ W τ θ H, R5 W H σ τ η θ → ∃ ys, SqL K H p ys ∧ DtAll (fx W) ys items := fun W τ θ H r => by
    obtain ⟨q, ys, e1, e2, e3⟩ := r.ownAt eη
    rw [ev] at e1
    cases e1
    exact ⟨ys, SqL.of e2, e3⟩
  refine ⟨fun W τ θ H l r => ?_, fun j d W τ θ H l r e => ?_, fun j d W τ θ H x H' l r e y => ?_⟩
  · obtain ⟨ys, h1, h2⟩ := at_ W τ θ H r
    have := (walk_list (K := K) (a := p) (xs := ys)).stops H h1
    rw [h2.length] at this
    exact this
  · obtain ⟨ys, h1, h2⟩ := at_ W τ θ H r
    exact (walk_list (K := K) (a := p) (xs := ys)).goes j H (by rw [h2.length]; exact (List.getElem?_eq_some_iff.mp e).1) h1
  · obtain ⟨ys, h1, h2⟩ := at_ W τ θ H r
    obtain ⟨rfl, y2⟩ := (walk_list (K := K) (a := p) (xs := ys)).yields j H x H' (by rw [h2.length]; exact (List.getElem?_eq_some_iff.mp e).1) h1 y
    obtain ⟨d', q1, q2⟩ := h2.get' y2
    rw [e] at q1; cases q1
    exact ⟨W, Le.refl W, r, q2⟩
theorem comp_walk {vs : List Nat} {g : TG} {gd : TGd} {tt : TB} {te : TD} (gok : GOk g gd vs) {σ : L2.St} {τ : List V} {η0 θ : En} {W0 : Wd} {H0 : Hp} {items : List PyData} {J : It} {Q : VK} {Qd : DV → En → Prop} (r0 : R5 W0 H0 σ τ η0 θ)
    (S : SrcC J W0 items (wipe σ vs) (wipeD η0 vs)) (hn : items.length ≤ 1000000) (q : compRec vs (wipeD η0 vs) gd tt te (fun acc => Qd (.own acc) (dropOwn η0 vs)) items [])
    (k : ∀ W' v H' η' x, Le W0 W' → R5 W' H' σ (τ ++ [v]) η' (θ ++ [x]) → Qd x η' → Q v H') (D : Addr) (hD : H0 D = none) :
    ∃ Wk : Nat → Nat → Hp → Prop, (∃ m, Wk 0 m (upd H0 D (.lst []))) ∧ ∀ i m H, Wk i m H →
  (J.stop i H ∧ Q (.ref D) H) ∨ (J.go i H ∧ ∃ Nx : Hp → Prop, (∀ H', Nx H' → ∃ m', m' < m ∧ Wk (i + 1) m' H') ∧ ∀ x H', J.yld i H x H' → g x (wipe σ vs) H' fun σ2 H2 => wipe σ2 vs = wipe σ vs ∧ lB tt σ2 H2 fun b H3 =>
    if b = true then lE te σ2 H3 fun y H4 => ∃ acc, H4 D = some (.lst acc) ∧ acc.length < sizeLine ∧ Nx (upd H4 D (.lst (acc ++ [y]))) else Nx H3) := by
  refine ⟨fun i m H => m = items.length - i ∧ i ≤ items.length ∧ ∃ W1 acc, Le W0 W1 ∧ R5 W1 H (wipe σ vs) (τ ++ [.ref D]) (wipeD η0 vs) (θ ++ [.own acc]) ∧ acc.length ≤ i ∧
    compRec vs (wipeD η0 vs) gd tt te (fun acc => Qd (.own acc) (dropOwn η0 vs)) (items.drop i) acc, ⟨items.length, by simp, Nat.zero_le _, W0, [], Le.refl W0, (r0.wiped vs).pushOwn hD .nil, Nat.le_refl _, by simpa using q⟩, ?_⟩
  rintro i m H1 ⟨rfl, hi, W1, acc, l1, r1, ha, q1⟩
  by_cases hlt : i < items.length
  · have e : items.drop i = items[i] :: items.drop (i + 1) := List.drop_eq_getElem_cons hlt
    rw [e] at q1
    have e1 : items[i]? = some items[i] := List.getElem?_eq_getElem hlt
    refine .inr ⟨S.go i _ W1 _ _ H1 l1 r1 e1, fun H' => ∃ W1 acc, Le W0 W1 ∧ R5 W1 H' (wipe σ vs) (τ ++ [.ref D]) (wipeD η0 vs) (θ ++ [.own acc]) ∧ acc.length ≤ i + 1 ∧
      compRec vs (wipeD η0 vs) gd tt te (fun acc => Qd (.own acc) (dropOwn η0 vs)) (items.drop (i + 1)) acc, fun H' z => ⟨items.length - (i + 1), by omega, rfl, hlt, z⟩, fun x H2 y => ?_⟩
    obtain ⟨W2, l2, r2, hx⟩ := S.yld i _ W1 _ _ H1 x H2 l1 r1 e1 y
    refine gok W2 (wipe σ vs) _ _ _ x (.d items[i]) H2 _ _ (r2.pushD hx) q1 fun W3 σ3 H3 η3 l3 r3 e3 q3 => ?_
    rw [wipe_wipe] at e3
    refine ⟨e3, W3, _, η3, _, _, r3, q3, fun W4 b H4 η4 l4 r4 q4 => br_of q4 (fun q5 => ?_) fun q5 => ?_⟩
    · refine ⟨W4, _, η4, _, _, r4, q5, fun W5 v H5 η5 z l5 r5 q6 => ?_⟩
      obtain ⟨W6, d, l6, r6, hd, hw, q7⟩ := toD_frz r5 q6
      obtain ⟨ys, e5, e6⟩ := r6.topOwn
      refine ⟨ys, e5, ?_, W6, acc ++ [d], ((((l1.trans l2).trans l3).trans l4).trans l5).trans l6, ?_, by simp; omega, q7⟩
      · rw [e6.length]
        exact Nat.lt_of_lt_of_le (Nat.lt_of_le_of_lt ha hlt) (line_of hn)
      · have r7 := (r6.writeTop (e6.append (.cons hd .nil))).wiped vs
        rw [e3, hw.h] at r7
        exact r7
    · have r7 := r4.wiped vs
      rw [e3, q5.1.h] at r7
      exact ⟨W4, acc, ((l1.trans l2).trans l3).trans l4, r7, by omega, q5.2⟩
  · have e : i = items.length := by omega
    subst e
    rw [List.drop_length] at q1
    exact .inl ⟨S.stop W1 _ _ H1 l1 r1, k _ _ _ _ _ l1 (R5.unwipe r0 l1 r1) q1⟩

def dCompN (vs : List Nat) (i : Nat) (g : TGd) (tt : TB) (te : TD) : TD := fun η Q => seqOf (nth η i) fun items => Need (items.length ≤ 1000000) ∧ Need (compRec vs (wipeD η vs) g tt te (fun acc => Q (.own acc) (dropOwn η vs)) items [])
theorem compN_core {K : PySem.W.Frag} {i : Nat} {vs : List Nat} {g : TG} {gd : TGd} {tt : TB} {te : TD} (hi : i ∉ vs) (gok : GOk g gd vs) {σ : L2.St} {H : Hp} {Q : VK} (h : lE (dCompN vs i gd tt te) σ H Q) : tLc (iSeq K (tVar i)) g (lB tt) (lE te) vs σ H Q := by
  obtain ⟨W, τ, η, θ, Qd, r, t, k⟩ := h
  unfold dCompN seqOf at t
  split at t
  · rename_i xs e
    obtain ⟨o, v, hv, y, rfl, hy⟩ := r.at (nth_some e (by intro q; cases q))
    cases hy with
    | lst e1 e2 => exact ⟨_, hv, _, rfl, .inl ⟨⟨_, SqL.of (r.hold.same _ _ e1)⟩, fun D hD => comp_walk gok r (src_list e1 e2).c t.1.h t.2.h k D hD⟩⟩
  · rename_i xs e
    obtain ⟨o, v, hv, y, rfl, hy⟩ := r.at (nth_some e (by intro q; cases q))
    cases hy with
    | tup e1 e2 => exact ⟨_, hv, _, rfl, .inr ⟨⟨_, SqT.of (r.hold.same _ _ e1)⟩, fun D hD => comp_walk gok r (src_tup e1 e2).c t.1.h t.2.h k D hD⟩⟩
  · rename_i xs e
    have e0 := nth_some e (by intro q; cases q)
    obtain ⟨p, ys, hv, e1, e2⟩ := r.ownAt e0
    refine ⟨_, hv, p, rfl, .inl ⟨⟨_, SqL.of e1⟩, fun D hD => comp_walk gok r (src_own (i := i) ?_ ?_) t.1.h t.2.h k D hD⟩⟩
    · rw [wipe_get, if_neg (fun q => hi q.1)]
      exact hv
    · rw [wipeD_get, if_neg (fun q => hi q.1)]
      exact e0
  · exact t.elim
theorem pd_compN {i : Nat} {elt tg iter : Expr} {ifs : List Expr} {scope : Scope} {own : List (Str × Nat)} {pos : Pos} {g : TG} {gd : TGd} {tt : TB} {te : TD} (hc : X.calm = true) (hN : X.N.Nodup) (hv : PE X iter (tVar i)) (hi : i ∉ own.map (·.2)) (ok : BlkOk X.N X.env.scope scope own)
    (hg : ∀ (s : Shared) (H : Hp) (C : Addr) (cl : List (Str × Addr)) (fp : List Addr), PG (X.blk s H scope (compEnvC scope cl C X.env) fp) tg g) (gok : GOk g gd (own.map (·.2)))
    (ht : ∀ (s : Shared) (H : Hp) (C : Addr) (cl : List (Str × Addr)) (fp : List Addr), PTs (X.blk s H scope (compEnvC scope cl C X.env) fp) ifs (lB tt))
    (he : ∀ (s : Shared) (H : Hp) (C : Addr) (cl : List (Str × Addr)) (fp : List Addr), PD (X.blk s H scope (compEnvC scope cl C X.env) fp) elt te) (hs : ∀ x, foldedSetIterable iter X.env x = pure x := by intro _; rfl) :
    PD X (.ListComp elt [⟨tg, iter, ifs, 0⟩] scope pos) (dCompN (own.map (·.2)) i gd tt te) :=
  (pe_lc hc hN (pi_seq hv) ok hg ht he hs).weak fun σ H Q h => compN_core hi gok h
theorem sd_setCompN {j i : Nat} {y : Str} {py : Pos} {elt tg iter : Expr} {ifs : List Expr} {scope : Scope} {own : List (Str × Nat)} {pos spos : Pos} {g : TG} {gd : TGd} {tt : TB} {te : TD} (hc : X.calm = true) (hN : X.N.Nodup) (hy : X.N[j]? = some y) (hyl : X.env.scope.names.lookup y = some .local)
    (hsw : swapsWith (.ListComp elt [⟨tg, iter, ifs, 0⟩] scope pos) (some (.Name y py)) spos.line X.env = pure true) (hv : PE X iter (tVar i)) (hi : i ∉ own.map (·.2)) (ok : BlkOk X.N X.env.scope scope own)
    (hg : ∀ (s : Shared) (H : Hp) (C : Addr) (cl : List (Str × Addr)) (fp : List Addr), PG (X.blk s H scope (compEnvC scope cl C X.env) fp) tg g) (gok : GOk g gd (own.map (·.2)))
    (ht : ∀ (s : Shared) (H : Hp) (C : Addr) (cl : List (Str × Addr)) (fp : List Addr), PTs (X.blk s H scope (compEnvC scope cl C X.env) fp) ifs (lB tt))
    (he : ∀ (s : Shared) (H : Hp) (C : Addr) (cl : List (Str × Addr)) (fp : List Addr), PD (X.blk s H scope (compEnvC scope cl C X.env) fp) elt te) (hs : ∀ x, foldedSetIterable iter X.env x = pure x := by intro _; rfl) :
    SD X (.Assign [.Name y py] (.ListComp elt [⟨tg, iter, ifs, 0⟩] scope pos) spos) (dAsg (dCompN (own.map (·.2)) i gd tt te) (gSet j)) :=
  (ps_setLc hc hN hy hyl hsw (pi_seq hv) ok hg ht he hs).weak fun D σ H ⟨W, η, Dd, r, t, k⟩ =>
    compN_core hi gok ⟨W, [], η, [], _, r, t, fun W1 v H1 η1 x l1 r1 q => k.nx _ _ _ _ l1 (R5.set (τ := []) (θ := []) r1 j) q⟩
end L2.Gd

set_option Elab.async false
set_option linter.all false
set_option maxRecDepth 100000
set_option maxHeartbeats 2000000
namespace L2.Gd
open PySem PySem.Spec PyProof.Rows L2 SrtO
section
variable {prog : Program} {w : World} {A : Around} {E : Value → Shared → Prop} {s : Shared}
theorem collect_tupleG {l : Addr} {vs : List Value} {Q : List Value → Shared → Prop} (hl : s.heap.IsTuple l vs.toArray)
    (h : Q vs { s with heap := (s.heap.push (seqObj "list" #[] 0)).update s.heap.objs.size (Obj.mapSeq (· ++ vs.toArray)) }) (hsz : vs.length ≤ sizeLine := by size_fits) :
    wpAny (model prog w) A (collect (.ref l)) Q E s := by
  obtain ⟨o, ho, hc, n, hd⟩ := id hl
  unfold collect
  refine wpAny_bind (wpAny_runValue (codeAny_builtin entry_proto_collect' ?_))
  show wpAny _ _ (do again (.builtin "list.__iadd__" ⟨[← newList [], .ref l], []⟩)) _ _ s
  refine wpAny_bind (wpAny_newList (wpAny_pure ⟨Code.quiet_builtin _ (by decide +kernel), codeAny_builtin entry_list_iadd' ?_⟩))
  show wpAny _ _ (Builtin.List.listExtendWith (.ref s.heap.objs.size) (.ref l) (.ref s.heap.objs.size)) _ _ { s with heap := s.heap.push (seqObj "list" #[] 0) }
  unfold Builtin.List.listExtendWith
  have ho' : (s.heap.push (seqObj "list" #[] 0)).get? l = some o := Heap.get?_push_of_some _ ho
  refine wpAny_bind (wpAny_typeOf (T := "tuple") ⟨o, ho', hc⟩ ?_)
  have ht : (Value.type "tuple" == Value.type "tuple") = true := by rfl
  rw [if_pos (by rw [ht]; simp)]
  refine wpAny_bind (listItems_at ho' hd ?_)
  refine wpAny_bind (listItems_at (xs := #[]) (n := 0) (Heap.get?_push_size _ rfl) rfl ?_)
  rw [if_neg (by simp)]
  refine wpAny_bind (listUpdate_at (xs := #[]) (n := 0) (Heap.get?_push_size _ rfl) rfl ?_ (Nat.zero_le _) (by show (#[] ++ vs.toArray).size ≤ sizeLine + 1; simp only [Array.size_append, List.size_toArray, List.length_nil]; omega))
  refine wpAny_pure ?_
  show wpAny (model prog w) A (do
      let o ← load s.heap.objs.size
      match o.data with
      | .seq xs _ => pure xs.toList
      | _ => unsupported "internal:collect") Q E { s with heap := (s.heap.push (seqObj "list" #[] 0)).update s.heap.objs.size (Obj.mapSeq (· ++ vs.toArray)) }
  refine wpAny_bind (wpAny_load (get?_update_seq (Heap.get?_push_size _ rfl) _) ?_)
  show wpAny _ _ (pure ((#[] : Array Value) ++ vs.toArray).toList) Q E _
  rw [show ((#[] : Array Value) ++ vs.toArray).toList = vs by simp]
  exact wpAny_pure h
theorem sorted_ordT {l : Addr} {vs : List Value} {ltv : Value → Value → Bool} {Q : Value → Shared → Prop} (O : Swo ltv) (hl : s.heap.IsTuple l vs.toArray) (hz : vs.length ≤ sizeLine)
    (hS : 2 ≤ vs.length → ∀ (h₁ : Heap) (a : Addr), h₁.get? a = some (seqObj "list" vs.toArray 0) → (∀ b o, s.heap.get? b = some o → b ≠ a ∧ h₁.get? b = some o) → SortableO prog w A.in1.in1 { s with heap := h₁ } a vs ltv)
    (h : ∀ out : List Value, Srtd ltv out → Stb ltv out vs → Q (.ref (s.heap.objs.size + 1)) { s with heap := sortedAll s.heap vs out.toArray }) :
    wpAny (model prog w) A (call (.builtin "sorted") [.ref l]) Q E s := by
  refine Calls.call_function_entry kind_sorted plain_sorted entry_sorted (args_sorted1 _) ?_
  unfold Builtin.«sorted»
  refine wpAny_bind (m := checkCount "sorted" 1 1 _) (wpAny_pure ?_)
  refine wpAny_bind (collect_tupleG hl ?_ hz)
  refine wpAny_bind (wpAny_newList ?_ hz)
  have hsz : ((s.heap.push (seqObj "list" #[] 0)).update s.heap.objs.size (Obj.mapSeq (· ++ vs.toArray))).objs.size = s.heap.objs.size + 1 := by
    rw [Heap.size_update, size_push']
  have hoL : (((s.heap.push (seqObj "list" #[] 0)).update s.heap.objs.size (Obj.mapSeq (· ++ vs.toArray))).push (seqObj "list" vs.toArray 0)).get? (s.heap.objs.size + 1) = some (seqObj "list" vs.toArray 0) := by
    rw [← hsz]; exact Heap.get?_push_size _ rfl
  have keep : ∀ b o, s.heap.get? b = some o → b ≠ s.heap.objs.size + 1 ∧ (((s.heap.push (seqObj "list" #[] 0)).update s.heap.objs.size (Obj.mapSeq (· ++ vs.toArray))).push (seqObj "list" vs.toArray 0)).get? b = some o := fun b o q => by
    have hlt : b < s.heap.objs.size := Heap.lt_size q
    refine ⟨Nat.ne_of_lt (Nat.lt_succ_of_lt hlt), Heap.get?_push_of_some _ ?_⟩
    rw [Heap.get?_update_ne _ _ _ _ (Nat.ne_of_lt hlt)]
    exact Heap.get?_push_of_some _ q
  show wpAny _ _ _ _ _ { s with heap := ((s.heap.push (seqObj "list" #[] 0)).update s.heap.objs.size (Obj.mapSeq (· ++ vs.toArray))).push (seqObj "list" vs.toArray 0) }
  rw [hsz]
  refine wpAny_bind (wpAny_holding (wpAny_call_entry slot_list_sort ⟨_, hoL, rfl⟩ entry_list_sort (list_sort_ord O hoL hz (fun h2 => hS h2 _ _ hoL keep) fun out hs hb => ⟨_, rfl, ?_⟩) (args_list_sort _)))
  exact wpAny_pure ⟨_, rfl, h out hs hb⟩
end
def rSortedTI (K : PySem.W.Frag) : List V → Hp → VK → Prop := fun vs H Q => ∃ (a : Addr) (ns : List Int), vs = [V.ref a] ∧ SqT K H a (ns.map V.int) ∧
  ∀ (ns' : List Int) (p : Addr), ns'.Perm ns → ns'.Pairwise (· ≤ ·) → H p = none → Q (.ref p) (upd H p (.lst (ns'.map V.int)))
section
variable {X : Cx}
theorem cr_sortedTI : CallR X (.builtin "sorted") (rSortedTI X.K) := by
  intro pins s σ H vs us Q I r h
  obtain ⟨a, ns, rfl, hs, q⟩ := h
  obtain ⟨its, rv, hl, hz⟩ := I.tuple hs
  rw [Vals.ref1 r]
  have hi := rv.ints
  refine sorted_ordT SrtO.swo_int hl (by rw [← rv.length]; exact hz) (fun h2 h₁ a' _ _ => SrtO.ints_sortable hi h2) fun out h1 h2 => ?_
  obtain ⟨k1, k2, k3⟩ := SrtO.ints_out hi h1 h2
  obtain ⟨ep, he'⟩ := PyProof.Rows.sortedAll_at s.heap its out.toArray
  have hlen : ((out.map SrtO.iv).map V.int).length ≤ sizeLine := by
    rw [List.length_map, k2.length_eq]
    rw [List.length_map] at hz
    exact hz
  exact ⟨.ref _, upd H (s.heap.objs.size + 1) (.lst ((out.map SrtO.iv).map V.int)), I.laid (t' := s.toks) (fun _ _ => PyProof.Rows.sortedAll_old) (Nat.le_succ _) ⟨hlen, out, ep, vals_of_ints k1, he'⟩, rfl, q _ _ k2 k3 (I.hok.fresh (Nat.le_succ _))⟩
/-- sorted of a list or tuple of ints -/
def fSortedA : F1 := fun d Q => match d with
  | .list xs => ∃ ns : List Int, xs = ns.map PyData.int ∧ ∀ ms : List Int, ms.Perm ns → ms.Pairwise (· ≤ ·) → Q (.own (ms.map PyData.int))
  | .tuple xs => ∃ ns : List Int, xs = ns.map PyData.int ∧ ∀ ms : List Int, ms.Perm ns → ms.Pairwise (· ≤ ·) → Q (.own (ms.map PyData.int))
  | _ => False
theorem cd_sortedA : CallD1 X (.builtin "sorted") fSortedA := by
  refine ⟨fun vs H Q => rSortedI X.K vs H Q ∨ rSortedTI X.K vs H Q, ?_, fun W H σ τ η θ v d Q Qd r p t k => ?_⟩
  · intro pins s σ H vs us Q I r h
    rcases h with h | h
    · exact cr_sortedI pins s σ H vs us Q I r h
    · exact cr_sortedTI pins s σ H vs us Q I r h
  unfold fSortedA at t
  split at t
  · obtain ⟨a, ys, rfl, e1, e2⟩ := p.list r.hold
    obtain ⟨ns, rfl, t⟩ := t
    rw [DtAll.of_ints e2] at e1
    exact .inl ⟨_, _, rfl, SqL.of e1, fun ms q h1 h2 h3 => giveL r k (DtAll.ints ms) (t ms h1 h2) q h3⟩
  · obtain ⟨a, ys, rfl, e1, _, e2⟩ := p.tuple r.hold
    obtain ⟨ns, rfl, t⟩ := t
    rw [DtAll.of_ints e2] at e1
    exact .inr ⟨_, _, rfl, SqT.of e1, fun ms q h1 h2 h3 => giveL r k (DtAll.ints ms) (t ms h1 h2) q h3⟩
  · exact t.elim
end
end L2.Gd

set_option Elab.async false
set_option linter.all false
set_option maxRecDepth 100000
set_option maxHeartbeats 2000000
namespace L2.Gd
open PySem PySem.Spec PyProof.Rows L2
/-- for k in range(n) with an invariant that does not look at k -/
theorem for_ints {g : TGd} {tb : TSd} {D : EndsD} {n : Nat} {ds : List PyData} {η : En} (hd : ds = nints (List.range n)) (hn : n ≤ 1000000) (I : En → Prop) (h0 : I η)
    (hs : ∀ (k : Nat) η, k < n → I η → ∀ Nx : En → Prop, (∀ η', I η' → Nx η') → g (.d (.int (k : Int))) η fun η1 => tb { nx := Nx, rt := D.rt, bk := D.nx, ct := Nx } η1)
    (he : ∀ η, I η → D.nx η) : Need (forRec g tb D ds η) := by
  subst hd
  refine for_inv (fun rest η => (∀ d ∈ rest, ∃ k : Nat, k < n ∧ d = .int (k : Int)) ∧ I η) ⟨fun d hd => ?_, h0⟩ (fun d r η ⟨h1, h2⟩ Nx k => ?_) fun η h => he η h.2
  · obtain ⟨k, hk, rfl⟩ := List.mem_map.mp hd
    exact ⟨k, List.mem_range.mp hk, rfl⟩
  · obtain ⟨j, hj, rfl⟩ := h1 d (by simp)
    exact hs j η hj h2 Nx fun η' h' => k η' ⟨fun d hd => h1 d (List.mem_cons_of_mem _ hd), h'⟩
end L2.Gd

set_option Elab.async false
set_option linter.all false
set_option maxRecDepth 100000
set_option maxHeartbeats 2000000
namespace L2.Gd
open PySem PySem.Spec PyProof.Rows L2
variable {X : Cx}
/-! ### own lists given out ahead (so that a loop's frame stays as it is) -/
def frz1 (η : En) (i : Nat) : En := match nth η i with
  | .own xs => put η i (.d (.list xs))
  | _ => η
def frzs (η : En) : List Nat → En
  | [] => η
  | i :: r => frzs (frz1 η i) r
theorem R5.frz1 {W : Wd} {H : Hp} {σ : L2.St} {τ : List V} {η θ : En} (r : R5 W H σ τ η θ) (i : Nat) : ∃ W', Le W W' ∧ R5 W' H σ τ (Gd.frz1 η i) θ := by
  unfold Gd.frz1
  split
  · rename_i xs e
    exact r.freezeL (nth_some e (by intro q; cases q))
  · exact ⟨W, Le.refl W, r⟩
theorem R5.frzs {H : Hp} {σ : L2.St} {τ : List V} {θ : En} : ∀ (fs : List Nat) {W : Wd} {η : En}, R5 W H σ τ η θ → ∃ W', Le W W' ∧ R5 W' H σ τ (Gd.frzs η fs) θ
  | [], W, _, r => ⟨W, Le.refl W, r⟩
  | i :: fs, W, η, r => by
    obtain ⟨W1, l1, r1⟩ := r.frz1 i
    obtain ⟨W2, l2, r2⟩ := R5.frzs fs r1
    exact ⟨W2, l1.trans l2, r2⟩
def dFrz (fs : List Nat) (t : TD) : TD := fun η Q => t (frzs η fs) Q
theorem pd_frz {fs : List Nat} {e : Expr} {t : TD} (h : PD X e t) : PD X e (dFrz fs t) := h.weak fun σ H Q ⟨W, τ, η, θ, Qd, r, t, k⟩ => by
  obtain ⟨W1, l1, r1⟩ := r.frzs fs
  exact ⟨W1, τ, _, θ, Qd, r1, t, fun W' v H' x η' l => k W' v H' x η' (l1.trans l)⟩
def dFrzS (fs : List Nat) (t : TSd) : TSd := fun D η => t D (frzs η fs)
theorem sd_frz {fs : List Nat} {s : Stmt} {t : TSd} (h : SD X s t) : SD X s (dFrzS fs t) := h.weak fun D σ H ⟨W, η, Dd, r, t, k⟩ => by
  obtain ⟨W1, l1, r1⟩ := r.frzs fs
  exact ⟨W1, _, Dd, r1, t, k.up l1⟩
theorem mem_rng {lo : Int} {n : Nat} {d : PyData} (h : d ∈ rng lo n) : ∃ i : Nat, i < n ∧ d = .int (lo + i) := by
  obtain ⟨i, hi, rfl⟩ := List.mem_map.mp h
  exact ⟨i, List.mem_range.mp hi, rfl⟩
theorem rng_len (lo : Int) (n : Nat) : (rng lo n).length = n := by simp [rng]
theorem All2.then {α β γ : Type} {R : α → β → Prop} {S : β → γ → Prop} {f : α → γ} (h : ∀ x y z, R x y → S y z → z = f x) : ∀ {xs : List α} {ys : List β} {zs : List γ}, All2 R xs ys → All2 S ys zs → zs = xs.map f
  | _, _, _, .nil, .nil => rfl
  | _, _, _, .cons a t, .cons b u => by rw [h _ _ _ a b, All2.then h t u]; rfl
theorem All2.right {α β : Type} {R : α → β → Prop} : ∀ {xs : List α} {ys : List β}, All2 R xs ys → ∀ y ∈ ys, ∃ x ∈ xs, R x y
  | _, _, .nil, y, hy => absurd hy List.not_mem_nil
  | _, _, .cons a t, y, hy => by
    rcases List.mem_cons.mp hy with rfl | hy
    · exact ⟨_, by simp, a⟩
    · obtain ⟨x, hx, r⟩ := t.right y hy
      exact ⟨x, List.mem_cons_of_mem _ hx, r⟩
theorem ints_of : ∀ {zs : List PyData} {P : Int → Prop}, (∀ z ∈ zs, ∃ i, P i ∧ z = .int i) → ∃ is : List Int, zs = zints is ∧ ∀ i ∈ is, P i
  | [], P, _ => ⟨[], rfl, fun i hi => absurd hi List.not_mem_nil⟩
  | z :: zs, P, h => by
    obtain ⟨i, hi, rfl⟩ := h z (by simp)
    obtain ⟨is, rfl, hs⟩ := ints_of (zs := zs) (P := P) fun z hz => h z (List.mem_cons_of_mem _ hz)
    exact ⟨i :: is, rfl, fun j hj => by
      rcases List.mem_cons.mp hj with rfl | hj
      · exact hi
      · exact hs j hj⟩
/-- for k in range(n): the invariant looks at the name's last number -/
theorem for_last {g : TGd} {tb : TSd} {D : EndsD} {n : Nat} {ds : List PyData} {η : En} (hd : ds = nints (List.range n)) (I : DV → En → Prop) (h0 : I .no η)
    (hs : ∀ (k : Nat) x η, k < n → I x η → ∀ Nx : En → Prop, (∀ η', I (.d (.int (k : Int))) η' → Nx η') → g (.d (.int (k : Int))) η fun η1 => tb { nx := Nx, rt := D.rt, bk := D.nx, ct := Nx } η1)
    (he : ∀ η, I (match n with | 0 => .no | m + 1 => .d (.int (m : Int))) η → D.nx η) : Need (forRec g tb D ds η) := by
  subst hd
  refine for_pre (fun pre η => pre.length ≤ n ∧ I (match pre.length with | 0 => .no | m + 1 => .d (.int (m : Int))) η) ⟨Nat.zero_le _, h0⟩ (fun pre d post η e ⟨h1, h2⟩ Nx k => ?_) fun η h => ?_
  · have hl : (nints (List.range n)).length = n := by simp
    have hp : pre.length < n := by rw [e] at hl; simp at hl; omega
    have hd : d = .int (pre.length : Int) := by
      have h3 : (nints (List.range n))[pre.length]? = some d := by rw [e]; simp
      unfold nints at h3
      rw [List.getElem?_map, List.getElem?_range hp] at h3
      exact (Option.some.inj h3).symm
    subst hd
    exact hs pre.length _ η hp h2 Nx fun η' h' => k η' ⟨by simp; omega, by simpa using h'⟩
  · have h2 := h.2
    rw [show (nints (List.range n)).length = n by simp] at h2
    exact he η h2
end L2.Gd

set_option Elab.async false
set_option linter.all false
set_option maxRecDepth 100000
set_option maxHeartbeats 4000000
namespace L2.Gd.k03
open PySem PySem.Spec PyProof.Rows L2 L2.Gd
def top (i : Nat) : Stmt := PySem.Challenge.pw_typedtokens_k03_whole_main_how_many_far.main.body.getD i (.Pass ⟨0, 0, 0, 0⟩)
abbrev s_picks : Stmt := top 5
abbrev s_far_lots_count : Stmt := top 6
abbrev s_circle_gap : Stmt := top 8
abbrev s_near_pair : Stmt := top 10
abbrev s_are_far : Stmt := top 11
abbrev s_most_far : Stmt := top 12
abbrev s_few_far : Stmt := top 13
abbrev s_spread_places : Stmt := top 14
abbrev s_law_own_bag : Stmt := top 16
abbrev s_law_draw : Stmt := top 17
abbrev s_law_pick : Stmt := top 18
abbrev s_law_is : Stmt := top 19
abbrev s_law_gcd : Stmt := top 20
abbrev s_law_gap : Stmt := top 21
abbrev s_law_modulus : Stmt := top 22
abbrev s_law_far : Stmt := top 23
abbrev s_law_near : Stmt := top 24
abbrev s_law_turned : Stmt := top 25
abbrev s_law_told : Stmt := top 26
abbrev s_law_grown : Stmt := top 27
abbrev s_law_is_small_right : Stmt := top 28
abbrev s_law : Stmt := top 29
structure Txt (K : PySem.W.Frag) (mg : Str → Option Value) : Prop where
  a_picks : AtD K mg "picks" s_picks ["many", "few"]
  a_far_lots_count : AtD K mg "far_lots_count" s_far_lots_count ["modulus", "far", "many"]
  a_circle_gap : AtD K mg "circle_gap" s_circle_gap ["modulus", "a", "b"]
  a_near_pair : AtD K mg "near_pair" s_near_pair ["modulus", "far", "places"]
  a_are_far : AtD K mg "are_far" s_are_far ["modulus", "far", "places"]
  a_most_far : AtD K mg "most_far" s_most_far ["modulus", "far"]
  a_few_far : AtD K mg "few_far" s_few_far ["modulus", "far"]
  a_spread_places : AtD K mg "spread_places" s_spread_places ["modulus", "far"]
  a_law_own_bag : AtD K mg "_law_own_bag" s_law_own_bag ["script"]
  a_law_draw : AtD K mg "_law_draw" s_law_draw ["bag", "below"]
  a_law_pick : AtD K mg "_law_pick" s_law_pick ["bag", "some"]
  a_law_is : AtD K mg "_law_is" s_law_is ["told", "due"]
  a_law_gcd : AtD K mg "_law_gcd" s_law_gcd ["a", "b"]
  a_law_gap : AtD K mg "_law_gap" s_law_gap ["modulus", "a", "b"]
  a_law_modulus : AtD K mg "_law_modulus" s_law_modulus ["bag", "most"]
  a_law_far : AtD K mg "_law_far" s_law_far ["bag", "modulus"]
  a_law_near : AtD K mg "_law_near" s_law_near ["modulus", "far", "places"]
  a_law_turned : AtD K mg "_law_turned" s_law_turned ["modulus", "places", "by"]
  a_law_told : AtD K mg "_law_told" s_law_told ["modulus", "far", "is_named"]
  a_law_grown : AtD K mg "_law_grown" s_law_grown ["bag", "modulus", "far", "first"]
  a_law_is_small_right : AtD K mg "_law_is_small_right" s_law_is_small_right ["bag", "modulus", "far", "is_named"]
  a_law : AtD K mg "law" s_law ["script"]
  b_abs : mg "abs" = none
  b_all : mg "all" = none
  b_any : mg "any" = none
  b_enumerate : mg "enumerate" = none
  b_int : mg "int" = none
  b_len : mg "len" = none
  b_list : mg "list" = none
  b_max : mg "max" = none
  b_min : mg "min" = none
  b_range : mg "range" = none
  b_repr : mg "repr" = none
  b_reversed : mg "reversed" = none
  b_sorted : mg "sorted" = none
  b_tuple : mg "tuple" = none
  g_MAX_LISTED : ∃ t, mg "MAX_LISTED" = some (.int 500 t)
/-- the gap of two places of a circle -/
def cgap (m a b : Int) : Int := if (a - b) % m < (b - a) % m then (a - b) % m else (b - a) % m
theorem back_mod {m a b : Int} (hm : 0 < m) : (a - b) % m = if (b - a) % m = 0 then 0 else m - (b - a) % m := by
  have h1 := Int.emod_add_mul_ediv (b - a) m
  have h2 := Int.emod_nonneg (b - a) (Int.ne_of_gt hm)
  have h3 := Int.emod_lt_of_pos (b - a) hm
  generalize hr : (b - a) % m = r at *
  generalize hq : (b - a) / m = q at *
  split
  · rename_i e
    have : a - b = m * (-q) := by rw [Int.mul_neg]; omega
    rw [this]
    exact Int.mul_emod_right m (-q)
  · rename_i e
    have : a - b = (m - r) + m * (-q - 1) := by rw [Int.mul_sub, Int.mul_neg, Int.mul_one]; omega
    rw [this, Int.add_mul_emod_self_left]
    exact Int.emod_eq_of_lt (by omega) (by omega)
theorem cgap_symm (m a b : Int) : cgap m a b = cgap m b a := by
  unfold cgap
  split <;> split <;> omega
/-- the first pair that is nearer than f -/
def near (m f : Int) : List Int → Option (Int × Int)
  | [] => none
  | a :: r => match r.find? (fun b => decide (cgap m a b < f)) with
    | some b => some (a, b)
    | none => near m f r
def nearD : Option (Int × Int) → PyData
  | some (a, b) => .tuple [.int a, .int b]
  | none => .none
def Far (m f : Int) (l : List Int) : Prop := l.Pairwise fun a b => f ≤ cgap m a b
theorem near_far {m f : Int} : ∀ l : List Int, near m f l = none ↔ Far m f l
  | [] => by simp [near, Far]
  | a :: r => by
    have ih := near_far (m := m) (f := f) r
    unfold Far at ih ⊢
    rw [List.pairwise_cons]
    unfold near
    cases e : r.find? (fun b => decide (cgap m a b < f)) with
    | some b =>
      have h1 := List.find?_some e
      have h2 := List.mem_of_find?_eq_some e
      have h1 : cgap m a b < f := of_decide_eq_true h1
      constructor
      · intro h; cases h
      · intro h; have := h.1 b h2; omega
    | none =>
      rw [List.find?_eq_none] at e
      constructor
      · intro h
        exact ⟨fun b hb => by have := e b hb; simp at this; exact this, ih.mp h⟩
      · intro h; exact ih.mpr h.2
theorem Far.perm {m f : Int} {l l' : List Int} (h : Far m f l) (p : l'.Perm l) : Far m f l' :=
  (p.pairwise_iff fun {a b} q => by rw [cgap_symm]; exact q).mpr h
theorem near_fit (m f : Int) (l : List Int) (hl : ∀ x ∈ l, x.natAbs < 10 ^ 20) : Fit 1 100 (nearD (near m f l)) := by
  induction l with
  | nil => exact Fit.none.mono (by decide) (by decide)
  | cons a r ih =>
    unfold near
    cases e : r.find? (fun b => decide (cgap m a b < f)) with
    | some b =>
      have h2 := List.mem_of_find?_eq_some e
      exact (Fit.tuple (m := 2) (n := 30) (k := 0) (xs := [.int a, .int b]) (fun x hx => by
        simp only [List.mem_cons, List.not_mem_nil, or_false] at hx
        rcases hx with rfl | rfl
        · exact Fit.int (hl _ (by simp))
        · exact Fit.int (hl _ (by simp [h2]))) (Nat.le_refl 2)).mono (by decide) (by decide)
    | none => exact ih fun x hx => hl x (List.mem_cons_of_mem _ hx)
/-- places in order that are far from each other: the last stands far behind -/
theorem chain {m f : Int} (hm : 0 < m) : ∀ (r : List Int) (a : Int), (a :: r).Pairwise (· ≤ ·) → Far m f (a :: r) → (∀ x ∈ a :: r, 0 ≤ x ∧ x < m) → ∃ z ∈ a :: r, a + r.length * f ≤ z
  | [], a, _, _, _ => ⟨a, by simp, by simp⟩
  | b :: r, a, h1, h2, h3 => by
    rw [List.pairwise_cons] at h1
    have h2' := (List.pairwise_cons.mp h2)
    obtain ⟨z, hz, h⟩ := chain hm r b h1.2 h2'.2 fun x hx => h3 x (List.mem_cons_of_mem _ hx)
    refine ⟨z, List.mem_cons_of_mem _ hz, ?_⟩
    have q1 := h1.1 b (by simp)
    have q2 := h2'.1 b (by simp)
    have q3 := h3 a (by simp)
    have q4 := h3 b (by simp)
    have q5 : (b - a) % m = b - a := Int.emod_eq_of_lt (by omega) (by omega)
    unfold cgap at q2
    rw [q5] at q2
    have q6 : f ≤ b - a := by
      split at q2
      · omega
      · exact q2
    rw [List.length_cons, Int.natCast_add, Int.add_mul]
    omega
theorem far_bound {m f : Int} (hm : 0 < m) (hf0 : 1 ≤ f) (hf : f ≤ m) {l : List Int} (h : Far m f l) (hr : ∀ x ∈ l, 0 ≤ x ∧ x < m) : (l.length : Int) * f ≤ m := by
  have p := List.mergeSort_perm l (fun a b => decide (a ≤ b))
  have h' : Far m f (l.mergeSort fun a b => decide (a ≤ b)) := h.perm p
  have hs : (l.mergeSort fun a b => decide (a ≤ b)).Pairwise (· ≤ ·) := by
    have := List.pairwise_mergeSort (le := fun (a b : Int) => decide (a ≤ b)) (by intro a b c; simp; omega) (by intro a b; simp; omega) l
    exact this.imp (by intro a b q; simpa using q)
  have hr' : ∀ x ∈ l.mergeSort (fun a b => decide (a ≤ b)), 0 ≤ x ∧ x < m := fun x hx => hr x (p.mem_iff.mp hx)
  have hl : (l.mergeSort fun a b => decide (a ≤ b)).length = l.length := p.length_eq
  generalize l.mergeSort (fun a b => decide (a ≤ b)) = s at *
  rw [← hl]
  match s, h', hs, hr' with
  | [], _, _, _ => simp; omega
  | [a], _, _, _ => simpa using hf
  | a :: b :: r, h', hs, hr' =>
    obtain ⟨z, hz, hc⟩ := chain hm (b :: r) a hs h' hr'
    have ha := hr' a (by simp)
    have hzr := hr' z hz
    have hz2 : z ∈ b :: r := by
      rcases List.mem_cons.mp hz with e | e
      · exfalso
        have : 0 < ((b :: r).length : Int) * f := Int.mul_pos (by rw [List.length_cons]; omega) (by omega)
        omega
      · exact e
    have g := (List.pairwise_cons.mp h').1 z hz2
    have q1 := (List.pairwise_cons.mp hs).1 z hz2
    have q5 : (z - a) % m = z - a := Int.emod_eq_of_lt (by omega) (by omega)
    unfold cgap at g
    rw [back_mod hm, q5] at g
    have key : f ≤ m - (z - a) := by
      split at g <;> split at g <;> omega
    rw [List.length_cons, Int.natCast_add, Int.add_mul]
    omega
/-- the numbers of Pascal's triangle -/
def ch : Nat → Nat → Nat
  | _, 0 => 1
  | 0, _ + 1 => 0
  | n + 1, k + 1 => ch n k + ch n (k + 1)
theorem ch_zero (n : Nat) : ch n 0 = 1 := by cases n <;> rfl
theorem ch_step : ∀ n k : Nat, ch n (k + 1) * (k + 1) = ch n k * (n - k)
  | 0, k => by simp [ch]
  | n + 1, k => by
    have big : ∀ n k : Nat, n < k → ch n k = 0 := by
      intro n
      induction n with
      | zero => intro k hk; cases k with
        | zero => omega
        | succ k => rfl
      | succ n ih => intro k hk; cases k with
        | zero => omega
        | succ k => show ch n k + ch n (k + 1) = 0; rw [ih k (by omega), ih (k + 1) (by omega)]
    have i1 := ch_step n k
    show (ch n k + ch n (k + 1)) * (k + 1) = ch (n + 1) k * (n + 1 - k)
    by_cases hk : k ≤ n
    · have lhs : (ch n k + ch n (k + 1)) * (k + 1) = ch n k * (n + 1) := by
        rw [Nat.add_mul, i1, ← Nat.mul_add]
        congr 1
        omega
      rw [lhs]
      cases k with
      | zero => rw [ch_zero, ch_zero]; simp
      | succ j =>
        have i2 := ch_step n j
        show ch n (j + 1) * (n + 1) = (ch n j + ch n (j + 1)) * (n + 1 - (j + 1))
        have e : n + 1 - (j + 1) = n - j := by omega
        rw [e, Nat.add_mul, ← i2, ← Nat.mul_add]
        congr 1
        omega
    · rw [big n k (by omega), big n (k + 1) (by omega)]
      have : n + 1 - k = 0 := by omega
      rw [this]
      simp
theorem ch_pos : ∀ n k : Nat, k ≤ n → 0 < ch n k
  | n, 0, _ => by rw [ch_zero]; decide
  | 0, k + 1, h => by omega
  | n + 1, k + 1, h => Nat.lt_of_lt_of_le (ch_pos n k (by omega)) (Nat.le_add_right _ _)
/-! #### picks : slots 0=many 1=few 2=found 3=k -/
theorem sc_picks : FnScope ["many", "few", "found", "k"] ["many", "few"] (defScope s_picks) := ⟨rfl, rfl, rfl, by decide +kernel, rfl, by decide +kernel, by decide +kernel⟩
/-! #### far_lots_count : slots 0=modulus 1=far 2=many -/
theorem sc_far_lots_count : FnScope ["modulus", "far", "many"] ["modulus", "far", "many"] (defScope s_far_lots_count) := ⟨rfl, rfl, rfl, by decide +kernel, rfl, by decide +kernel, by decide +kernel⟩
/-! #### circle_gap : slots 0=modulus 1=a 2=b -/
theorem sc_circle_gap : FnScope ["modulus", "a", "b"] ["modulus", "a", "b"] (defScope s_circle_gap) := ⟨rfl, rfl, rfl, by decide +kernel, rfl, by decide +kernel, by decide +kernel⟩
/-! #### near_pair : slots 0=modulus 1=far 2=places 3=k 4=a 5=b -/
theorem sc_near_pair : FnScope ["modulus", "far", "places", "k", "a", "b"] ["modulus", "far", "places"] (defScope s_near_pair) := ⟨rfl, rfl, rfl, by decide +kernel, rfl, by decide +kernel, by decide +kernel⟩
/-! #### are_far : slots 0=modulus 1=far 2=places -/
theorem sc_are_far : FnScope ["modulus", "far", "places"] ["modulus", "far", "places"] (defScope s_are_far) := ⟨rfl, rfl, rfl, by decide +kernel, rfl, by decide +kernel, by decide +kernel⟩
/-! #### most_far : slots 0=modulus 1=far -/
theorem sc_most_far : FnScope ["modulus", "far"] ["modulus", "far"] (defScope s_most_far) := ⟨rfl, rfl, rfl, by decide +kernel, rfl, by decide +kernel, by decide +kernel⟩
/-! #### few_far : slots 0=modulus 1=far 2=many -/
theorem sc_few_far : FnScope ["modulus", "far", "many"] ["modulus", "far"] (defScope s_few_far) := ⟨rfl, rfl, rfl, by decide +kernel, rfl, by decide +kernel, by decide +kernel⟩
/-! #### spread_places : slots 0=modulus 1=far 2=k -/
theorem sc_spread_places : FnScope ["modulus", "far", "k"] ["modulus", "far"] (defScope s_spread_places) := ⟨rfl, rfl, rfl, by decide +kernel, rfl, by decide +kernel, by decide +kernel⟩
/-! #### _law_own_bag : slots 0=script 1=cells 2=mixed 3=cell -/
theorem sc_law_own_bag : FnScope ["script", "cells", "mixed", "cell"] ["script"] (defScope s_law_own_bag) := ⟨rfl, rfl, rfl, by decide +kernel, rfl, by decide +kernel, by decide +kernel⟩
/-! #### _law_draw : slots 0=bag 1=below 2=cell 3=found -/
theorem sc_law_draw : FnScope ["bag", "below", "cell", "found"] ["bag", "below"] (defScope s_law_draw) := ⟨rfl, rfl, rfl, by decide +kernel, rfl, by decide +kernel, by decide +kernel⟩
/-! #### _law_pick : slots 0=bag 1=some -/
theorem sc_law_pick : FnScope ["bag", "some"] ["bag", "some"] (defScope s_law_pick) := ⟨rfl, rfl, rfl, by decide +kernel, rfl, by decide +kernel, by decide +kernel⟩
/-! #### _law_is : slots 0=told 1=due -/
theorem sc_law_is : FnScope ["told", "due"] ["told", "due"] (defScope s_law_is) := ⟨rfl, rfl, rfl, by decide +kernel, rfl, by decide +kernel, by decide +kernel⟩
/-! #### _law_gcd : slots 0=a 1=b -/
theorem sc_law_gcd : FnScope ["a", "b"] ["a", "b"] (defScope s_law_gcd) := ⟨rfl, rfl, rfl, by decide +kernel, rfl, by decide +kernel, by decide +kernel⟩
/-! #### _law_gap : slots 0=modulus 1=a 2=b 3=ahead -/
theorem sc_law_gap : FnScope ["modulus", "a", "b", "ahead"] ["modulus", "a", "b"] (defScope s_law_gap) := ⟨rfl, rfl, rfl, by decide +kernel, rfl, by decide +kernel, by decide +kernel⟩
/-! #### _law_modulus : slots 0=bag 1=most 2=some -/
theorem sc_law_modulus : FnScope ["bag", "most", "some"] ["bag", "most"] (defScope s_law_modulus) := ⟨rfl, rfl, rfl, by decide +kernel, rfl, by decide +kernel, by decide +kernel⟩
/-! #### _law_far : slots 0=bag 1=modulus 2=some -/
theorem sc_law_far : FnScope ["bag", "modulus", "some"] ["bag", "modulus"] (defScope s_law_far) := ⟨rfl, rfl, rfl, by decide +kernel, rfl, by decide +kernel, by decide +kernel⟩
/-! #### _law_near : slots 0=modulus 1=far 2=places 3=i 4=a 5=b -/
theorem sc_law_near : FnScope ["modulus", "far", "places", "i", "a", "b"] ["modulus", "far", "places"] (defScope s_law_near) := ⟨rfl, rfl, rfl, by decide +kernel, rfl, by decide +kernel, by decide +kernel⟩
/-! #### _law_turned : slots 0=modulus 1=places 2=by 3=a -/
theorem sc_law_turned : FnScope ["modulus", "places", "by", "a"] ["modulus", "places", "by"] (defScope s_law_turned) := ⟨rfl, rfl, rfl, by decide +kernel, rfl, by decide +kernel, by decide +kernel⟩
/-! #### _law_told : slots 0=modulus 1=far 2=is_named -/
theorem sc_law_told : FnScope ["modulus", "far", "is_named"] ["modulus", "far", "is_named"] (defScope s_law_told) := ⟨rfl, rfl, rfl, by decide +kernel, rfl, by decide +kernel, by decide +kernel⟩
/-! #### _law_grown : slots 0=bag 1=modulus 2=far 3=first 4=found 5=step 6=k 7=a 8=b -/
theorem sc_law_grown : FnScope ["bag", "modulus", "far", "first", "found", "step", "k", "a", "b"] ["bag", "modulus", "far", "first"] (defScope s_law_grown) := ⟨rfl, rfl, rfl, by decide +kernel, rfl, by decide +kernel, by decide +kernel⟩
/-! #### _law_is_small_right : slots 0=bag 1=modulus 2=far 3=is_named 4=most 5=turn 6=spread 7=led 8=rest 9=a 10=counts 11=due 12=lot 13=told 14=more 15=k 16=count -/
theorem sc_law_is_small_right : FnScope ["bag", "modulus", "far", "is_named", "most", "turn", "spread", "led", "rest", "a", "counts", "due", "lot", "told", "more", "k", "count"] ["bag", "modulus", "far", "is_named"] (defScope s_law_is_small_right) := ⟨rfl, rfl, rfl, by decide +kernel, rfl, by decide +kernel, by decide +kernel⟩
/-! #### law : slots 0=script 1=bag 2=is_named 3=turn 4=modulus 5=far 6=some 7=told 8=own 9=k -/
theorem sc_law : FnScope ["script", "bag", "is_named", "turn", "modulus", "far", "some", "told", "own", "k"] ["script"] (defScope s_law) := ⟨rfl, rfl, rfl, by decide +kernel, rfl, by decide +kernel, by decide +kernel⟩
section
variable {P : Program} {w : World} {K : PySem.W.Frag} {mg : Str → Option Value} {base : Heap}
/-! #### picks : slots 0=many 1=few 2=found 3=k -/
def td_picks : TSd := (dSeq (dIf (dOr (toB (dOpN fGt 1 (dPeek 0))) (toB (dOpN fLt 0 (dF (dC (.int 0))))))
 (dRet (dC (.int 0)))
 dNext)
 (dSeq (dAsg (dC (.int 1)) (gSet 2))
 (dSeq (dFor (dRange1 (dPeek 1)) (gSet 3)
 (dAsg (dOp fDiv (dOpN fMul 2 (dF (dOpN fSub 0 (dPeek 3)))) (dF (dOpN fAdd 3 (dF (dC (.int 1)))))) (gSet 2)))
 (dRet (dVar 2)))))
theorem dv_picks (T : Txt K mg) (f : Addr) (cdv : Value) (A : Around) (outer : List PySem.Env) (s : Shared) (H : Hp) (E : XK) (hgu : A.guards = some []) (hr : Room 0 (A.deeper (envOfC "picks" (defScope s_picks) s.heap.objs.size f cdv))) :
    SDs (cxOf CX0 P w K mg base ["many", "few", "found", "k"] "picks" (defScope s_picks) f cdv A outer s H E).nox (defBody s_picks) (td_picks) := by
  have hu := hr.units
  have hu65 := units65 hr
  have nd := sc_picks.nd
  exact (sd_cons (sd_if (pb_w (pb_or (pb_cmpN od_gt (pv 1) (pf_name (pv 0)) (nomark _)) (pw_one_or (pb_cmpN od_lt (pv 0) (pf_pd pd_int) (nomark _)))))
 (sd_one (sd_ret pd_int))
 sd_nil)
 (sd_cons (sd_set (i := 2) nd rfl (Or.inl rfl) pd_int)
 (sd_cons (sd_for PassesOwn.never rfl (id_range1 (by rfl) T.b_range (pf_name (pv 1))) (gd_name (pg_name (i := 3) nd rfl (Or.inl rfl)))
 (sd_one (sd_set (i := 2) nd rfl (Or.inl rfl) (pd_op od_div (pd_opN od_mul (pv 2) (pf_pd (pd_opN od_sub (pv 0) (pf_name (pv 3))))) (pf_pd (pd_opN od_add (pv 3) (pf_pd pd_int)))))))
 (sd_one (sd_ret (pd_var (pv 2)))))))
def sp_picks : SpD := fun xs Q => ∃ n k : Nat, xs = [.d (.int n), .d (.int k)] ∧ k ≤ n ∧ n ≤ 100000 ∧ k ≤ 1000 ∧ ∀ c : Int, 0 < c → Q (.d (.int c))
theorem len_picks : ∀ xs Q, sp_picks xs Q → xs.length = 2 := by rintro xs Q ⟨n, k, rfl, h⟩; rfl
theorem pf_picks : ∀ xs Q, sp_picks xs Q → td_picks { nx := fun _ => Q (.d .none), rt := Q } (xs ++ List.replicate (4 - xs.length) .no) := by
  rintro xs Q ⟨n, k, rfl, h1, h2, h3, h⟩
  show td_picks _ [.d (.int n), .d (.int k), .no, .no]
  have rest : ∀ D : EndsD, (∀ c : Int, 0 < c → D.rt (.d (.int c))) → dSeq (dAsg (dC (.int 1)) (gSet 2)) (dSeq (dFor (dRange1 (dPeek 1)) (gSet 3) (dAsg (dOp fDiv (dOpN fMul 2 (dF (dOpN fSub 0 (dPeek 3)))) (dF (dOpN fAdd 3 (dF (dC (.int 1)))))) (gSet 2))) (dRet (dVar 2))) D [.d (.int n), .d (.int k), .no, .no] := by
    intro D hD
    refine ⟨⟨rng_ok (by omega)⟩, for_pre (fun pre η => ∃ x : DV, η = [.d (.int n), .d (.int k), .d (.int (ch n pre.length)), x]) ⟨.no, by rw [List.length_nil, ch_zero]; rfl⟩ ?_ ?_⟩
    · rintro pre d post η he ⟨x, rfl⟩ Nx kk
      have hlen : (rng 0 (k : Int).toNat).length = k := by simp [rng]
      have hpl : pre.length < k := by rw [he] at hlen; simp at hlen; omega
      have hd : d = .int (pre.length : Int) := by
        have : (rng 0 (k : Int).toNat)[pre.length]? = some d := by rw [he]; simp
        rw [rng_get this, Int.zero_add]
      subst hd
      refine ⟨⟨Or.inr (by omega)⟩, ⟨by show (0 : Int) < (pre.length : Int) + 1; omega, by show (pre.length : Int) + 1 < 1073741824; omega⟩, kk _ ⟨.d (.int pre.length), ?_⟩⟩
      have e : ((ch n pre.length : Nat) : Int) * ((n : Int) - (pre.length : Int)) / ((pre.length : Int) + 1) = (ch n (pre.length + 1) : Nat) := by
        have := ch_step n pre.length
        have e2 : ((ch n pre.length : Nat) : Int) * ((n : Int) - (pre.length : Int)) = ((ch n (pre.length + 1) : Nat) : Int) * ((pre.length : Int) + 1) := by
          rw [show ((n : Int) - (pre.length : Int)) = ((n - pre.length : Nat) : Int) by omega, show ((pre.length : Int) + 1) = ((pre.length + 1 : Nat) : Int) by omega, ← Int.natCast_mul, ← Int.natCast_mul, this]
        rw [e2]
        exact Int.mul_ediv_cancel _ (by omega)
      show [DV.d (.int n), .d (.int k), .d (.int (((ch n pre.length : Nat) : Int) * ((n : Int) - (pre.length : Int)) / ((pre.length : Int) + 1))), _] = _
      rw [e, List.length_append]
      rfl
    · rintro η ⟨x, rfl⟩
      have hlen : (rng 0 (k : Int).toNat).length = k := by simp [rng]
      refine hD _ ?_
      have := ch_pos n k h1
      rw [hlen]
      omega
  refine ⟨fun e => absurd (of_decide_eq_true e) (by omega), fun _ => ⟨fun e => absurd (of_decide_eq_true e) (by omega), fun _ => rest _ h⟩⟩
theorem cal_picks (T : Txt K mg) : Cal P w K mg base 1 "picks" s_picks ["many", "few"] (sp_picks) :=
  cal_of T.a_picks sc_picks len_picks (fun f cdv A outer s H E hgu hr => dv_picks T f cdv A outer s H E hgu hr) pf_picks
/-! #### far_lots_count : slots 0=modulus 1=far 2=many -/
def td_far_lots_count : TSd := (dSeq (dIf (toB (dOpN fEq 2 (dF (dC (.int 0)))))
 (dRet (dC (.int 1)))
 dNext)
 (dSeq (dIf (toB (dOp fGt (dOpN fMul 2 (dPeek 1)) (dPeek 0)))
 (dRet (dC (.int 0)))
 dNext)
 (dRet (dOp fDiv (dOpN fMul 0 (dF (dCall sp_picks (dCons (dOp fSub (dOpN fSub 0 (dF (dOpN fMul 2 (dF (dOpN fSub 1 (dF (dC (.int 1)))))))) (dF (dC (.int 1)))) (dCons (dOpN fSub 2 (dF (dC (.int 1)))) dNil))))) (dPeek 2)))))
theorem dv_far_lots_count (T : Txt K mg) (f : Addr) (cdv : Value) (A : Around) (outer : List PySem.Env) (s : Shared) (H : Hp) (E : XK) (hgu : A.guards = some []) (hr : Room 1 (A.deeper (envOfC "far_lots_count" (defScope s_far_lots_count) s.heap.objs.size f cdv))) :
    SDs (cxOf CX0 P w K mg base ["modulus", "far", "many"] "far_lots_count" (defScope s_far_lots_count) f cdv A outer s H E).nox (defBody s_far_lots_count) (td_far_lots_count) := by
  have hu := hr.units
  have hu65 := units65 hr
  have nd := sc_far_lots_count.nd
  exact (sd_cons (sd_if (pb_cmpN (od_eq hu) (pv 2) (pf_pd pd_int) (nomark _))
 (sd_one (sd_ret pd_int))
 sd_nil)
 (sd_cons (sd_if (pb_cmp od_gt (pd_opN od_mul (pv 2) (pf_name (pv 1))) (pf_name (pv 0)) (nomark _))
 (sd_one (sd_ret pd_int))
 sd_nil)
 (sd_one (sd_ret (pd_op od_div (pd_opN od_mul (pv 0) (pf_pd (pd_callC (cal_picks T) hgu (hr.mono (by decide)) (by rfl) (pl_cons (pd_op od_sub (pd_opN od_sub (pv 0) (pf_pd (pd_opN od_mul (pv 2) (pf_pd (pd_opN od_sub (pv 1) (pf_pd pd_int)))))) (pf_pd pd_int)) (pl_cons (pd_opN od_sub (pv 2) (pf_pd pd_int)) pl_nil))))) (pf_name (pv 2)))))))
def sp_far_lots_count : SpD := fun xs Q => ∃ m f k : Int, xs = [.d (.int m), .d (.int f), .d (.int k)] ∧ 1 ≤ f ∧ f ≤ m ∧ m ≤ 1000 ∧ 0 ≤ k ∧ k ≤ 100 ∧ ∀ c : Int, decide (0 < c) = decide (k ≤ m / f) → Q (.d (.int c))
theorem len_far_lots_count : ∀ xs Q, sp_far_lots_count xs Q → xs.length = 3 := by rintro xs Q ⟨m, f, k, rfl, h⟩; rfl
theorem pf_far_lots_count : ∀ xs Q, sp_far_lots_count xs Q → td_far_lots_count { nx := fun _ => Q (.d .none), rt := Q } (xs ++ List.replicate (3 - xs.length) .no) := by
  rintro xs Q ⟨m, f, k, rfl, h1, h2, h3, h4, h5, h⟩
  show td_far_lots_count _ [.d (.int m), .d (.int f), .d (.int k)]
  have hle : k ≤ m / f ↔ k * f ≤ m := Int.le_ediv_iff_mul_le (by omega)
  refine ⟨fun e => ?_, fun e => ⟨⟨Or.inl (by omega)⟩, fun e2 => ?_, fun e2 => ?_⟩⟩
  · have : k = 0 := of_decide_eq_true e
    subst this
    refine h 1 ?_
    rw [decide_eq_true (by decide), decide_eq_true (hle.mpr (by omega))]
  · have := of_decide_eq_true e2
    refine h 0 ?_
    rw [decide_eq_false (by decide), decide_eq_false (by omega)]
  · have hk0 : ¬ k = 0 := of_decide_eq_false e
    have hkf : ¬ m < k * f := of_decide_eq_false e2
    have e3 : k * (f - 1) = k * f - k := by rw [Int.mul_sub, Int.mul_one]
    have e4 : 0 ≤ k * (f - 1) := Int.mul_nonneg h4 (by omega)
    have hkm : k ≤ m := by
      have : k * 1 ≤ k * f := Int.mul_le_mul_of_nonneg_left h1 h4
      omega
    refine ⟨⟨Or.inl (by omega)⟩, (m - k * (f - 1) - 1).toNat, (k - 1).toNat, ?_, by omega, by omega, by omega, fun c hc => ⟨⟨Or.inl (by omega)⟩, ⟨by omega, by omega⟩, h _ ?_⟩⟩
    · rw [Int.toNat_of_nonneg (by omega), Int.toNat_of_nonneg (by omega)]
      rfl
    · rw [decide_eq_true (hle.mpr (by omega)), decide_eq_true_eq]
      have : m * 1 ≤ m * c := Int.mul_le_mul_of_nonneg_left (by omega) (by omega)
      exact Int.lt_of_lt_of_le (by decide : (0 : Int) < 1) ((Int.le_ediv_iff_mul_le (by omega)).mpr (by omega))
theorem cal_far_lots_count (T : Txt K mg) : Cal P w K mg base 2 "far_lots_count" s_far_lots_count ["modulus", "far", "many"] (sp_far_lots_count) :=
  cal_of T.a_far_lots_count sc_far_lots_count len_far_lots_count (fun f cdv A outer s H E hgu hr => dv_far_lots_count T f cdv A outer s H E hgu hr) pf_far_lots_count
/-! #### circle_gap : slots 0=modulus 1=a 2=b -/
def td_circle_gap : TSd := (dRet (dOp fMin (dOp fMod (dOpN fSub 2 (dPeek 1)) (dPeek 0)) (dF (dOp fMod (dOpN fSub 1 (dPeek 2)) (dPeek 0)))))
theorem dv_circle_gap (T : Txt K mg) (f : Addr) (cdv : Value) (A : Around) (outer : List PySem.Env) (s : Shared) (H : Hp) (E : XK) (hgu : A.guards = some []) (hr : Room 0 (A.deeper (envOfC "circle_gap" (defScope s_circle_gap) s.heap.objs.size f cdv))) :
    SDs (cxOf CX0 P w K mg base ["modulus", "a", "b"] "circle_gap" (defScope s_circle_gap) f cdv A outer s H E).nox (defBody s_circle_gap) (td_circle_gap) := by
  have hu := hr.units
  have hu65 := units65 hr
  have nd := sc_circle_gap.nd
  exact (sd_one (sd_ret (pd_b2 (cd_min rfl) (pd_op od_mod (pd_opN od_sub (pv 2) (pf_name (pv 1))) (pf_name (pv 0))) (pf_pd (pd_op od_mod (pd_opN od_sub (pv 1) (pf_name (pv 2))) (pf_name (pv 0)))) (by rfl) T.b_min (by decide +kernel))))
def spGap : SpD := fun xs Q => ∃ m a b : Int, xs = [.d (.int m), .d (.int a), .d (.int b)] ∧ 0 < m ∧ Q (.d (.int (cgap m a b)))
theorem spGap_len : ∀ xs Q, spGap xs Q → xs.length = 3 := by rintro xs Q ⟨m, f, k, rfl, h⟩; rfl
abbrev sp_circle_gap : SpD := spGap
theorem len_circle_gap : ∀ xs Q, sp_circle_gap xs Q → xs.length = 3 := spGap_len
theorem pf_circle_gap : ∀ xs Q, sp_circle_gap xs Q → td_circle_gap { nx := fun _ => Q (.d .none), rt := Q } (xs ++ List.replicate (3 - xs.length) .no) := by
  rintro xs Q ⟨m, a, b, rfl, h1, h⟩
  exact ⟨⟨h1⟩, ⟨h1⟩, h⟩
theorem cal_circle_gap (T : Txt K mg) : Cal P w K mg base 1 "circle_gap" s_circle_gap ["modulus", "a", "b"] (sp_circle_gap) :=
  cal_of T.a_circle_gap sc_circle_gap len_circle_gap (fun f cdv A outer s H E hgu hr => dv_circle_gap T f cdv A outer s H E hgu hr) pf_circle_gap
/-! #### near_pair : slots 0=modulus 1=far 2=places 3=k 4=a 5=b -/
def td_near_pair : TSd := (dSeq (dFor (dEnum (dVar 2)) (dgSeq 2 (gsCons (gSet 3) (gsCons (gSet 4) gsNil)))
 (dFor (dIn (dCutN 2 (dSome (dF (dOpN fAdd 3 (dF (dC (.int 1)))))) dNo)) (gSet 5)
 (dIf (toB (dOp fLt (dCall sp_circle_gap (dCons (dVar 0) (dCons (dVar 4) (dCons (dVar 5) dNil)))) (dPeek 1)))
 (dRet (dTup (dCons (dVar 4) (dCons (dVar 5) dNil))))
 dNext)))
 (dRet (dC .none)))
theorem dv_near_pair (T : Txt K mg) (f : Addr) (cdv : Value) (A : Around) (outer : List PySem.Env) (s : Shared) (H : Hp) (E : XK) (hgu : A.guards = some []) (hr : Room 1 (A.deeper (envOfC "near_pair" (defScope s_near_pair) s.heap.objs.size f cdv))) :
    SDs (cxOf CX0 P w K mg base ["modulus", "far", "places", "k", "a", "b"] "near_pair" (defScope s_near_pair) f cdv A outer s H E).nox (defBody s_near_pair) (td_near_pair) := by
  have hu := hr.units
  have hu65 := units65 hr
  have nd := sc_near_pair.nd
  exact (sd_cons (sd_for PassesOwn.never rfl (id_enum (by rfl) T.b_enumerate (pd_var (pv 2))) (gd_seq rfl (gds_cons (gd_name (pg_name (i := 3) nd rfl (Or.inl rfl))) (gds_cons (gd_name (pg_name (i := 4) nd rfl (Or.inl rfl))) gds_nil)))
 (sd_one (sd_for PassesOwn.never rfl (id_seq (pd_cutN (pv 2) (po_of (pf_pd (pd_opN od_add (pv 3) (pf_pd pd_int)))) po_no)) (gd_name (pg_name (i := 5) nd rfl (Or.inl rfl)))
 (sd_one (sd_if (pb_cmp od_lt (pd_callC (cal_circle_gap T) hgu (hr.mono (by decide)) (by rfl) (pl_cons (pd_var (pv 0)) (pl_cons (pd_var (pv 4)) (pl_cons (pd_var (pv 5)) pl_nil)))) (pf_name (pv 1)) (nomark _))
 (sd_one (sd_ret (pd_tup (pl_cons (pd_var (pv 4)) (pl_cons (pd_var (pv 5)) pl_nil)))))
 sd_nil)))))
 (sd_one (sd_ret pd_non)))
def spNear : SpD := fun xs Q => ∃ (m f : Int) (l : List Int), xs = [.d (.int m), .d (.int f), .d (.tuple (zints l))] ∧ 0 < m ∧ l.length ≤ 5000 ∧ Q (.d (nearD (near m f l)))
theorem spNear_len : ∀ xs Q, spNear xs Q → xs.length = 3 := by rintro xs Q ⟨m, f, k, rfl, h⟩; rfl
abbrev sp_near_pair : SpD := spNear
theorem len_near_pair : ∀ xs Q, sp_near_pair xs Q → xs.length = 3 := spNear_len
theorem pf_near_pair : ∀ xs Q, sp_near_pair xs Q → td_near_pair { nx := fun _ => Q (.d .none), rt := Q } (xs ++ List.replicate (6 - xs.length) .no) := by
  rintro xs Q ⟨m, f, l, rfl, h1, h2, h⟩
  show td_near_pair _ [.d (.int m), .d (.int f), .d (.tuple (zints l)), .no, .no, .no]
  refine for_inv (fun rest η => ∃ (pre suf : List Int) (x3 x4 x5 : DV), l = pre ++ suf ∧ rest = enumD pre.length (zints suf) ∧ near m f l = near m f suf ∧ η = [.d (.int m), .d (.int f), .d (.tuple (zints l)), x3, x4, x5]) ⟨[], l, .no, .no, .no, rfl, rfl, rfl, rfl⟩ ?_ ?_
  · rintro d ds η ⟨pre, suf, x3, x4, x5, e1, e2, e3, rfl⟩ Nx k
    match suf, e1, e2, e3 with
    | a :: r, e1, e2, e3 =>
      obtain ⟨rfl, e4⟩ : d = .tuple [.int (pre.length : Int), .int a] ∧ ds = enumD (pre.length + 1) (zints r) := by
        have : d :: ds = (.tuple [.int (pre.length : Int), .int a] : PyData) :: enumD (pre.length + 1) (zints r) := e2
        exact ⟨(List.cons.inj this).1, (List.cons.inj this).2⟩
      refine ⟨⟨rfl⟩, ?_⟩
      have hcut : cut (zints l) (some ((pre.length : Int) + 1)) none = zints r := by
        rw [cut_z]
        have := cut_from l (pre.length + 1)
        rw [show ((pre.length : Int) + 1) = ((pre.length + 1 : Nat) : Int) by omega, this, e1]
        congr 1
        rw [show pre ++ a :: r = (pre ++ [a]) ++ r by simp, show pre.length + 1 = (pre ++ [a]).length by simp]
        exact List.drop_left ..
      show Need (forRec _ _ _ (cut (zints l) (some ((pre.length : Int) + 1)) none) _)
      rw [hcut]
      refine for_inv (fun rest η => ∃ (suf2 : List Int) (x5 : DV), rest = zints suf2 ∧ near m f (a :: r) = (match suf2.find? (fun b => decide (cgap m a b < f)) with | some b => some (a, b) | none => near m f r) ∧ η = [.d (.int m), .d (.int f), .d (.tuple (zints l)), .d (.int pre.length), .d (.int a), x5]) ⟨r, x5, rfl, rfl, rfl⟩ ?_ ?_
      · rintro d ds2 η ⟨suf2, x5, f1, f2, rfl⟩ Nx2 k2
        match suf2, f1, f2 with
        | b :: r2, f1, f2 =>
          obtain ⟨rfl, rfl⟩ : d = .int b ∧ ds2 = zints r2 := ⟨(List.cons.inj f1).1, (List.cons.inj f1).2⟩
          refine ⟨m, a, b, rfl, h1, ⟨fun e => ?_, fun e => ?_⟩⟩
          · rw [List.find?_cons_of_pos (by exact e)] at f2
            rw [e3, f2] at h
            exact h
          · rw [List.find?_cons_of_neg (by rw [e]; decide)] at f2
            exact k2 _ ⟨r2, _, rfl, f2, rfl⟩
      · rintro η ⟨suf2, x5, f1, f2, rfl⟩
        have : suf2 = [] := by
          cases suf2 with
          | nil => rfl
          | cons _ _ => cases f1
        subst this
        exact k _ ⟨pre ++ [a], r, _, _, _, by rw [e1]; simp, by rw [e4]; simp, e3.trans f2, rfl⟩
    | [], e1, e2, e3 => cases e2
  · rintro η ⟨pre, suf, x3, x4, x5, e1, e2, e3, rfl⟩
    have : suf = [] := by
      cases suf with
      | nil => rfl
      | cons _ _ => cases e2
    subst this
    rw [e3] at h
    exact h
theorem cal_near_pair (T : Txt K mg) : Cal P w K mg base 2 "near_pair" s_near_pair ["modulus", "far", "places"] (sp_near_pair) :=
  cal_of T.a_near_pair sc_near_pair len_near_pair (fun f cdv A outer s H E hgu hr => dv_near_pair T f cdv A outer s H E hgu hr) pf_near_pair
/-! #### are_far : slots 0=modulus 1=far 2=places -/
def td_are_far : TSd := (dRet (dOp (fIs false) (dCall sp_near_pair (dCons (dVar 0) (dCons (dVar 1) (dCons (dVar 2) dNil)))) (dF (dC .none))))
theorem dv_are_far (T : Txt K mg) (f : Addr) (cdv : Value) (A : Around) (outer : List PySem.Env) (s : Shared) (H : Hp) (E : XK) (hgu : A.guards = some []) (hr : Room 2 (A.deeper (envOfC "are_far" (defScope s_are_far) s.heap.objs.size f cdv))) :
    SDs (cxOf CX0 P w K mg base ["modulus", "far", "places"] "are_far" (defScope s_are_far) f cdv A outer s H E).nox (defBody s_are_far) (td_are_far) := by
  have hu := hr.units
  have hu65 := units65 hr
  have nd := sc_are_far.nd
  exact (sd_one (sd_ret (pd_cmp od_is (pd_callC (cal_near_pair T) hgu (hr.mono (by decide)) (by rfl) (pl_cons (pd_var (pv 0)) (pl_cons (pd_var (pv 1)) (pl_cons (pd_var (pv 2)) pl_nil)))) (pf_pd pd_non) (nomark _))))
def sp_are_far : SpD := fun xs Q => ∃ (m f : Int) (l : List Int), xs = [.d (.int m), .d (.int f), .d (.tuple (zints l))] ∧ 0 < m ∧ l.length ≤ 5000 ∧ Q (.d (.bool (near m f l).isNone))
theorem len_are_far : ∀ xs Q, sp_are_far xs Q → xs.length = 3 := by rintro xs Q ⟨m, f, k, rfl, h⟩; rfl
theorem nearD_none (o : Option (Int × Int)) : isNone (nearD o) = o.isNone := by
  cases o with
  | none => rfl
  | some p => rfl
theorem pf_are_far : ∀ xs Q, sp_are_far xs Q → td_are_far { nx := fun _ => Q (.d .none), rt := Q } (xs ++ List.replicate (3 - xs.length) .no) := by
  rintro xs Q ⟨m, f, l, rfl, h1, h2, h⟩
  refine ⟨m, f, l, rfl, h1, h2, ?_⟩
  show Q (.d (.bool (isNone (nearD (near m f l)))))
  rw [nearD_none]
  exact h
theorem cal_are_far (T : Txt K mg) : Cal P w K mg base 3 "are_far" s_are_far ["modulus", "far", "places"] (sp_are_far) :=
  cal_of T.a_are_far sc_are_far len_are_far (fun f cdv A outer s H E hgu hr => dv_are_far T f cdv A outer s H E hgu hr) pf_are_far
/-! #### most_far : slots 0=modulus 1=far -/
def td_most_far : TSd := (dRet (dOpN fDiv 0 (dPeek 1)))
theorem dv_most_far (T : Txt K mg) (f : Addr) (cdv : Value) (A : Around) (outer : List PySem.Env) (s : Shared) (H : Hp) (E : XK) (hgu : A.guards = some []) (hr : Room 0 (A.deeper (envOfC "most_far" (defScope s_most_far) s.heap.objs.size f cdv))) :
    SDs (cxOf CX0 P w K mg base ["modulus", "far"] "most_far" (defScope s_most_far) f cdv A outer s H E).nox (defBody s_most_far) (td_most_far) := by
  have hu := hr.units
  have hu65 := units65 hr
  have nd := sc_most_far.nd
  exact (sd_one (sd_ret (pd_opN od_div (pv 0) (pf_name (pv 1)))))
def sp_most_far : SpD := fun xs Q => ∃ m f : Int, xs = [.d (.int m), .d (.int f)] ∧ 0 < f ∧ f ≤ 1000000 ∧ Q (.d (.int (m / f)))
theorem len_most_far : ∀ xs Q, sp_most_far xs Q → xs.length = 2 := by rintro xs Q ⟨m, f, rfl, h⟩; rfl
theorem pf_most_far : ∀ xs Q, sp_most_far xs Q → td_most_far { nx := fun _ => Q (.d .none), rt := Q } (xs ++ List.replicate (2 - xs.length) .no) := by
  rintro xs Q ⟨m, f, rfl, h1, h2, h⟩
  exact ⟨⟨h1, by omega⟩, h⟩
theorem cal_most_far (T : Txt K mg) : Cal P w K mg base 1 "most_far" s_most_far ["modulus", "far"] (sp_most_far) :=
  cal_of T.a_most_far sc_most_far len_most_far (fun f cdv A outer s H E hgu hr => dv_most_far T f cdv A outer s H E hgu hr) pf_most_far
/-! #### few_far : slots 0=modulus 1=far 2=many -/
def td_few_far : TSd := (dSeq (dAsg (dCall sp_most_far (dCons (dVar 0) (dCons (dVar 1) dNil))) (gSet 2))
 (dSeq (dIf (toB (dOpN fGt 2 (dF (dC (.int 500)))))
 dNever
 dNext)
 (dRet (dVar 2))))
theorem dv_few_far (T : Txt K mg) (f : Addr) (cdv : Value) (A : Around) (outer : List PySem.Env) (s : Shared) (H : Hp) (E : XK) (hgu : A.guards = some []) (hr : Room 1 (A.deeper (envOfC "few_far" (defScope s_few_far) s.heap.objs.size f cdv))) :
    SDs (cxOf CX0 P w K mg base ["modulus", "far", "many"] "few_far" (defScope s_few_far) f cdv A outer s H E).nox (defBody s_few_far) (td_few_far) := by
  have hu := hr.units
  have hu65 := units65 hr
  have nd := sc_few_far.nd
  exact (sd_cons (sd_set (i := 2) nd rfl (Or.inl rfl) (pd_callC (cal_most_far T) hgu (hr.mono (by decide)) (by rfl) (pl_cons (pd_var (pv 0)) (pl_cons (pd_var (pv 1)) pl_nil))))
 (sd_cons (sd_if (pb_cmpN od_gt (pv 2) (pf_pd (pd_glob (by rfl) T.g_MAX_LISTED)) (nomark _))
 (sd_one sd_never)
 sd_nil)
 (sd_one (sd_ret (pd_var (pv 2))))))
def sp_few_far : SpD := fun xs Q => ∃ m f : Int, xs = [.d (.int m), .d (.int f)] ∧ 0 < f ∧ f ≤ 1000000 ∧ m / f ≤ 500 ∧ Q (.d (.int (m / f)))
theorem len_few_far : ∀ xs Q, sp_few_far xs Q → xs.length = 2 := by rintro xs Q ⟨m, f, rfl, h⟩; rfl
theorem pf_few_far : ∀ xs Q, sp_few_far xs Q → td_few_far { nx := fun _ => Q (.d .none), rt := Q } (xs ++ List.replicate (3 - xs.length) .no) := by
  rintro xs Q ⟨m, f, rfl, h1, h2, h3, h⟩
  show td_few_far _ [.d (.int m), .d (.int f), .no]
  exact ⟨m, f, rfl, h1, h2, ⟨fun e => absurd (of_decide_eq_true e) (by omega), fun _ => h⟩⟩
theorem cal_few_far (T : Txt K mg) : Cal P w K mg base 2 "few_far" s_few_far ["modulus", "far"] (sp_few_far) :=
  cal_of T.a_few_far sc_few_far len_few_far (fun f cdv A outer s H E hgu hr => dv_few_far T f cdv A outer s H E hgu hr) pf_few_far
/-! #### spread_places : slots 0=modulus 1=far 2=k -/
def td_spread_places : TSd := (dRet (dB1 fTupOf (dF (dComp [2] (dRange1 (dF (dCall sp_few_far (dCons (dVar 0) (dCons (dVar 1) dNil))))) (gSet 2) dYes (dOpN fMul 1 (dPeek 2))))))
theorem dv_spread_places (T : Txt K mg) (f : Addr) (cdv : Value) (A : Around) (outer : List PySem.Env) (s : Shared) (H : Hp) (E : XK) (hgu : A.guards = some []) (hr : Room 2 (A.deeper (envOfC "spread_places" (defScope s_spread_places) s.heap.objs.size f cdv))) :
    SDs (cxOf CX0 P w K mg base ["modulus", "far", "k"] "spread_places" (defScope s_spread_places) f cdv A outer s H E).nox (defBody s_spread_places) (td_spread_places) := by
  have hu := hr.units
  have hu65 := units65 hr
  have nd := sc_spread_places.nd
  exact (sd_one (sd_ret (pd_ty1 cd_tuple (pf_pd (pd_comp (own := [("k", 2)]) rfl nd (id_range1 (by rfl) T.b_range (pf_pd (pd_callC (cal_few_far T) hgu (hr.mono (by decide)) (by rfl) (pl_cons (pd_var (pv 0)) (pl_cons (pd_var (pv 1)) pl_nil))))) (show BlkOk ["modulus", "far", "k"] (defScope s_spread_places) _ [("k", 2)] from blkOk_by (by decide +kernel)) (fun _ _ _ _ _ => (pg_name (i := 2) nd rfl (Or.inl rfl))) (gok_name (by decide)) (fun _ _ _ _ _ => pts_no) (fun _ _ _ _ _ => (pd_opN od_mul (pv 1) (pf_name (pv 2)))))) (by rfl) T.b_tuple (by decide +kernel))))
def spread (m f : Int) : List Int := (List.range (m / f).toNat).map fun (k : Nat) => f * k
def sp_spread_places : SpD := fun xs Q => ∃ m f : Int, xs = [.d (.int m), .d (.int f)] ∧ 0 < f ∧ f ≤ 1000000 ∧ 0 ≤ m ∧ m / f ≤ 500 ∧ Q (.d (.tuple (zints (spread m f))))
theorem len_spread_places : ∀ xs Q, sp_spread_places xs Q → xs.length = 2 := by rintro xs Q ⟨m, f, rfl, h⟩; rfl
theorem pf_spread_places : ∀ xs Q, sp_spread_places xs Q → td_spread_places { nx := fun _ => Q (.d .none), rt := Q } (xs ++ List.replicate (3 - xs.length) .no) := by
  rintro xs Q ⟨m, f, rfl, h1, h2, h3, h4, h⟩
  show td_spread_places _ [.d (.int m), .d (.int f), .no]
  have hq : 0 ≤ m / f := Int.ediv_nonneg h3 (by omega)
  have hr : rng 0 (m / f).toNat = nints (List.range (m / f).toNat) := rng0 _
  refine ⟨m, f, rfl, h1, h2, h4, ⟨by omega, by omega⟩, ⟨by rw [hr]; simp; omega⟩, comp_map (fun d => match d with | .int k => .int (f * k) | _ => .none) ?_ ?_⟩
  · intro d hd C F k
    rw [hr] at hd
    obtain ⟨j, hj, rfl⟩ := List.mem_map.mp hd
    exact ⟨fun _ => ⟨⟨Or.inl (by omega)⟩, ⟨rfl⟩, k⟩, fun q => nomatch q⟩
  have e : (rng 0 (m / f).toNat).map (fun d => match d with | .int k => .int (f * k) | _ => .none) = zints (spread m f) := by
    rw [hr]
    unfold nints zints spread
    rw [List.map_map, List.map_map]
    rfl
  rw [e]
  exact h
theorem cal_spread_places (T : Txt K mg) : Cal P w K mg base 3 "spread_places" s_spread_places ["modulus", "far"] (sp_spread_places) :=
  cal_of T.a_spread_places sc_spread_places len_spread_places (fun f cdv A outer s H E hgu hr => dv_spread_places T f cdv A outer s H E hgu hr) pf_spread_places
/-! #### _law_own_bag : slots 0=script 1=cells 2=mixed 3=cell -/
def td_law_own_bag (K : PySem.W.Frag) : TSd := (dSeq (dAsg (dComp [3] (dIn (dScr K 0 63)) (gSet 3) dYes (dB1 fAbs (dPeek 3))) (gSet 1))
 (dSeq (dAsg (dOp fAdd (dC (.int 21637003)) (dF (dB1 fLen (dPeek 1)))) (gSet 2))
 (dSeq (dFor (dIn (dVar 1)) (gSet 3)
 (dAsg (dOp fMod (dB1 fInt (dF (dOp fAdd (dOp fAdd (dOpN fMul 2 (dF (dC (.int 48271)))) (dF (dOp fMod (dB1 fInt (dPeek 3)) (dF (dC (.int 2147483629)))))) (dF (dC (.int 7)))))) (dF (dC (.int 2147483647)))) (gSet 2)))
 (dRet (dMkBag (dCons (dB1 fRev (dF (dB1 fListOf (dPeek 1)))) (dCons (dC (.int 0)) (dCons (dVar 2) dNil))))))))
theorem dv_law_own_bag (T : Txt K mg) (f : Addr) (cdv : Value) (A : Around) (outer : List PySem.Env) (s : Shared) (H : Hp) (E : XK) (hgu : A.guards = some []) (hr : Room 0 (A.deeper (envOfC "_law_own_bag" (defScope s_law_own_bag) s.heap.objs.size f cdv))) :
    SDs (cxOf CX0 P w K mg base ["script", "cells", "mixed", "cell"] "_law_own_bag" (defScope s_law_own_bag) f cdv A outer s H E).nox (defBody s_law_own_bag) (td_law_own_bag K) := by
  have hu := hr.units
  have hu65 := units65 hr
  have nd := sc_law_own_bag.nd
  exact (sd_cons (sd_setComp (i := 1) (own := [("cell", 3)]) rfl nd rfl rfl (sw_true rfl rfl rfl (by decide +kernel)) (id_seq (pd_scr (n := 63) (pv 0) pe_int)) (show BlkOk ["script", "cells", "mixed", "cell"] (defScope s_law_own_bag) _ [("cell", 3)] from blkOk_by (by decide +kernel)) (fun _ _ _ _ _ => (pg_name (i := 3) nd rfl (Or.inl rfl))) (gok_name (by decide)) (fun _ _ _ _ _ => pts_no) (fun _ _ _ _ _ => (pd_b1 cd_abs (pf_name (pv 3)) (by rfl) T.b_abs (by decide +kernel))))
 (sd_cons (sd_set (i := 2) nd rfl (Or.inl rfl) (pd_op od_add pd_int (pf_pd (pd_b1 cd_len (pf_name (pv 1)) (by rfl) T.b_len (by decide +kernel)))))
 (sd_cons (sd_for PassesOwn.never rfl (id_seq (pd_var (pv 1))) (gd_name (pg_name (i := 3) nd rfl (Or.inl rfl)))
 (sd_one (sd_set (i := 2) nd rfl (Or.inl rfl) (pd_op od_mod (pd_ty1 cd_int (pf_pd (pd_op od_add (pd_op od_add (pd_opN od_mul (pv 2) (pf_pd pd_int)) (pf_pd (pd_op od_mod (pd_ty1 cd_int (pf_name (pv 3)) (by rfl) T.b_int (by decide +kernel)) (pf_pd pd_int)))) (pf_pd pd_int))) (by rfl) T.b_int (by decide +kernel)) (pf_pd pd_int)))))
 (sd_one (sd_ret (pd_mkBag (pl_cons (pd_lstRev rfl (by rfl) T.b_list (by rfl) T.b_reversed (pf_pd (pd_ty1 cd_list (pf_name (pv 1)) (by rfl) T.b_list (by decide +kernel)))) (pl_cons pd_int (pl_cons (pd_var (pv 2)) pl_nil)))))))))
abbrev sp_law_own_bag (K : PySem.W.Frag) : SpD := spOwnBag K
theorem len_law_own_bag {K : PySem.W.Frag} : ∀ xs Q, sp_law_own_bag K xs Q → xs.length = 1 := spOwnBag_len
theorem pf_law_own_bag {K : PySem.W.Frag} : ∀ xs Q, sp_law_own_bag K xs Q → td_law_own_bag K { nx := fun _ => Q (.d .none), rt := Q } (xs ++ List.replicate (4 - xs.length) .no) := ownBag_pf1 (by decide) (by decide)
theorem cal_law_own_bag (T : Txt K mg) : Cal P w K mg base 1 "_law_own_bag" s_law_own_bag ["script"] (sp_law_own_bag K) :=
  cal_of T.a_law_own_bag sc_law_own_bag len_law_own_bag (fun f cdv A outer s H E hgu hr => dv_law_own_bag T f cdv A outer s H E hgu hr) pf_law_own_bag
/-! #### _law_draw : slots 0=bag 1=below 2=cell 3=found -/
def td_law_draw : TSd := (dSeq (dBagLoop 0 2)
 (dSeq (dIf (toB (dOp fGt (dBagK 0) (dF (dC (.int 0)))))
 (dSeq (dAsg (dOp fMod (dB1 fInt (dF (dBagK 0))) (dPeek 1)) (gSet 3))
 (dSeq (dAsg (dOp fDiv (dB1 fInt (dF (dBagK 0))) (dPeek 1)) (gBagK 0))
 (dRet (dVar 3))))
 dNext)
 (dSeq (dAsg (dOp fMod (dB1 fInt (dF (dOp fAdd (dOp fMul (dBagM 0) (dF (dC (.int 48271)))) (dF (dC (.int 11)))))) (dF (dC (.int 2147483647)))) (gBagM 0))
 (dRet (dOp fMod (dB1 fInt (dF (dOp fDiv (dOp fMod (dB1 fInt (dF (dOp fMul (dBagM 0) (dF (dBagM 0))))) (dF (dC (.int 2147483629)))) (dF (dC (.int 7)))))) (dPeek 1))))))
theorem dv_law_draw (T : Txt K mg) (f : Addr) (cdv : Value) (A : Around) (outer : List PySem.Env) (s : Shared) (H : Hp) (E : XK) (hgu : A.guards = some []) (hr : Room 0 (A.deeper (envOfC "_law_draw" (defScope s_law_draw) s.heap.objs.size f cdv))) :
    SDs (cxOf CX0 P w K mg base ["bag", "below", "cell", "found"] "_law_draw" (defScope s_law_draw) f cdv A outer s H E).nox (defBody s_law_draw) (td_law_draw) := by
  have hu := hr.units
  have hu65 := units65 hr
  have nd := sc_law_draw.nd
  exact (sd_cons (sd_bagLoop PassesOwn.never (bagTestD hu (pv 0) (pv 0)) (pss_cons (ps_set (i := 2) nd rfl (Or.inl rfl) (pe_bm0 PySem.F.plainAttrs_list PySem.F.slot_list_pop PySem.F.type_list_pop mt_pop (pe_ix ix_list (pv 0) pe_int (by intro _ _; rfl)) (by rfl) (by rfl))) (pss_one (ps_asg (pe_ifExp (pt_cmpR op_gt (pv 2) (pe_op op_pow pe_int pe_int) (nomark _)) (pv 2) pe_int) (pg_sub (pv 0) pe_int set_list (by intro _; rfl))))) (by show 2 < 4; decide))
 (sd_cons (sd_if (pb_cmp od_gt (pd_bagK (pv 0) pe_int) (pf_pd pd_int) (nomark _))
 (sd_cons (sd_set (i := 3) nd rfl (Or.inl rfl) (pd_op od_mod (pd_ty1 cd_int (pf_pd (pd_bagK (pv 0) pe_int)) (by rfl) T.b_int (by decide +kernel)) (pf_name (pv 1))))
 (sd_cons (sd_asg (pd_op od_div (pd_ty1 cd_int (pf_pd (pd_bagK (pv 0) pe_int)) (by rfl) T.b_int (by decide +kernel)) (pf_name (pv 1))) (gd_bagK (pv 0) pe_int))
 (sd_one (sd_ret (pd_var (pv 3))))))
 sd_nil)
 (sd_cons (sd_asg (pd_op od_mod (pd_ty1 cd_int (pf_pd (pd_op od_add (pd_op od_mul (pd_bagM (pv 0) pe_int) (pf_pd pd_int)) (pf_pd pd_int))) (by rfl) T.b_int (by decide +kernel)) (pf_pd pd_int)) (gd_bagM (pv 0) pe_int))
 (sd_one (sd_ret (pd_op od_mod (pd_ty1 cd_int (pf_pd (pd_op od_div (pd_op od_mod (pd_ty1 cd_int (pf_pd (pd_op od_mul (pd_bagM (pv 0) pe_int) (pf_pd (pd_bagM (pv 0) pe_int)))) (by rfl) T.b_int (by decide +kernel)) (pf_pd pd_int)) (pf_pd pd_int))) (by rfl) T.b_int (by decide +kernel)) (pf_name (pv 1))))))))
abbrev sp_law_draw : SpD := spDraw
theorem len_law_draw : ∀ xs Q, sp_law_draw xs Q → xs.length = 2 := spDraw_len
theorem pf_law_draw : ∀ xs Q, sp_law_draw xs Q → td_law_draw { nx := fun _ => Q (.d .none), rt := Q } (xs ++ List.replicate (4 - xs.length) .no) := draw_pf
theorem cal_law_draw (T : Txt K mg) : Cal P w K mg base 1 "_law_draw" s_law_draw ["bag", "below"] (sp_law_draw) :=
  cal_of T.a_law_draw sc_law_draw len_law_draw (fun f cdv A outer s H E hgu hr => dv_law_draw T f cdv A outer s H E hgu hr) pf_law_draw
/-! #### _law_pick : slots 0=bag 1=some -/
def td_law_pick : TSd := (dRet (dOpN fIx 1 (dF (dCall sp_law_draw (dCons (dVar 0) (dCons (dB1 fLen (dPeek 1)) dNil))))))
theorem dv_law_pick (T : Txt K mg) (f : Addr) (cdv : Value) (A : Around) (outer : List PySem.Env) (s : Shared) (H : Hp) (E : XK) (hgu : A.guards = some []) (hr : Room 1 (A.deeper (envOfC "_law_pick" (defScope s_law_pick) s.heap.objs.size f cdv))) :
    SDs (cxOf CX0 P w K mg base ["bag", "some"] "_law_pick" (defScope s_law_pick) f cdv A outer s H E).nox (defBody s_law_pick) (td_law_pick) := by
  have hu := hr.units
  have hu65 := units65 hr
  have nd := sc_law_pick.nd
  exact (sd_one (sd_ret (pd_ixN (pv 1) (pf_pd (pd_callC (cal_law_draw T) hgu (hr.mono (by decide)) (by rfl) (pl_cons (pd_var (pv 0)) (pl_cons (pd_b1 cd_len (pf_name (pv 1)) (by rfl) T.b_len (by decide +kernel)) pl_nil)))))))
abbrev sp_law_pick : SpD := spPick
theorem len_law_pick : ∀ xs Q, sp_law_pick xs Q → xs.length = 2 := spPick_len
theorem pf_law_pick : ∀ xs Q, sp_law_pick xs Q → td_law_pick { nx := fun _ => Q (.d .none), rt := Q } (xs ++ List.replicate (2 - xs.length) .no) := pick_pf
theorem cal_law_pick (T : Txt K mg) : Cal P w K mg base 2 "_law_pick" s_law_pick ["bag", "some"] (sp_law_pick) :=
  cal_of T.a_law_pick sc_law_pick len_law_pick (fun f cdv A outer s H E hgu hr => dv_law_pick T f cdv A outer s H E hgu hr) pf_law_pick
/-! #### _law_is : slots 0=told 1=due -/
def td_law_is : TSd := (dRet (dAndV (dOpN fEq 0 (dPeek 1)) (dOp fEq (dB1 fRepr (dPeek 0)) (dF (dB1 fRepr (dPeek 1))))))
theorem dv_law_is (T : Txt K mg) (f : Addr) (cdv : Value) (A : Around) (outer : List PySem.Env) (s : Shared) (H : Hp) (E : XK) (hgu : A.guards = some []) (hr : Room 0 (A.deeper (envOfC "_law_is" (defScope s_law_is) s.heap.objs.size f cdv))) :
    SDs (cxOf CX0 P w K mg base ["told", "due"] "_law_is" (defScope s_law_is) f cdv A outer s H E).nox (defBody s_law_is) (td_law_is) := by
  have hu := hr.units
  have hu65 := units65 hr
  have nd := sc_law_is.nd
  exact (sd_one (sd_ret (pd_and (pd_cmpN (od_eq hu) (pv 0) (pf_name (pv 1)) (nomark _)) (pd_one (pd_cmp (od_eq hu) (pd_b1 (cd_repr hgu hu) (pf_name (pv 0)) (by rfl) T.b_repr (by decide +kernel)) (pf_pd (pd_b1 (cd_repr hgu hu) (pf_name (pv 1)) (by rfl) T.b_repr (by decide +kernel))) (nomark _))))))
abbrev sp_law_is : SpD := spIs
theorem len_law_is : ∀ xs Q, sp_law_is xs Q → xs.length = 2 := spIs_len
theorem pf_law_is : ∀ xs Q, sp_law_is xs Q → td_law_is { nx := fun _ => Q (.d .none), rt := Q } (xs ++ List.replicate (2 - xs.length) .no) := is_pf
theorem cal_law_is (T : Txt K mg) : Cal P w K mg base 1 "_law_is" s_law_is ["told", "due"] (sp_law_is) :=
  cal_of T.a_law_is sc_law_is len_law_is (fun f cdv A outer s H E hgu hr => dv_law_is T f cdv A outer s H E hgu hr) pf_law_is
/-! #### _law_gcd : slots 0=a 1=b -/
def td_law_gcd : TSd := (dSeq (dPar 0 1 (dCons (dB1 fAbs (dPeek 0)) (dCons (dB1 fAbs (dPeek 1)) dNil)))
 (dSeq (dWhile (toB (dOpN fGt 1 (dF (dC (.int 0)))))
 (dPar 0 1 (dCons (dVar 1) (dCons (dOp fMod (dB1 fInt (dPeek 0)) (dPeek 1)) dNil))))
 (dRet (dVar 0))))
theorem dv_law_gcd (T : Txt K mg) (f : Addr) (cdv : Value) (A : Around) (outer : List PySem.Env) (s : Shared) (H : Hp) (E : XK) (hgu : A.guards = some []) (hr : Room 0 (A.deeper (envOfC "_law_gcd" (defScope s_law_gcd) s.heap.objs.size f cdv))) :
    SDs (cxOf CX0 P w K mg base ["a", "b"] "_law_gcd" (defScope s_law_gcd) f cdv A outer s H E).nox (defBody s_law_gcd) (td_law_gcd) := by
  have hu := hr.units
  have hu65 := units65 hr
  have nd := sc_law_gcd.nd
  exact (sd_cons (sd_par (i := 0) (j := 1) rfl nd rfl rfl (by decide) rfl rfl (pl_cons (pd_b1 cd_abs (pf_name (pv 0)) (by rfl) T.b_abs (by decide +kernel)) (pl_cons (pd_b1 cd_abs (pf_name (pv 1)) (by rfl) T.b_abs (by decide +kernel)) pl_nil)) (by rfl))
 (sd_cons (sd_while PassesOwn.never (pb_cmpN od_gt (pv 1) (pf_pd pd_int) (nomark _))
 (sd_one (sd_par (i := 0) (j := 1) rfl nd rfl rfl (by decide) rfl rfl (pl_cons (pd_var (pv 1)) (pl_cons (pd_op od_mod (pd_ty1 cd_int (pf_name (pv 0)) (by rfl) T.b_int (by decide +kernel)) (pf_name (pv 1))) pl_nil)) (by rfl))))
 (sd_one (sd_ret (pd_var (pv 0))))))
abbrev sp_law_gcd : SpD := spGcd
theorem len_law_gcd : ∀ xs Q, sp_law_gcd xs Q → xs.length = 2 := spGcd_len
theorem pf_law_gcd : ∀ xs Q, sp_law_gcd xs Q → td_law_gcd { nx := fun _ => Q (.d .none), rt := Q } (xs ++ List.replicate (2 - xs.length) .no) := gcd_pf
theorem cal_law_gcd (T : Txt K mg) : Cal P w K mg base 1 "_law_gcd" s_law_gcd ["a", "b"] (sp_law_gcd) :=
  cal_of T.a_law_gcd sc_law_gcd len_law_gcd (fun f cdv A outer s H E hgu hr => dv_law_gcd T f cdv A outer s H E hgu hr) pf_law_gcd
/-! #### _law_gap : slots 0=modulus 1=a 2=b 3=ahead -/
def td_law_gap : TSd := (dSeq (dAsg (dOp fMod (dB1 fInt (dF (dOpN fSub 2 (dPeek 1)))) (dPeek 0)) (gSet 3))
 (dRet (dIfE (toB (dOpN fGt 3 (dF (dC (.int 0))))) (dOp fMin (dVar 3) (dF (dOpN fSub 0 (dPeek 3)))) (dC (.int 0)))))
theorem dv_law_gap (T : Txt K mg) (f : Addr) (cdv : Value) (A : Around) (outer : List PySem.Env) (s : Shared) (H : Hp) (E : XK) (hgu : A.guards = some []) (hr : Room 0 (A.deeper (envOfC "_law_gap" (defScope s_law_gap) s.heap.objs.size f cdv))) :
    SDs (cxOf CX0 P w K mg base ["modulus", "a", "b", "ahead"] "_law_gap" (defScope s_law_gap) f cdv A outer s H E).nox (defBody s_law_gap) (td_law_gap) := by
  have hu := hr.units
  have hu65 := units65 hr
  have nd := sc_law_gap.nd
  exact (sd_cons (sd_set (i := 3) nd rfl (Or.inl rfl) (pd_op od_mod (pd_ty1 cd_int (pf_pd (pd_opN od_sub (pv 2) (pf_name (pv 1)))) (by rfl) T.b_int (by decide +kernel)) (pf_name (pv 0))))
 (sd_one (sd_ret (pd_if (pb_cmpN od_gt (pv 3) (pf_pd pd_int) (nomark _)) (pd_b2 (cd_min rfl) (pd_var (pv 3)) (pf_pd (pd_opN od_sub (pv 0) (pf_name (pv 3)))) (by rfl) T.b_min (by decide +kernel)) pd_int))))
abbrev sp_law_gap : SpD := spGap
theorem len_law_gap : ∀ xs Q, sp_law_gap xs Q → xs.length = 3 := spGap_len
theorem pf_law_gap : ∀ xs Q, sp_law_gap xs Q → td_law_gap { nx := fun _ => Q (.d .none), rt := Q } (xs ++ List.replicate (4 - xs.length) .no) := by
  rintro xs Q ⟨m, a, b, rfl, h1, h⟩
  show td_law_gap _ [.d (.int m), .d (.int a), .d (.int b), .no]
  have n1 := Int.emod_nonneg (b - a) (Int.ne_of_gt h1)
  unfold cgap at h
  rw [back_mod h1] at h
  refine ⟨⟨h1⟩, ⟨fun e => ?_, fun e => ?_⟩⟩
  · have e := of_decide_eq_true e
    simp only [if_neg (show ¬ (b - a) % m = 0 by omega)] at h
    exact h
  · have e := of_decide_eq_false e
    have e0 : (b - a) % m = 0 := by omega
    rw [e0] at h
    exact h
theorem cal_law_gap (T : Txt K mg) : Cal P w K mg base 1 "_law_gap" s_law_gap ["modulus", "a", "b"] (sp_law_gap) :=
  cal_of T.a_law_gap sc_law_gap len_law_gap (fun f cdv A outer s H E hgu hr => dv_law_gap T f cdv A outer s H E hgu hr) pf_law_gap
/-! #### _law_modulus : slots 0=bag 1=most 2=some -/
def td_law_modulus : TSd := (dSeq (dAsg (dLst (dCons (dC (.int 1)) (dCons (dC (.int 2)) (dCons (dC (.int 3)) (dCons (dOp fAdd (dC (.int 1)) (dF (dCall sp_law_draw (dCons (dVar 0) (dCons (dC (.int 12)) dNil))))) (dCons (dOp fAdd (dC (.int 1)) (dF (dCall sp_law_draw (dCons (dVar 0) (dCons (dC (.int 60)) dNil))))) (dCons (dVar 1) (dCons (dOpN fSub 1 (dF (dC (.int 1)))) (dCons (dOp fAdd (dC (.int 1)) (dF (dCall sp_law_draw (dCons (dVar 0) (dCons (dVar 1) dNil))))) dNil))))))))) (gSet 2))
 (dRet (dOp fMin (dVar 1) (dF (dCall sp_law_pick (dCons (dVar 0) (dCons (dVar 2) dNil)))))))
theorem dv_law_modulus (T : Txt K mg) (f : Addr) (cdv : Value) (A : Around) (outer : List PySem.Env) (s : Shared) (H : Hp) (E : XK) (hgu : A.guards = some []) (hr : Room 2 (A.deeper (envOfC "_law_modulus" (defScope s_law_modulus) s.heap.objs.size f cdv))) :
    SDs (cxOf CX0 P w K mg base ["bag", "most", "some"] "_law_modulus" (defScope s_law_modulus) f cdv A outer s H E).nox (defBody s_law_modulus) (td_law_modulus) := by
  have hu := hr.units
  have hu65 := units65 hr
  have nd := sc_law_modulus.nd
  exact (sd_cons (sd_set (i := 2) nd rfl (Or.inl rfl) (pd_lst (pl_cons pd_int (pl_cons pd_int (pl_cons pd_int (pl_cons (pd_op od_add pd_int (pf_pd (pd_callC (cal_law_draw T) hgu (hr.mono (by decide)) (by rfl) (pl_cons (pd_var (pv 0)) (pl_cons pd_int pl_nil))))) (pl_cons (pd_op od_add pd_int (pf_pd (pd_callC (cal_law_draw T) hgu (hr.mono (by decide)) (by rfl) (pl_cons (pd_var (pv 0)) (pl_cons pd_int pl_nil))))) (pl_cons (pd_var (pv 1)) (pl_cons (pd_opN od_sub (pv 1) (pf_pd pd_int)) (pl_cons (pd_op od_add pd_int (pf_pd (pd_callC (cal_law_draw T) hgu (hr.mono (by decide)) (by rfl) (pl_cons (pd_var (pv 0)) (pl_cons (pd_var (pv 1)) pl_nil))))) pl_nil))))))))))
 (sd_one (sd_ret (pd_b2 (cd_min rfl) (pd_var (pv 1)) (pf_pd (pd_callC (cal_law_pick T) hgu (hr.mono (by decide)) (by rfl) (pl_cons (pd_var (pv 0)) (pl_cons (pd_var (pv 2)) pl_nil)))) (by rfl) T.b_min (by decide +kernel)))))
def sp_law_modulus : SpD := fun xs Q => ∃ m : Int, xs = [.bag, .d (.int m)] ∧ 2 ≤ m ∧ m ≤ 1000000 ∧ ∀ r : Int, 1 ≤ r → r ≤ m → Q (.d (.int r))
theorem len_law_modulus : ∀ xs Q, sp_law_modulus xs Q → xs.length = 2 := by rintro xs Q ⟨m, rfl, h⟩; rfl
theorem pf_law_modulus : ∀ xs Q, sp_law_modulus xs Q → td_law_modulus { nx := fun _ => Q (.d .none), rt := Q } (xs ++ List.replicate (3 - xs.length) .no) := by
  rintro xs Q ⟨m, rfl, h1, h2, h⟩
  show td_law_modulus _ [.bag, .d (.int m), .no]
  refine ⟨12, rfl, by omega, by omega, fun r1 a1 b1 => ⟨60, rfl, by omega, by omega, fun r2 a2 b2 => ⟨m, rfl, by omega, by omega, fun r3 a3 b3 => ?_⟩⟩⟩
  refine ⟨_, .inl rfl, by show 0 < 8; decide, by show 8 < _; decide, fun y hy => ?_⟩
  have hy2 : ∃ v : Int, y = .int v ∧ 1 ≤ v := by
    simp only [List.mem_cons, List.not_mem_nil, or_false] at hy
    rcases hy with rfl | rfl | rfl | rfl | rfl | rfl | rfl | rfl <;> exact ⟨_, rfl, by omega⟩
  obtain ⟨v, rfl, hv⟩ := hy2
  exact h _ (by split <;> omega) (by split <;> omega)
theorem cal_law_modulus (T : Txt K mg) : Cal P w K mg base 3 "_law_modulus" s_law_modulus ["bag", "most"] (sp_law_modulus) :=
  cal_of T.a_law_modulus sc_law_modulus len_law_modulus (fun f cdv A outer s H E hgu hr => dv_law_modulus T f cdv A outer s H E hgu hr) pf_law_modulus
/-! #### _law_far : slots 0=bag 1=modulus 2=some -/
def td_law_far : TSd := (dSeq (dAsg (dLst (dCons (dC (.int 1)) (dCons (dVar 1) (dCons (dOp fAdd (dC (.int 1)) (dF (dCall sp_law_draw (dCons (dVar 0) (dCons (dVar 1) dNil))))) (dCons (dOp fMax (dC (.int 1)) (dF (dOpN fDiv 1 (dF (dC (.int 2)))))) (dCons (dOp fMax (dC (.int 1)) (dF (dOpN fDiv 1 (dF (dC (.int 3)))))) (dCons (dOp fAdd (dC (.int 1)) (dF (dOpN fDiv 1 (dF (dC (.int 2)))))) dNil))))))) (gSet 2))
 (dRet (dOp fMin (dVar 1) (dF (dCall sp_law_pick (dCons (dVar 0) (dCons (dVar 2) dNil)))))))
theorem dv_law_far (T : Txt K mg) (f : Addr) (cdv : Value) (A : Around) (outer : List PySem.Env) (s : Shared) (H : Hp) (E : XK) (hgu : A.guards = some []) (hr : Room 2 (A.deeper (envOfC "_law_far" (defScope s_law_far) s.heap.objs.size f cdv))) :
    SDs (cxOf CX0 P w K mg base ["bag", "modulus", "some"] "_law_far" (defScope s_law_far) f cdv A outer s H E).nox (defBody s_law_far) (td_law_far) := by
  have hu := hr.units
  have hu65 := units65 hr
  have nd := sc_law_far.nd
  exact (sd_cons (sd_set (i := 2) nd rfl (Or.inl rfl) (pd_lst (pl_cons pd_int (pl_cons (pd_var (pv 1)) (pl_cons (pd_op od_add pd_int (pf_pd (pd_callC (cal_law_draw T) hgu (hr.mono (by decide)) (by rfl) (pl_cons (pd_var (pv 0)) (pl_cons (pd_var (pv 1)) pl_nil))))) (pl_cons (pd_b2 (cd_max rfl) pd_int (pf_pd (pd_opN od_div (pv 1) (pf_pd pd_int))) (by rfl) T.b_max (by decide +kernel)) (pl_cons (pd_b2 (cd_max rfl) pd_int (pf_pd (pd_opN od_div (pv 1) (pf_pd pd_int))) (by rfl) T.b_max (by decide +kernel)) (pl_cons (pd_op od_add pd_int (pf_pd (pd_opN od_div (pv 1) (pf_pd pd_int)))) pl_nil))))))))
 (sd_one (sd_ret (pd_b2 (cd_min rfl) (pd_var (pv 1)) (pf_pd (pd_callC (cal_law_pick T) hgu (hr.mono (by decide)) (by rfl) (pl_cons (pd_var (pv 0)) (pl_cons (pd_var (pv 2)) pl_nil)))) (by rfl) T.b_min (by decide +kernel)))))
def sp_law_far : SpD := fun xs Q => ∃ m : Int, xs = [.bag, .d (.int m)] ∧ 1 ≤ m ∧ m ≤ 1000000 ∧ ∀ r : Int, 1 ≤ r → r ≤ m → Q (.d (.int r))
theorem len_law_far : ∀ xs Q, sp_law_far xs Q → xs.length = 2 := by rintro xs Q ⟨m, rfl, h⟩; rfl
theorem pf_law_far : ∀ xs Q, sp_law_far xs Q → td_law_far { nx := fun _ => Q (.d .none), rt := Q } (xs ++ List.replicate (3 - xs.length) .no) := by
  rintro xs Q ⟨m, rfl, h1, h2, h⟩
  show td_law_far _ [.bag, .d (.int m), .no]
  refine ⟨m, rfl, by omega, by omega, fun r1 a1 b1 => ⟨⟨by decide, by decide⟩, ⟨by decide, by decide⟩, ⟨by decide, by decide⟩, ?_⟩⟩
  refine ⟨_, .inl rfl, by show 0 < 6; decide, by show 6 < _; decide, fun y hy => ?_⟩
  have hy2 : ∃ v : Int, y = .int v ∧ 1 ≤ v := by
    simp only [List.mem_cons, List.not_mem_nil, or_false] at hy
    rcases hy with rfl | rfl | rfl | rfl | rfl | rfl <;> refine ⟨_, rfl, ?_⟩ <;> first | omega | (split <;> omega)
  obtain ⟨v, rfl, hv⟩ := hy2
  exact h _ (by split <;> omega) (by split <;> omega)
theorem cal_law_far (T : Txt K mg) : Cal P w K mg base 3 "_law_far" s_law_far ["bag", "modulus"] (sp_law_far) :=
  cal_of T.a_law_far sc_law_far len_law_far (fun f cdv A outer s H E hgu hr => dv_law_far T f cdv A outer s H E hgu hr) pf_law_far
/-! #### _law_near : slots 0=modulus 1=far 2=places 3=i 4=a 5=b -/
def td_law_near : TSd := (dSeq (dFor (dEnum (dVar 2)) (dgSeq 2 (gsCons (gSet 3) (gsCons (gSet 4) gsNil)))
 (dFor (dIn (dCutN 2 (dSome (dF (dOpN fAdd 3 (dF (dC (.int 1)))))) dNo)) (gSet 5)
 (dIf (toB (dOp fLt (dCall sp_law_gap (dCons (dVar 0) (dCons (dVar 4) (dCons (dVar 5) dNil)))) (dPeek 1)))
 (dRet (dTup (dCons (dVar 4) (dCons (dVar 5) dNil))))
 dNext)))
 (dRet (dC .none)))
theorem dv_law_near (T : Txt K mg) (f : Addr) (cdv : Value) (A : Around) (outer : List PySem.Env) (s : Shared) (H : Hp) (E : XK) (hgu : A.guards = some []) (hr : Room 1 (A.deeper (envOfC "_law_near" (defScope s_law_near) s.heap.objs.size f cdv))) :
    SDs (cxOf CX0 P w K mg base ["modulus", "far", "places", "i", "a", "b"] "_law_near" (defScope s_law_near) f cdv A outer s H E).nox (defBody s_law_near) (td_law_near) := by
  have hu := hr.units
  have hu65 := units65 hr
  have nd := sc_law_near.nd
  exact (sd_cons (sd_for PassesOwn.never rfl (id_enum (by rfl) T.b_enumerate (pd_var (pv 2))) (gd_seq rfl (gds_cons (gd_name (pg_name (i := 3) nd rfl (Or.inl rfl))) (gds_cons (gd_name (pg_name (i := 4) nd rfl (Or.inl rfl))) gds_nil)))
 (sd_one (sd_for PassesOwn.never rfl (id_seq (pd_cutN (pv 2) (po_of (pf_pd (pd_opN od_add (pv 3) (pf_pd pd_int)))) po_no)) (gd_name (pg_name (i := 5) nd rfl (Or.inl rfl)))
 (sd_one (sd_if (pb_cmp od_lt (pd_callC (cal_law_gap T) hgu (hr.mono (by decide)) (by rfl) (pl_cons (pd_var (pv 0)) (pl_cons (pd_var (pv 4)) (pl_cons (pd_var (pv 5)) pl_nil)))) (pf_name (pv 1)) (nomark _))
 (sd_one (sd_ret (pd_tup (pl_cons (pd_var (pv 4)) (pl_cons (pd_var (pv 5)) pl_nil)))))
 sd_nil)))))
 (sd_one (sd_ret pd_non)))
abbrev sp_law_near : SpD := spNear
theorem len_law_near : ∀ xs Q, sp_law_near xs Q → xs.length = 3 := spNear_len
theorem pf_law_near : ∀ xs Q, sp_law_near xs Q → td_law_near { nx := fun _ => Q (.d .none), rt := Q } (xs ++ List.replicate (6 - xs.length) .no) := pf_near_pair
theorem cal_law_near (T : Txt K mg) : Cal P w K mg base 2 "_law_near" s_law_near ["modulus", "far", "places"] (sp_law_near) :=
  cal_of T.a_law_near sc_law_near len_law_near (fun f cdv A outer s H E hgu hr => dv_law_near T f cdv A outer s H E hgu hr) pf_law_near
/-! #### _law_turned : slots 0=modulus 1=places 2=by 3=a -/
def td_law_turned : TSd := (dRet (dB1 fTupOf (dF (dB1 fSortedA (dF (dCompN [3] 1 (gSet 3) dYes (dOp fMod (dB1 fInt (dF (dOpN fAdd 3 (dPeek 2)))) (dPeek 0))))))))
theorem dv_law_turned (T : Txt K mg) (f : Addr) (cdv : Value) (A : Around) (outer : List PySem.Env) (s : Shared) (H : Hp) (E : XK) (hgu : A.guards = some []) (hr : Room 0 (A.deeper (envOfC "_law_turned" (defScope s_law_turned) s.heap.objs.size f cdv))) :
    SDs (cxOf CX0 P w K mg base ["modulus", "places", "by", "a"] "_law_turned" (defScope s_law_turned) f cdv A outer s H E).nox (defBody s_law_turned) (td_law_turned) := by
  have hu := hr.units
  have hu65 := units65 hr
  have nd := sc_law_turned.nd
  exact (sd_one (sd_ret (pd_ty1 cd_tuple (pf_pd (pd_b1 cd_sortedA (pf_pd (pd_compN (own := [("a", 3)]) rfl nd (pv 1) (by decide) (show BlkOk ["modulus", "places", "by", "a"] (defScope s_law_turned) _ [("a", 3)] from blkOk_by (by decide +kernel)) (fun _ _ _ _ _ => (pg_name (i := 3) nd rfl (Or.inl rfl))) (gok_name (by decide)) (fun _ _ _ _ _ => pts_no) (fun _ _ _ _ _ => (pd_op od_mod (pd_ty1 cd_int (pf_pd (pd_opN od_add (pv 3) (pf_name (pv 2)))) (by rfl) T.b_int (by decide +kernel)) (pf_name (pv 0)))))) (by rfl) T.b_sorted (by decide +kernel))) (by rfl) T.b_tuple (by decide +kernel))))
def sp_law_turned : SpD := fun xs Q => ∃ (m : Int) (l : List Int) (by_ : Int), xs = [.d (.int m), .d (.tuple (zints l)), .d (.int by_)] ∧ 0 < m ∧ l.length ≤ 5000 ∧ ∀ r : List Int, r.Perm (l.map fun a => (a + by_) % m) → Q (.d (.tuple (zints r)))
theorem len_law_turned : ∀ xs Q, sp_law_turned xs Q → xs.length = 3 := by rintro xs Q ⟨m, l, b, rfl, h⟩; rfl
theorem pf_law_turned : ∀ xs Q, sp_law_turned xs Q → td_law_turned { nx := fun _ => Q (.d .none), rt := Q } (xs ++ List.replicate (4 - xs.length) .no) := by
  rintro xs Q ⟨m, l, b, rfl, h1, h2, h⟩
  show td_law_turned _ [.d (.int m), .d (.tuple (zints l)), .d (.int b), .no]
  refine ⟨⟨by rw [z_len]; omega⟩, comp_map (fun d => match d with | .int a => .int ((a + b) % m) | _ => .none) ?_ ?_⟩
  · intro d hd C F k
    obtain ⟨i, hi, rfl⟩ := mem_z hd
    exact ⟨fun _ => ⟨⟨h1⟩, ⟨rfl⟩, k⟩, fun q => nomatch q⟩
  have e : (zints l).map (fun d => match d with | .int a => .int ((a + b) % m) | _ => .none) = zints (l.map fun a => (a + b) % m) := by
    unfold zints
    rw [List.map_map, List.map_map]
    rfl
  rw [e]
  exact ⟨_, rfl, fun ms p _ => h ms p⟩
theorem cal_law_turned (T : Txt K mg) : Cal P w K mg base 1 "_law_turned" s_law_turned ["modulus", "places", "by"] (sp_law_turned) :=
  cal_of T.a_law_turned sc_law_turned len_law_turned (fun f cdv A outer s H E hgu hr => dv_law_turned T f cdv A outer s H E hgu hr) pf_law_turned
/-! #### _law_told : slots 0=modulus 1=far 2=is_named -/
def td_law_told : TSd := (dRet (dIfE (dTruth (dVar 2)) (dCallK sp_most_far [1, 0] dNil (dCons (dVar 1) (dCons (dVar 0) dNil))) (dCall sp_most_far (dCons (dVar 0) (dCons (dVar 1) dNil)))))
theorem dv_law_told (T : Txt K mg) (f : Addr) (cdv : Value) (A : Around) (outer : List PySem.Env) (s : Shared) (H : Hp) (E : XK) (hgu : A.guards = some []) (hr : Room 1 (A.deeper (envOfC "_law_told" (defScope s_law_told) s.heap.objs.size f cdv))) :
    SDs (cxOf CX0 P w K mg base ["modulus", "far", "is_named"] "_law_told" (defScope s_law_told) f cdv A outer s H E).nox (defBody s_law_told) (td_law_told) := by
  have hu := hr.units
  have hu65 := units65 hr
  have nd := sc_law_told.nd
  exact (sd_one (sd_ret (pd_if (pb_truth (pd_var (pv 2))) (pd_callKC0 (ks := ["far", "modulus"]) (idx := [1, 0]) (cal_most_far T) (fun f fd F => kb_mk (a := 0) (b := 2) F (by decide) fun _ _ _ _ _ _ us ws h1 h2 => match us, h1, ws, h2 with | [], _, [_, _], _ => rfl) hgu (hr.mono (by decide)) (by rfl) (pk_more (pd_var (pv 1)) (pk_more (pd_var (pv 0)) pk_no))) (pd_callC (cal_most_far T) hgu (hr.mono (by decide)) (by rfl) (pl_cons (pd_var (pv 0)) (pl_cons (pd_var (pv 1)) pl_nil))))))
def sp_law_told : SpD := fun xs Q => ∃ (m f : Int) (n : Bool), xs = [.d (.int m), .d (.int f), .d (.bool n)] ∧ 0 < f ∧ f ≤ 1000000 ∧ Q (.d (.int (m / f)))
theorem len_law_told : ∀ xs Q, sp_law_told xs Q → xs.length = 3 := by rintro xs Q ⟨m, l, b, rfl, h⟩; rfl
theorem pf_law_told : ∀ xs Q, sp_law_told xs Q → td_law_told { nx := fun _ => Q (.d .none), rt := Q } (xs ++ List.replicate (3 - xs.length) .no) := by
  rintro xs Q ⟨m, f, n, rfl, h1, h2, h⟩
  exact ⟨fun _ => ⟨m, f, rfl, h1, h2, h⟩, fun _ => ⟨m, f, rfl, h1, h2, h⟩⟩
theorem cal_law_told (T : Txt K mg) : Cal P w K mg base 2 "_law_told" s_law_told ["modulus", "far", "is_named"] (sp_law_told) :=
  cal_of T.a_law_told sc_law_told len_law_told (fun f cdv A outer s H E hgu hr => dv_law_told T f cdv A outer s H E hgu hr) pf_law_told
/-! #### _law_grown : slots 0=bag 1=modulus 2=far 3=first 4=found 5=step 6=k 7=a 8=b -/
def td_law_grown : TSd := (dSeq (dPar 4 5 (dCons (dLst (dCons (dVar 3) dNil)) (dCons (dOp fAdd (dC (.int 1)) (dF (dCall sp_law_draw (dCons (dVar 0) (dCons (dVar 1) dNil))))) dNil)))
 (dSeq (dFor (dRange1 (dPeek 1)) (gSet 6)
 (dSeq (dAsg (dOp fMod (dB1 fInt (dF (dOpN fAdd 3 (dF (dOpN fMul 6 (dF (dIfE (toB (dOp fEq (dCall sp_law_gcd (dCons (dVar 5) (dCons (dVar 1) dNil))) (dF (dC (.int 1))))) (dVar 5) (dC (.int 1))))))))) (dPeek 1)) (gSet 7))
 (dIf (dAnd (toB (dOpN (fInA true) 7 (dPeek 4))) (dTruth (dB1 fAll (dF (dFrz [1, 7] (dCompN [8] 4 (gSet 8) dYes (dOp fGe (dCall sp_law_gap (dCons (dVar 1) (dCons (dVar 7) (dCons (dVar 8) dNil)))) (dPeek 2))))))))
 (dDrop (dAppend 4 (dVar 7)))
 dNext)))
 (dRet (dB1 fTupOf (dF (dB1 fSortedA (dPeek 4)))))))
theorem dv_law_grown (T : Txt K mg) (f : Addr) (cdv : Value) (A : Around) (outer : List PySem.Env) (s : Shared) (H : Hp) (E : XK) (hgu : A.guards = some []) (hr : Room 1 (A.deeper (envOfC "_law_grown" (defScope s_law_grown) s.heap.objs.size f cdv))) :
    SDs (cxOf CX0 P w K mg base ["bag", "modulus", "far", "first", "found", "step", "k", "a", "b"] "_law_grown" (defScope s_law_grown) f cdv A outer s H E).nox (defBody s_law_grown) (td_law_grown) := by
  have hu := hr.units
  have hu65 := units65 hr
  have nd := sc_law_grown.nd
  exact (sd_cons (sd_par (i := 4) (j := 5) rfl nd rfl rfl (by decide) rfl rfl (pl_cons (pd_lst (pl_cons (pd_var (pv 3)) pl_nil)) (pl_cons (pd_op od_add pd_int (pf_pd (pd_callC (cal_law_draw T) hgu (hr.mono (by decide)) (by rfl) (pl_cons (pd_var (pv 0)) (pl_cons (pd_var (pv 1)) pl_nil))))) pl_nil)) (by rfl))
 (sd_cons (sd_for PassesOwn.never rfl (id_range1 (by rfl) T.b_range (pf_name (pv 1))) (gd_name (pg_name (i := 6) nd rfl (Or.inl rfl)))
 (sd_cons (sd_set (i := 7) nd rfl (Or.inr rfl) (pd_op od_mod (pd_ty1 cd_int (pf_pd (pd_opN od_add (pv 3) (pf_pd (pd_opN od_mul (pv 6) (pf_pd (pd_if (pb_cmp (od_eq hu) (pd_callC (cal_law_gcd T) hgu (hr.mono (by decide)) (by rfl) (pl_cons (pd_var (pv 5)) (pl_cons (pd_var (pv 1)) pl_nil))) (pf_pd pd_int) (nomark _)) (pd_var (pv 5)) pd_int)))))) (by rfl) T.b_int (by decide +kernel)) (pf_name (pv 1))))
 (sd_one (sd_if (pb_w (pb_and (pb_cmpN (od_notin hu65) (pv 7) (pf_name (pv 4)) (by rfl)) (pw_one_and (pb_truth (pd_b1 (cd_all rfl) (pf_pd (pd_frz (fs := [1, 7]) (pd_compN (own := [("b", 8)]) rfl nd (pv 4) (by decide) (show BlkOk ["bag", "modulus", "far", "first", "found", "step", "k", "a", "b"] (defScope s_law_grown) _ [("b", 8)] from blkOk_by (by decide +kernel)) (fun _ _ _ _ _ => (pg_name (i := 8) nd rfl (Or.inl rfl))) (gok_name (by decide)) (fun _ _ _ _ _ => pts_no) (fun _ _ _ _ _ => (pd_cmp od_ge (pd_callC (cal_law_gap T) hgu (hr.mono (by decide)) (by rfl) (pl_cons (pd_var (pv 1)) (pl_cons (pd_var (pv 7)) (pl_cons (pd_var (pv 8)) pl_nil)))) (pf_name (pv 2)) (nomark _)))))) (by rfl) T.b_all (by decide +kernel))))))
 (sd_one (sd_expr (pd_append (pv 4) (pd_var (pv 7)))))
 sd_nil))))
 (sd_one (sd_ret (pd_ty1 cd_tuple (pf_pd (pd_b1 cd_sortedA (pf_name (pv 4)) (by rfl) T.b_sorted (by decide +kernel))) (by rfl) T.b_tuple (by decide +kernel))))))
def sp_law_grown : SpD := fun xs Q => ∃ m f a : Int, xs = [.bag, .d (.int m), .d (.int f), .d (.int a)] ∧ 1 ≤ f ∧ f ≤ m ∧ m ≤ 1000 ∧ 0 ≤ a ∧ a < m ∧ ∀ l : List Int, Far m f l → (∀ x ∈ l, 0 ≤ x ∧ x < m) → Q (.d (.tuple (zints l)))
theorem len_law_grown : ∀ xs Q, sp_law_grown xs Q → xs.length = 4 := by rintro xs Q ⟨m, l, b, rfl, h⟩; rfl
theorem pf_law_grown : ∀ xs Q, sp_law_grown xs Q → td_law_grown { nx := fun _ => Q (.d .none), rt := Q } (xs ++ List.replicate (9 - xs.length) .no) := by
  rintro xs Q ⟨m, f, a, rfl, h1, h2, h3, h4, h5, h⟩
  show td_law_grown _ [.bag, .d (.int m), .d (.int f), .d (.int a), .no, .no, .no, .no, .no]
  refine ⟨m, rfl, by omega, by omega, fun st hs1 hs2 => ⟨⟨by omega, by omega⟩, ?_⟩⟩
  refine for_ints (n := m.toNat) (by rw [rng0]) (by omega) (fun η => ∃ (l : List Int) (x6 x7 : DV), Far m f l ∧ (∀ x ∈ l, 0 ≤ x ∧ x < m) ∧ l.length ≤ 1000 ∧ η = [.bag, .d (.int m), .d (.int f), .d (.int a), .own (zints l), .d (.int (1 + st)), x6, x7, .no]) ⟨[a], .no, .no, by simp [Far], by simp; omega, by simp, rfl⟩ ?_ ?_
  · rintro k0 η hk0 ⟨l, x6, x7, e1, e2, e3, rfl⟩ Nx k
    have main : ∀ (c : Int) (D' : EndsD), 0 ≤ c → c < m → D'.nx = Nx → dIf (dAnd (toB (dOpN (fInA true) 7 (dPeek 4))) (dTruth (dB1 fAll (dF (dCompN [8] 4 (gSet 8) dYes (dOp fGe (dCall sp_law_gap (dCons (dVar 1) (dCons (dVar 7) (dCons (dVar 8) dNil)))) (dPeek 2)))))))
        (dDrop (dAppend 4 (dVar 7))) dNext D' [.bag, .d (.int m), .d (.int f), .d (.int a), .own (zints l), .d (.int (1 + st)), .d (.int k0), .d (.int c), .no] := by
      intro c D' hc1 hc2 hD'
      subst hD'
      have next : ∀ x6 x7, D'.nx [.bag, .d (.int m), .d (.int f), .d (.int a), .own (zints l), .d (.int (1 + st)), x6, x7, .no] := fun x6 x7 => k _ ⟨l, x6, x7, e1, e2, e3, rfl⟩
      have sc : shp (.int c) := (Fit.int (by omega)).shp
      have sl : shp (.list (zints l)) := (Fit.list (n := 30) (m := l.length) (ints_fit fun i hi => by have := e2 i hi; omega) (by simp)).shp
      refine ⟨⟨sc⟩, ⟨sl⟩, ⟨fun _ => ?_, fun _ => br_f (next _ _)⟩⟩
      refine ⟨⟨by rw [z_len]; omega⟩, comp_map (fun d => match d with | .int b => .bool (decide (f ≤ cgap m c b)) | _ => .none) ?_ ?_⟩
      · intro d hd C F kk
        obtain ⟨i, hi, rfl⟩ := mem_z hd
        exact ⟨fun _ => ⟨m, c, i, rfl, by omega, ⟨rfl⟩, kk⟩, fun q => nomatch q⟩
      have e : (zints l).map (fun d => match d with | .int b => .bool (decide (f ≤ cgap m c b)) | _ => .none) = (l.map fun b => decide (f ≤ cgap m c b)).map PyData.bool := by
        unfold zints
        rw [List.map_map, List.map_map]
        rfl
      refine ⟨l.map fun b => decide (f ≤ cgap m c b), e, ⟨fun e5 => ?_, fun _ => next _ _⟩⟩
      have hfar : Far m f (l ++ [c]) := by
        unfold Far at e1 ⊢
        rw [List.pairwise_append]
        refine ⟨e1, by simp, fun x hx y hy => ?_⟩
        rw [List.mem_singleton.mp hy, cgap_symm]
        rw [List.all_map, List.all_eq_true] at e5
        have := e5 x hx
        exact of_decide_eq_true this
      have hin : ∀ x ∈ l ++ [c], 0 ≤ x ∧ x < m := fun x hx => by
        rcases List.mem_append.mp hx with hx | hx
        · exact e2 x hx
        · rw [List.mem_singleton.mp hx]; exact ⟨hc1, hc2⟩
      have hb := far_bound (by omega) h1 h2 hfar hin
      have hlen : ((l ++ [c]).length : Int) * 1 ≤ ((l ++ [c]).length : Int) * f := Int.mul_le_mul_of_nonneg_left h1 (by omega)
      refine ⟨⟨by rw [z_len]; omega⟩, k _ ⟨l ++ [c], .d (.int k0), .d (.int c), hfar, hin, by omega, ?_⟩⟩
      rw [← one_z]
      rfl
    refine ⟨1 + st, m, rfl, ⟨fun _ => ⟨⟨Or.inl (by omega)⟩, ⟨by omega⟩, main _ _ (Int.emod_nonneg _ (by omega)) (Int.emod_lt_of_pos _ (by omega)) rfl⟩, fun _ => ⟨⟨Or.inl (by omega)⟩, ⟨by omega⟩, main _ _ (Int.emod_nonneg _ (by omega)) (Int.emod_lt_of_pos _ (by omega)) rfl⟩⟩⟩
  · rintro η ⟨l, x6, x7, e1, e2, e3, rfl⟩
    exact ⟨l, rfl, fun ms p _ => h ms (e1.perm p) fun x hx => e2 x (p.mem_iff.mp hx)⟩
theorem cal_law_grown (T : Txt K mg) : Cal P w K mg base 2 "_law_grown" s_law_grown ["bag", "modulus", "far", "first"] (sp_law_grown) :=
  cal_of T.a_law_grown sc_law_grown len_law_grown (fun f cdv A outer s H E hgu hr => dv_law_grown T f cdv A outer s H E hgu hr) pf_law_grown
/-! #### _law_is_small_right : slots 0=bag 1=modulus 2=far 3=is_named 4=most 5=turn 6=spread 7=led 8=rest 9=a 10=counts 11=due 12=lot 13=told 14=more 15=k 16=count -/
def td_law_is_small_right : TSd := (dSeq (dAsg (dCall sp_law_told (dCons (dVar 1) (dCons (dVar 2) (dCons (dVar 3) dNil)))) (gSet 4))
 (dSeq (dIf (dNot (dTruth (dCall sp_law_is (dCons (dVar 4) (dCons (dOpN fDiv 1 (dPeek 2)) dNil)))))
 (dRet (dC (.bool false)))
 dNext)
 (dSeq (dFor (dRange1 (dF (dC (.int 3)))) (gSet 5)
 (dSeq (dAsg (dCall sp_law_grown (dCons (dVar 0) (dCons (dVar 1) (dCons (dVar 2) (dCons (dCall sp_law_draw (dCons (dVar 0) (dCons (dVar 1) dNil))) dNil))))) (gSet 12))
 (dSeq (dAsg (dIfE (dTruth (dVar 3)) (dCallK sp_are_far [2, 1, 0] dNil (dCons (dVar 12) (dCons (dVar 2) (dCons (dVar 1) dNil)))) (dCall sp_are_far (dCons (dVar 1) (dCons (dVar 2) (dCons (dVar 12) dNil))))) (gSet 13))
 (dSeq (dIf (dOr (toB (dOpN (fIs true) 13 (dF (dC (.bool true))))) (toB (dOp fGt (dB1 fLen (dPeek 12)) (dPeek 4))))
 (dRet (dC (.bool false)))
 dNext)
 (dAsg (dNotV (dVar 3)) (gSet 3))))))
 (dSeq (dAsg (dIfE (dTruth (dVar 3)) (dCallK sp_spread_places [1, 0] dNil (dCons (dVar 2) (dCons (dVar 1) dNil))) (dCall sp_spread_places (dCons (dVar 1) (dCons (dVar 2) dNil)))) (gSet 6))
 (dSeq (dIf (dOr (toB (dOp fNe (dB1 fLen (dPeek 6)) (dPeek 4))) (toB (dOp (fIs true) (dCall sp_law_near (dCons (dVar 1) (dCons (dVar 2) (dCons (dVar 6) dNil)))) (dF (dC .none)))))
 (dRet (dC (.bool false)))
 dNext)
 (dSeq (dAsg (dCall sp_law_turned (dCons (dVar 1) (dCons (dVar 6) (dCons (dCall sp_law_draw (dCons (dVar 0) (dCons (dVar 1) dNil))) dNil)))) (gSet 7))
 (dSeq (dIf (dNot (dTruth (dCall sp_are_far (dCons (dVar 1) (dCons (dVar 2) (dCons (dVar 7) dNil))))))
 (dRet (dC (.bool false)))
 dNext)
 (dSeq (dAsg (dComp [9] (dRange1 (dPeek 1)) (gSet 9) (toB (dOpN (fInA true) 9 (dPeek 7))) (dVar 9)) (gSet 8))
 (dSeq (dFor (dIn (dFrz [8] (dComp [5] (dRange1 (dF (dIfE (toB (dOpN fNe 8 (dF (dLst dNil)))) (dC (.int 2)) (dC (.int 0))))) (gSet 5) dYes (dCall sp_law_pick (dCons (dVar 0) (dCons (dVar 8) dNil)))))) (gSet 9)
 (dSeq (dAsg (dB1 fTupOf (dF (dB1 fSortedA (dF (dOpN fAdd 7 (dF (dTup (dCons (dVar 9) dNil)))))))) (gSet 14))
 (dSeq (dAsg (dIfE (dTruth (dVar 3)) (dCallK sp_near_pair [2, 1, 0] dNil (dCons (dVar 14) (dCons (dVar 2) (dCons (dVar 1) dNil)))) (dCall sp_near_pair (dCons (dVar 1) (dCons (dVar 2) (dCons (dVar 14) dNil))))) (gSet 13))
 (dIf (dOr (toB (dOpN (fIs false) 13 (dF (dC .none)))) (dNot (dTruth (dCall sp_law_is (dCons (dVar 13) (dCons (dCall sp_law_near (dCons (dVar 1) (dCons (dVar 2) (dCons (dVar 14) dNil)))) dNil))))))
 (dRet (dC (.bool false)))
 dNext))))
 (dSeq (dFrzS [1, 2] (dAsg (dComp [15] (dRange2 (dOp fMax (dC (.int 0)) (dF (dOp fSub (dOp fMin (dC (.int 16)) (dPeek 4)) (dF (dC (.int 1)))))) (dF (dOp fAdd (dOp fMin (dC (.int 16)) (dF (dOpN fAdd 4 (dF (dC (.int 2)))))) (dF (dC (.int 1)))))) (gSet 15) dYes (dCall sp_far_lots_count (dCons (dVar 1) (dCons (dVar 2) (dCons (dVar 15) dNil))))) (gSet 10)))
 (dSeq (dAsg (dComp [15] (dRange2 (dOp fMax (dC (.int 0)) (dF (dOp fSub (dOp fMin (dC (.int 16)) (dPeek 4)) (dF (dC (.int 1)))))) (dF (dOp fAdd (dOp fMin (dC (.int 16)) (dF (dOpN fAdd 4 (dF (dC (.int 2)))))) (dF (dC (.int 1)))))) (gSet 15) dYes (dOpN fLe 15 (dPeek 4))) (gSet 11))
 (dRet (dOp fEq (dCompN [16] 10 (gSet 16) dYes (dOpN fGt 16 (dF (dC (.int 0))))) (dPeek 11))))))))))))))
theorem dv_law_is_small_right (T : Txt K mg) (f : Addr) (cdv : Value) (A : Around) (outer : List PySem.Env) (s : Shared) (H : Hp) (E : XK) (hgu : A.guards = some []) (hr : Room 3 (A.deeper (envOfC "_law_is_small_right" (defScope s_law_is_small_right) s.heap.objs.size f cdv))) :
    SDs (cxOf CX0 P w K mg base ["bag", "modulus", "far", "is_named", "most", "turn", "spread", "led", "rest", "a", "counts", "due", "lot", "told", "more", "k", "count"] "_law_is_small_right" (defScope s_law_is_small_right) f cdv A outer s H E).nox (defBody s_law_is_small_right) (td_law_is_small_right) := by
  have hu := hr.units
  have hu65 := units65 hr
  have nd := sc_law_is_small_right.nd
  exact (sd_cons (sd_set (i := 4) nd rfl (Or.inr rfl) (pd_callC (cal_law_told T) hgu (hr.mono (by decide)) (by rfl) (pl_cons (pd_var (pv 1)) (pl_cons (pd_var (pv 2)) (pl_cons (pd_var (pv 3)) pl_nil)))))
 (sd_cons (sd_if (pb_not (pb_truth (pd_callC (cal_law_is T) hgu (hr.mono (by decide)) (by rfl) (pl_cons (pd_var (pv 4)) (pl_cons (pd_opN od_div (pv 1) (pf_name (pv 2))) pl_nil)))))
 (sd_one (sd_ret pd_bl))
 sd_nil)
 (sd_cons (sd_for PassesOwn.never rfl (id_range1 (by rfl) T.b_range (pf_pd pd_int)) (gd_name (pg_name (i := 5) nd rfl (Or.inl rfl)))
 (sd_cons (sd_set (i := 12) nd rfl (Or.inl rfl) (pd_callC (cal_law_grown T) hgu (hr.mono (by decide)) (by rfl) (pl_cons (pd_var (pv 0)) (pl_cons (pd_var (pv 1)) (pl_cons (pd_var (pv 2)) (pl_cons (pd_callC (cal_law_draw T) hgu (hr.mono (by decide)) (by rfl) (pl_cons (pd_var (pv 0)) (pl_cons (pd_var (pv 1)) pl_nil))) pl_nil))))))
 (sd_cons (sd_set (i := 13) nd rfl (Or.inl rfl) (pd_if (pb_truth (pd_var (pv 3))) (pd_callKC0 (ks := ["places", "far", "modulus"]) (idx := [2, 1, 0]) (cal_are_far T) (fun f fd F => kb_mk (a := 0) (b := 3) F (by decide) fun _ _ _ _ _ _ us ws h1 h2 => match us, h1, ws, h2 with | [], _, [_, _, _], _ => rfl) hgu (hr.mono (by decide)) (by rfl) (pk_more (pd_var (pv 12)) (pk_more (pd_var (pv 2)) (pk_more (pd_var (pv 1)) pk_no)))) (pd_callC (cal_are_far T) hgu (hr.mono (by decide)) (by rfl) (pl_cons (pd_var (pv 1)) (pl_cons (pd_var (pv 2)) (pl_cons (pd_var (pv 12)) pl_nil))))))
 (sd_cons (sd_if (pb_w (pb_or (pb_cmpN od_isnot (pv 13) (pf_pd pd_bl) (nomark _)) (pw_one_or (pb_cmp od_gt (pd_b1 cd_len (pf_name (pv 12)) (by rfl) T.b_len (by decide +kernel)) (pf_name (pv 4)) (nomark _)))))
 (sd_one (sd_ret pd_bl))
 sd_nil)
 (sd_one (sd_set (i := 3) nd rfl (Or.inl rfl) (pd_not (pd_var (pv 3)))))))))
 (sd_cons (sd_set (i := 6) nd rfl (Or.inl rfl) (pd_if (pb_truth (pd_var (pv 3))) (pd_callKC0 (ks := ["far", "modulus"]) (idx := [1, 0]) (cal_spread_places T) (fun f fd F => kb_mk (a := 0) (b := 2) F (by decide) fun _ _ _ _ _ _ us ws h1 h2 => match us, h1, ws, h2 with | [], _, [_, _], _ => rfl) hgu (hr.mono (by decide)) (by rfl) (pk_more (pd_var (pv 2)) (pk_more (pd_var (pv 1)) pk_no))) (pd_callC (cal_spread_places T) hgu (hr.mono (by decide)) (by rfl) (pl_cons (pd_var (pv 1)) (pl_cons (pd_var (pv 2)) pl_nil)))))
 (sd_cons (sd_if (pb_w (pb_or (pb_cmp (od_ne hu) (pd_b1 cd_len (pf_name (pv 6)) (by rfl) T.b_len (by decide +kernel)) (pf_name (pv 4)) (nomark _)) (pw_one_or (pb_cmp od_isnot (pd_callC (cal_law_near T) hgu (hr.mono (by decide)) (by rfl) (pl_cons (pd_var (pv 1)) (pl_cons (pd_var (pv 2)) (pl_cons (pd_var (pv 6)) pl_nil)))) (pf_pd pd_non) (nomark _)))))
 (sd_one (sd_ret pd_bl))
 sd_nil)
 (sd_cons (sd_set (i := 7) nd rfl (Or.inr rfl) (pd_callC (cal_law_turned T) hgu (hr.mono (by decide)) (by rfl) (pl_cons (pd_var (pv 1)) (pl_cons (pd_var (pv 6)) (pl_cons (pd_callC (cal_law_draw T) hgu (hr.mono (by decide)) (by rfl) (pl_cons (pd_var (pv 0)) (pl_cons (pd_var (pv 1)) pl_nil))) pl_nil)))))
 (sd_cons (sd_if (pb_not (pb_truth (pd_callC (cal_are_far T) hgu (hr.mono (by decide)) (by rfl) (pl_cons (pd_var (pv 1)) (pl_cons (pd_var (pv 2)) (pl_cons (pd_var (pv 7)) pl_nil))))))
 (sd_one (sd_ret pd_bl))
 sd_nil)
 (sd_cons (sd_set (i := 8) nd rfl (Or.inr rfl) (pd_comp (own := [("a", 9)]) rfl nd (id_range1 (by rfl) T.b_range (pf_name (pv 1))) (show BlkOk ["bag", "modulus", "far", "is_named", "most", "turn", "spread", "led", "rest", "a", "counts", "due", "lot", "told", "more", "k", "count"] (defScope s_law_is_small_right) _ [("a", 9)] from blkOk_by (by decide +kernel)) (fun _ _ _ _ _ => (pg_name (i := 9) nd rfl (Or.inl rfl))) (gok_name (by decide)) (fun _ _ _ _ _ => (pts_of (pb_cmpN (od_notin hu65) (pv 9) (pf_name (pv 7)) (by rfl)))) (fun _ _ _ _ _ => (pd_var (pv 9)))))
 (sd_cons (sd_for PassesOwn.never rfl (id_seq (pd_frz (fs := [8]) (pd_comp (own := [("turn", 5)]) rfl nd (id_range1 (by rfl) T.b_range (pf_pd (pd_if (pb_cmpN (od_ne hu) (pv 8) (pf_pd (pd_lst pl_nil)) (nomark _)) pd_int pd_int))) (show BlkOk ["bag", "modulus", "far", "is_named", "most", "turn", "spread", "led", "rest", "a", "counts", "due", "lot", "told", "more", "k", "count"] (defScope s_law_is_small_right) _ [("turn", 5)] from blkOk_by (by decide +kernel)) (fun _ _ _ _ _ => (pg_name (i := 5) nd rfl (Or.inl rfl))) (gok_name (by decide)) (fun _ _ _ _ _ => pts_no) (fun _ _ _ _ _ => (pd_callC (cal_law_pick T) hgu (hr.mono (by decide)) (by rfl) (pl_cons (pd_var (pv 0)) (pl_cons (pd_var (pv 8)) pl_nil))))))) (gd_name (pg_name (i := 9) nd rfl (Or.inl rfl)))
 (sd_cons (sd_set (i := 14) nd rfl (Or.inl rfl) (pd_ty1 cd_tuple (pf_pd (pd_b1 cd_sortedA (pf_pd (pd_opN od_add (pv 7) (pf_pd (pd_tup (pl_cons (pd_var (pv 9)) pl_nil))))) (by rfl) T.b_sorted (by decide +kernel))) (by rfl) T.b_tuple (by decide +kernel)))
 (sd_cons (sd_set (i := 13) nd rfl (Or.inl rfl) (pd_if (pb_truth (pd_var (pv 3))) (pd_callKC0 (ks := ["places", "far", "modulus"]) (idx := [2, 1, 0]) (cal_near_pair T) (fun f fd F => kb_mk (a := 0) (b := 3) F (by decide) fun _ _ _ _ _ _ us ws h1 h2 => match us, h1, ws, h2 with | [], _, [_, _, _], _ => rfl) hgu (hr.mono (by decide)) (by rfl) (pk_more (pd_var (pv 14)) (pk_more (pd_var (pv 2)) (pk_more (pd_var (pv 1)) pk_no)))) (pd_callC (cal_near_pair T) hgu (hr.mono (by decide)) (by rfl) (pl_cons (pd_var (pv 1)) (pl_cons (pd_var (pv 2)) (pl_cons (pd_var (pv 14)) pl_nil))))))
 (sd_one (sd_if (pb_w (pb_or (pb_cmpN od_is (pv 13) (pf_pd pd_non) (nomark _)) (pw_one_or (pb_not (pb_truth (pd_callC (cal_law_is T) hgu (hr.mono (by decide)) (by rfl) (pl_cons (pd_var (pv 13)) (pl_cons (pd_callC (cal_law_near T) hgu (hr.mono (by decide)) (by rfl) (pl_cons (pd_var (pv 1)) (pl_cons (pd_var (pv 2)) (pl_cons (pd_var (pv 14)) pl_nil)))) pl_nil))))))))
 (sd_one (sd_ret pd_bl))
 sd_nil)))))
 (sd_cons (sd_frz (fs := [1, 2]) (sd_setComp (i := 10) (own := [("k", 15)]) rfl nd rfl rfl (sw_true rfl rfl rfl (by decide +kernel)) (id_range2 (by rfl) T.b_range (pd_b2 (cd_max rfl) pd_int (pf_pd (pd_op od_sub (pd_b2 (cd_min rfl) pd_int (pf_name (pv 4)) (by rfl) T.b_min (by decide +kernel)) (pf_pd pd_int))) (by rfl) T.b_max (by decide +kernel)) (pf_pd (pd_op od_add (pd_b2 (cd_min rfl) pd_int (pf_pd (pd_opN od_add (pv 4) (pf_pd pd_int))) (by rfl) T.b_min (by decide +kernel)) (pf_pd pd_int)))) (show BlkOk ["bag", "modulus", "far", "is_named", "most", "turn", "spread", "led", "rest", "a", "counts", "due", "lot", "told", "more", "k", "count"] (defScope s_law_is_small_right) _ [("k", 15)] from blkOk_by (by decide +kernel)) (fun _ _ _ _ _ => (pg_name (i := 15) nd rfl (Or.inl rfl))) (gok_name (by decide)) (fun _ _ _ _ _ => pts_no) (fun _ _ _ _ _ => (pd_callC (cal_far_lots_count T) hgu (hr.mono (by decide)) (by rfl) (pl_cons (pd_var (pv 1)) (pl_cons (pd_var (pv 2)) (pl_cons (pd_var (pv 15)) pl_nil)))))))
 (sd_cons (sd_setComp (i := 11) (own := [("k", 15)]) rfl nd rfl rfl (sw_true rfl rfl rfl (by decide +kernel)) (id_range2 (by rfl) T.b_range (pd_b2 (cd_max rfl) pd_int (pf_pd (pd_op od_sub (pd_b2 (cd_min rfl) pd_int (pf_name (pv 4)) (by rfl) T.b_min (by decide +kernel)) (pf_pd pd_int))) (by rfl) T.b_max (by decide +kernel)) (pf_pd (pd_op od_add (pd_b2 (cd_min rfl) pd_int (pf_pd (pd_opN od_add (pv 4) (pf_pd pd_int))) (by rfl) T.b_min (by decide +kernel)) (pf_pd pd_int)))) (show BlkOk ["bag", "modulus", "far", "is_named", "most", "turn", "spread", "led", "rest", "a", "counts", "due", "lot", "told", "more", "k", "count"] (defScope s_law_is_small_right) _ [("k", 15)] from blkOk_by (by decide +kernel)) (fun _ _ _ _ _ => (pg_name (i := 15) nd rfl (Or.inl rfl))) (gok_name (by decide)) (fun _ _ _ _ _ => pts_no) (fun _ _ _ _ _ => (pd_cmpN od_le (pv 15) (pf_name (pv 4)) (nomark _))))
 (sd_one (sd_ret (pd_cmp (od_eq hu) (pd_compN (own := [("count", 16)]) rfl nd (pv 10) (by decide) (show BlkOk ["bag", "modulus", "far", "is_named", "most", "turn", "spread", "led", "rest", "a", "counts", "due", "lot", "told", "more", "k", "count"] (defScope s_law_is_small_right) _ [("count", 16)] from blkOk_by (by decide +kernel)) (fun _ _ _ _ _ => (pg_name (i := 16) nd rfl (Or.inl rfl))) (gok_name (by decide)) (fun _ _ _ _ _ => pts_no) (fun _ _ _ _ _ => (pd_cmpN od_gt (pv 16) (pf_pd pd_int) (nomark _)))) (pf_name (pv 11)) (nomark _)))))))))))))))
theorem le_div {k m f : Int} (hf : 0 < f) : k ≤ m / f ↔ k * f ≤ m := Int.le_ediv_iff_mul_le hf
theorem spread_len {m f : Int} (hf : 0 < f) (hm : 0 ≤ m) : ((zints (spread m f)).length : Int) = m / f := by
  have : 0 ≤ m / f := Int.ediv_nonneg hm (by omega)
  rw [z_len]
  unfold spread
  rw [List.length_map, List.length_range]
  omega
theorem spread_in {m f : Int} (hf : 0 < f) (hm : 0 ≤ m) : ∀ x ∈ spread m f, 0 ≤ x ∧ x < m := fun x hx => by
  obtain ⟨k, hk, rfl⟩ := List.mem_map.mp hx
  have hk := List.mem_range.mp hk
  have h1 : ((k : Int) + 1) * f ≤ m := (le_div hf).mp (by omega)
  rw [Int.add_mul, Int.one_mul] at h1
  have h2 : 0 ≤ f * (k : Int) := Int.mul_nonneg (by omega) (by omega)
  have h3 : f * (k : Int) = (k : Int) * f := Int.mul_comm _ _
  omega
theorem spread_far {m f : Int} (hf : 0 < f) (hm : 0 < m) : Far m f (spread m f) := by
  have hin := spread_in hf (Int.le_of_lt hm)
  unfold Far spread
  rw [List.pairwise_map]
  refine List.Pairwise.imp_of_mem (R := (· < ·)) (fun {a b} ha hb hab => ?_) List.pairwise_lt_range
  have hb' := List.mem_range.mp hb
  have h1 : ((b : Int) + 1) * f ≤ m := (le_div hf).mp (by omega)
  rw [Int.add_mul, Int.one_mul] at h1
  have h2 : f * (b : Int) - f * (a : Int) = ((b : Int) - a) * f := by rw [Int.sub_mul, Int.mul_comm f b, Int.mul_comm f a]
  have h3 : 1 * f ≤ ((b : Int) - a) * f := Int.mul_le_mul_of_nonneg_right (by omega) (by omega)
  have h4 : f * (b : Int) = (b : Int) * f := Int.mul_comm _ _
  have h5 : 0 ≤ f * (a : Int) := Int.mul_nonneg (by omega) (by omega)
  have q5 : (f * (b : Int) - f * (a : Int)) % m = f * (b : Int) - f * (a : Int) := Int.emod_eq_of_lt (by omega) (by omega)
  unfold cgap
  rw [back_mod hm, q5]
  split <;> split <;> omega
theorem cgap_turn (m a b c : Int) : cgap m ((a + c) % m) ((b + c) % m) = cgap m a b := by
  unfold cgap
  rw [← Int.sub_emod, ← Int.sub_emod, show a + c - (b + c) = a - b by omega, show b + c - (a + c) = b - a by omega]
theorem far_turn {m f c : Int} {l : List Int} (h : Far m f l) : Far m f (l.map fun a => (a + c) % m) := by
  unfold Far at h ⊢
  rw [List.pairwise_map]
  exact h.imp fun {a b} q => by rw [cgap_turn]; exact q
def sp_law_is_small_right : SpD := fun xs Q => ∃ (m f : Int) (n : Bool), xs = [.bag, .d (.int m), .d (.int f), .d (.bool n)] ∧ 1 ≤ f ∧ f ≤ m ∧ m ≤ 100 ∧ Q (.d (.bool true))
theorem len_law_is_small_right : ∀ xs Q, sp_law_is_small_right xs Q → xs.length = 4 := by rintro xs Q ⟨m, l, b, rfl, h⟩; rfl
theorem pf_law_is_small_right : ∀ xs Q, sp_law_is_small_right xs Q → td_law_is_small_right { nx := fun _ => Q (.d .none), rt := Q } (xs ++ List.replicate (17 - xs.length) .no) := by
  rintro xs Q ⟨m, f, nm, rfl, h1, h2, h3, h⟩
  show td_law_is_small_right _ [.bag, .d (.int m), .d (.int f), .d (.bool nm), .no, .no, .no, .no, .no, .no, .no, .no, .no, .no, .no, .no, .no]
  have hm : 0 < m := by omega
  have hf : 0 < f := by omega
  have hq0 : 0 ≤ m / f := Int.ediv_nonneg (by omega) (by omega)
  have hq1 : m / f ≤ m := Int.ediv_le_self _ (by omega)
  have short : ∀ l : List Int, Far m f l → (∀ x ∈ l, 0 ≤ x ∧ x < m) → (l.length : Int) ≤ m / f := fun l a b => (le_div hf).mpr (far_bound hm h1 h2 a b)
  refine ⟨m, f, nm, rfl, by omega, by omega, ⟨by omega, by omega⟩, .int (m / f), 0, 30, rfl, Fit.int (by omega), by decide, by decide, br_f ?_⟩
  refine ⟨⟨by decide, by decide⟩, for_last (n := 3) (rng0 3) (fun x5 η => ∃ (nm : Bool) (x12 x13 : DV), η = [.bag, .d (.int m), .d (.int f), .d (.bool nm), .d (.int (m / f)), x5, .no, .no, .no, .no, .no, .no, x12, x13, .no, .no, .no]) ⟨_, _, _, rfl⟩ ?_ ?_⟩
  · rintro k0 x5 η hk0 ⟨nm, x12, x13, rfl⟩ Nx k
    refine ⟨m, rfl, by omega, by omega, fun a ha1 ha2 => ⟨m, f, a, rfl, by omega, by omega, by omega, by omega, by omega, fun l hl1 hl2 => ?_⟩⟩
    have hs := short l hl1 hl2
    have hn : (near m f l).isNone = true := by rw [(near_far l).mpr hl1]; rfl
    refine br_same (P := _) ?_ (fun _ p => ⟨m, f, l, rfl, by omega, by omega, p⟩) (fun _ p => ⟨m, f, l, rfl, by omega, by omega, p⟩)
    rw [hn]
    refine br_f ⟨fun e => absurd (of_decide_eq_true e) (by rw [z_len]; omega), fun _ => k _ ⟨_, _, _, rfl⟩⟩
  · rintro η ⟨nm, x12, x13, rfl⟩
    have hl := spread_len hf (by omega : 0 ≤ m)
    have hsf := spread_far hf hm
    have hsi := spread_in hf (by omega : 0 ≤ m)
    have hsl : (spread m f).length ≤ 200 := by rw [z_len] at hl; omega
    refine br_same (P := _) ?_ (fun _ p => ⟨m, f, rfl, by omega, by omega, by omega, by omega, p⟩) (fun _ p => ⟨m, f, rfl, by omega, by omega, by omega, by omega, p⟩)
    have e1 : (!decide (((zints (spread m f)).length : Int) = m / f)) = false := by rw [hl]; simp
    refine ⟨fun e => absurd (e1.symm.trans e) (by decide), fun _ => ?_⟩
    refine ⟨m, f, spread m f, rfl, by omega, by omega, ?_⟩
    rw [(near_far _).mpr hsf]
    refine br_f ?_
    refine ⟨m, rfl, by omega, by omega, fun c hc1 hc2 => ⟨m, spread m f, c, rfl, by omega, by omega, fun r hp => ?_⟩⟩
    have hrf : Far m f r := (far_turn hsf).perm hp
    have hri : ∀ x ∈ r, 0 ≤ x ∧ x < m := fun x hx => by
      obtain ⟨y, _, rfl⟩ := List.mem_map.mp (hp.mem_iff.mp hx)
      exact ⟨Int.emod_nonneg _ (by omega), Int.emod_lt_of_pos _ hm⟩
    have hrl : (r.length : Int) = m / f := by
      have := hp.length_eq
      rw [List.length_map] at this
      rw [z_len] at hl
      omega
    refine ⟨m, f, r, rfl, by omega, by omega, ?_⟩
    rw [(near_far _).mpr hrf]
    refine br_f ?_
    -- the rest
    have hrg : rng 0 m.toNat = nints (List.range m.toNat) := rng0 _
    refine ⟨⟨by omega, by omega⟩, ⟨by rw [rng_len]; omega⟩, comp_fm (fun d => match d with | .int a => !decide (a ∈ r) | _ => false) (fun d => d) ?_ ?_⟩
    · intro d hd C F g1 g2
      obtain ⟨i, hi, rfl⟩ := mem_rng hd
      exact ⟨_, r, rfl, rfl, ⟨fun e => ⟨⟨rfl⟩, g1 e⟩, fun e => ⟨⟨rfl⟩, g2 e⟩⟩⟩
    obtain ⟨rs, ers, hrs⟩ : ∃ rs : List Int, (((rng 0 m.toNat).filter (fun d => match d with | .int a => !decide (a ∈ r) | _ => false)).map fun d => d) = zints rs ∧ ∀ a ∈ rs, 0 ≤ a ∧ a < m := by
      refine ints_of fun z hz => ?_
      rw [List.map_id'] at hz
      obtain ⟨i, hi, rfl⟩ := mem_rng (List.mem_filter.mp hz).1
      exact ⟨_, by omega, rfl⟩
    rw [ers]
    have hrsl : rs.length ≤ 200 := by
      have := congrArg List.length ers
      rw [List.map_id', z_len] at this
      have h6 := List.length_filter_le (fun d => match d with | .int a => !decide (a ∈ r) | _ => false) (rng 0 m.toNat)
      rw [rng_len] at h6
      omega
    have srs : shp (.list (zints rs)) := (Fit.list (n := 30) (m := rs.length) (ints_fit fun i hi => by have := hrs i hi; omega) (by simp)).shp
    refine ⟨⟨srs⟩, ⟨shp_nil⟩, ?_⟩
    have fin : ∀ (D : EndsD) (x5 x9 x12 x13 x14 : DV), D.rt = Q → (dSeq (dFrzS [1, 2] (dAsg (dComp [15] (dRange2 (dOp fMax (dC (.int 0)) (dF (dOp fSub (dOp fMin (dC (.int 16)) (dPeek 4)) (dF (dC (.int 1)))))) (dF (dOp fAdd (dOp fMin (dC (.int 16)) (dF (dOpN fAdd 4 (dF (dC (.int 2)))))) (dF (dC (.int 1)))))) (gSet 15) dYes (dCall sp_far_lots_count (dCons (dVar 1) (dCons (dVar 2) (dCons (dVar 15) dNil))))) (gSet 10))) (dSeq (dAsg (dComp [15] (dRange2 (dOp fMax (dC (.int 0)) (dF (dOp fSub (dOp fMin (dC (.int 16)) (dPeek 4)) (dF (dC (.int 1)))))) (dF (dOp fAdd (dOp fMin (dC (.int 16)) (dF (dOpN fAdd 4 (dF (dC (.int 2)))))) (dF (dC (.int 1)))))) (gSet 15) dYes (dOpN fLe 15 (dPeek 4))) (gSet 11)) (dRet (dOp fEq (dCompN [16] 10 (gSet 16) dYes (dOpN fGt 16 (dF (dC (.int 0))))) (dPeek 11))))) D [.bag, .d (.int m), .d (.int f), .d (.bool nm), .d (.int (m / f)), x5, .d (.tuple (zints (spread m f))), .d (.tuple (zints r)), .d (.list (zints rs)), x9, .no, .no, x12, x13, x14, .no, .no] := by
      intro D x5 x9 x12 x13 x14 hD
      subst hD
      have H : ∀ lo hi : Int, lo = (if (if m / f < 16 then m / f else 16) - 1 > 0 then (if m / f < 16 then m / f else 16) - 1 else 0) → hi = (if m / f + 2 < 16 then m / f + 2 else 16) + 1 →
          0 ≤ lo ∧ lo ≤ 20 ∧ 0 ≤ hi ∧ hi ≤ 20 ∧ (rng lo (hi - lo).toNat).length ≤ 20 ∧ ∀ d ∈ rng lo (hi - lo).toNat, ∃ k : Int, d = .int k ∧ 0 ≤ k ∧ k ≤ 100 := by
        intro lo hi elo ehi
        have hlo : 0 ≤ lo := by rw [elo]; split <;> omega
        have hlo2 : lo ≤ 20 := by rw [elo]; split <;> (split <;> omega)
        have hhi : hi ≤ 20 := by rw [ehi]; split <;> omega
        have hhi0 : 0 ≤ hi := by rw [ehi]; split <;> omega
        refine ⟨hlo, hlo2, hhi0, hhi, by rw [rng_len]; omega, fun d hd => ?_⟩
        obtain ⟨i, h6, rfl⟩ := mem_rng hd
        exact ⟨_, rfl, by omega, by omega⟩
      obtain ⟨b1, b2, b3, b4, b5, b6⟩ := H _ _ rfl rfl
      refine ⟨⟨Int.le_trans (by decide) b1, Int.lt_of_le_of_lt b2 (by decide), Int.le_trans (by decide) b3, Int.lt_of_le_of_lt b4 (by decide)⟩, ⟨Nat.le_trans b5 (by decide)⟩, comp_all (fun d z => ∃ k c : Int, d = .int k ∧ z = .int c ∧ decide (0 < c) = decide (k ≤ m / f)) ?_ ?_⟩
      · intro d hd C F g1
        obtain ⟨k, rfl, k1, k2⟩ := b6 d hd
        exact ⟨fun _ => ⟨m, f, k, rfl, by omega, by omega, by omega, by omega, by omega, fun c hc => ⟨⟨rfl⟩, g1 _ ⟨k, c, rfl, rfl, hc⟩⟩⟩, fun q => nomatch q⟩
      intro zs hzs
      have hzl := hzs.len
      refine ⟨⟨Int.le_trans (by decide) b1, Int.lt_of_le_of_lt b2 (by decide), Int.le_trans (by decide) b3, Int.lt_of_le_of_lt b4 (by decide)⟩, ⟨Nat.le_trans b5 (by decide)⟩, comp_map (fun d => match d with | .int k => .bool (decide (k ≤ m / f)) | _ => .none) ?_ ?_⟩
      · intro d hd C F g1
        obtain ⟨k, rfl, k1, k2⟩ := b6 d hd
        exact ⟨fun _ => ⟨⟨rfl⟩, g1⟩, fun q => nomatch q⟩
      refine ⟨⟨Nat.le_trans (Nat.le_of_eq hzl.symm) (Nat.le_trans b5 (by decide))⟩, comp_all (fun z y => ∃ c : Int, z = .int c ∧ y = .bool (decide (0 < c))) ?_ ?_⟩
      · intro d hd C F g1
        obtain ⟨_, _, k, c, _, rfl, _⟩ := hzs.right d hd
        exact ⟨fun _ => ⟨⟨rfl⟩, g1 _ ⟨c, rfl, rfl⟩⟩, fun q => nomatch q⟩
      intro ys hys
      have e := All2.then (f := fun d => match d with | .int k => .bool (decide (k ≤ m / f)) | _ => .none) (by
        rintro x y z ⟨k, c, rfl, rfl, h7⟩ ⟨c', h8, rfl⟩
        cases h8
        show PyData.bool (decide (0 < c)) = .bool (decide (k ≤ m / f))
        rw [h7]) hzs hys
      subst e
      have ft : ∀ (L : List PyData), L.length ≤ 20 → (∀ d ∈ L, ∃ k : Int, d = .int k ∧ 0 ≤ k ∧ k ≤ 100) → Fit 1 200 (.list (L.map fun d => match d with | .int k => .bool (decide (k ≤ m / f)) | _ => .none)) := fun L h8 h9 =>
        (Fit.list (m := 20) (n := 5) (k := 0) (fun x hx => by
          obtain ⟨d, hd, rfl⟩ := List.mem_map.mp hx
          obtain ⟨k, rfl, _⟩ := h9 d hd
          exact Fit.bool) (by simpa using h8)).mono (by decide) (by decide)
      have ft2 := ft _ b5 b6
      refine ⟨⟨ft2.shp⟩, ⟨ft2.shp⟩, ?_⟩
      rw [ft2.eqv]
      exact h
    have loop : ∀ (as : List Int) (D : EndsD) (x5 x9 x12 x13 x14 : DV), (∀ a ∈ as, 0 ≤ a ∧ a < m) → D.nx = (dSeq (dFrzS [1, 2] (dAsg (dComp [15] (dRange2 (dOp fMax (dC (.int 0)) (dF (dOp fSub (dOp fMin (dC (.int 16)) (dPeek 4)) (dF (dC (.int 1)))))) (dF (dOp fAdd (dOp fMin (dC (.int 16)) (dF (dOpN fAdd 4 (dF (dC (.int 2)))))) (dF (dC (.int 1)))))) (gSet 15) dYes (dCall sp_far_lots_count (dCons (dVar 1) (dCons (dVar 2) (dCons (dVar 15) dNil))))) (gSet 10))) (dSeq (dAsg (dComp [15] (dRange2 (dOp fMax (dC (.int 0)) (dF (dOp fSub (dOp fMin (dC (.int 16)) (dPeek 4)) (dF (dC (.int 1)))))) (dF (dOp fAdd (dOp fMin (dC (.int 16)) (dF (dOpN fAdd 4 (dF (dC (.int 2)))))) (dF (dC (.int 1)))))) (gSet 15) dYes (dOpN fLe 15 (dPeek 4))) (gSet 11)) (dRet (dOp fEq (dCompN [16] 10 (gSet 16) dYes (dOpN fGt 16 (dF (dC (.int 0))))) (dPeek 11))))) { nx := fun _ => Q (.d .none), rt := Q } → Need (forRec (gSet 9) (dSeq (dAsg (dB1 fTupOf (dF (dB1 fSortedA (dF (dOpN fAdd 7 (dF (dTup (dCons (dVar 9) dNil)))))))) (gSet 14)) (dSeq (dAsg (dIfE (dTruth (dVar 3)) (dCallK sp_near_pair [2, 1, 0] dNil (dCons (dVar 14) (dCons (dVar 2) (dCons (dVar 1) dNil)))) (dCall sp_near_pair (dCons (dVar 1) (dCons (dVar 2) (dCons (dVar 14) dNil))))) (gSet 13)) (dIf (dOr (toB (dOpN (fIs false) 13 (dF (dC .none)))) (dNot (dTruth (dCall sp_law_is (dCons (dVar 13) (dCons (dCall sp_law_near (dCons (dVar 1) (dCons (dVar 2) (dCons (dVar 14) dNil)))) dNil)))))) (dRet (dC (.bool false))) dNext))) D (zints as) [.bag, .d (.int m), .d (.int f), .d (.bool nm), .d (.int (m / f)), x5, .d (.tuple (zints (spread m f))), .d (.tuple (zints r)), .d (.list (zints rs)), x9, .no, .no, x12, x13, x14, .no, .no]) := by
      intro as D x5 x9 x12 x13 x14 has hD
      refine for_inv (fun rest η => (∃ as2 : List Int, rest = zints as2 ∧ ∀ a ∈ as2, 0 ≤ a ∧ a < m) ∧ ∃ x5 x9 x12 x13 x14 : DV, η = [.bag, .d (.int m), .d (.int f), .d (.bool nm), .d (.int (m / f)), x5, .d (.tuple (zints (spread m f))), .d (.tuple (zints r)), .d (.list (zints rs)), x9, .no, .no, x12, x13, x14, .no, .no]) ⟨⟨as, rfl, has⟩, _, _, _, _, _, rfl⟩ ?_ ?_
      · rintro d ds η ⟨⟨as2, e2, has2⟩, x5, x9, x12, x13, x14, rfl⟩ Nx k
        match as2, e2 with
        | a :: as3, e2 =>
          obtain ⟨rfl, rfl⟩ : d = .int a ∧ ds = zints as3 := ⟨(List.cons.inj e2).1, (List.cons.inj e2).2⟩
          have ha := has2 a (by simp)
          refine ⟨⟨by show (zints r).length + 1 ≤ 1000000; rw [z_len]; omega⟩, r ++ [a], one_z r a, fun ms hms _ => ?_⟩
          have hml : ms.length = r.length + 1 := by rw [hms.length_eq]; simp
          have hmi : ∀ x ∈ ms, 0 ≤ x ∧ x < m := fun x hx => by
            rcases List.mem_append.mp (hms.mem_iff.mp hx) with hx | hx
            · exact hri x hx
            · rw [List.mem_singleton.mp hx]; exact ha
          have hnn : isNone (nearD (near m f ms)) = false := by
            rw [nearD_none]
            cases e : near m f ms with
            | some p => rfl
            | none =>
              have := short ms ((near_far ms).mp e) hmi
              omega
          refine br_same (P := _) ?_ (fun _ p => ⟨m, f, ms, rfl, by omega, by omega, p⟩) (fun _ p => ⟨m, f, ms, rfl, by omega, by omega, p⟩)
          refine ⟨fun e => absurd (hnn.symm.trans e) (by decide), fun _ => ?_⟩
          refine ⟨m, f, ms, rfl, by omega, by omega, nearD (near m f ms), 1, 100, rfl, near_fit m f ms fun x hx => by have := hmi x hx; omega, by decide, by decide, br_f ?_⟩
          exact k _ ⟨⟨as3, rfl, fun x hx => has2 x (List.mem_cons_of_mem _ hx)⟩, _, _, _, _, _, rfl⟩
        | [], e2 => cases e2
      · rintro η ⟨_, x5, x9, x12, x13, x14, rfl⟩
        rw [hD]
        exact fin _ _ _ _ _ _ rfl
    refine ⟨fun e => ?_, fun e => ?_⟩
    · have hne : 0 < rs.length := by
        rw [eqv_nil] at e
        cases rs with
        | nil => exact absurd e (by decide)
        | cons _ _ => simp
      refine ⟨⟨by decide, by decide⟩, ⟨by decide⟩, comp_all (fun _ z => ∃ a, (0 ≤ a ∧ a < m) ∧ z = .int a) ?_ ?_⟩
      · intro d hd C F g1
        exact ⟨fun _ => ⟨_, .inl rfl, by rw [z_len]; exact hne, by rw [z_len]; omega, fun y hy => ⟨⟨rfl⟩, by
          obtain ⟨a, ha, rfl⟩ := mem_z hy
          exact g1 _ ⟨a, hrs a ha, rfl⟩⟩⟩, fun q => nomatch q⟩
      · intro zs hzs
        obtain ⟨as, rfl, has⟩ := ints_of (P := fun a => 0 ≤ a ∧ a < m) fun z hz => by
          obtain ⟨_, _, q⟩ := hzs.right z hz
          exact q
        refine loop as _ _ _ _ _ _ has ?_
        rfl
    · refine ⟨⟨by decide, by decide⟩, ⟨by decide⟩, comp_all (fun _ _ => True) (fun d hd => absurd hd List.not_mem_nil) ?_⟩
      intro zs hzs
      have : zs = [] := by
        cases hzs
        rfl
      subst this
      refine loop [] _ _ _ _ _ _ (fun a ha => absurd ha List.not_mem_nil) ?_
      rfl
theorem cal_law_is_small_right (T : Txt K mg) : Cal P w K mg base 4 "_law_is_small_right" s_law_is_small_right ["bag", "modulus", "far", "is_named"] (sp_law_is_small_right) :=
  cal_of T.a_law_is_small_right sc_law_is_small_right len_law_is_small_right (fun f cdv A outer s H E hgu hr => dv_law_is_small_right T f cdv A outer s H E hgu hr) pf_law_is_small_right
/-! #### law : slots 0=script 1=bag 2=is_named 3=turn 4=modulus 5=far 6=some 7=told 8=own 9=k -/
def td_law (K : PySem.W.Frag) : TSd := (dSeq (dAsg (dCall (sp_law_own_bag K) (dCons (dVar 0) dNil)) (gSet 1))
 (dSeq (dAsg (dOp fEq (dCall sp_law_draw (dCons (dVar 1) (dCons (dC (.int 2)) dNil))) (dF (dC (.int 0)))) (gSet 2))
 (dSeq (dFor (dRange1 (dF (dC (.int 3)))) (gSet 3)
 (dSeq (dAsg (dCall sp_law_modulus (dCons (dVar 1) (dCons (dC (.int 30)) dNil))) (gSet 4))
 (dSeq (dIf (dNot (dTruth (dCall sp_law_is_small_right (dCons (dVar 1) (dCons (dVar 4) (dCons (dCall sp_law_far (dCons (dVar 1) (dCons (dVar 4) dNil))) (dCons (dVar 2) dNil)))))))
 (dRet (dC (.bool false)))
 dNext)
 (dAsg (dNotV (dVar 2)) (gSet 2)))))
 (dSeq (dFor (dRange1 (dF (dC (.int 3)))) (gSet 3)
 (dSeq (dAsg (dCall sp_law_modulus (dCons (dVar 1) (dCons (dOp fPow (dC (.int 10)) (dF (dC (.int 6)))) dNil))) (gSet 4))
 (dSeq (dAsg (dCall sp_law_far (dCons (dVar 1) (dCons (dVar 4) dNil))) (gSet 5))
 (dSeq (dAsg (dB1 fSortedA (dF (dLst (dCons (dVar 5) (dCons (dC (.int 1)) (dCons (dVar 4) (dCons (dCall sp_law_far (dCons (dVar 1) (dCons (dVar 4) dNil))) (dCons (dOp fMin (dVar 4) (dF (dOpN fAdd 5 (dF (dC (.int 1)))))) (dCons (dOp fMax (dC (.int 1)) (dF (dOpN fSub 5 (dF (dC (.int 1)))))) dNil))))))))) (gSet 6))
 (dSeq (dAsg (dFrz [2, 4] (dCompN [8] 6 (gSet 8) dYes (dCall sp_law_told (dCons (dVar 4) (dCons (dVar 8) (dCons (dVar 2) dNil)))))) (gSet 7))
 (dSeq (dIf (dNot (dTruth (dCall sp_law_is (dCons (dVar 7) (dCons (dCompN [8] 6 (gSet 8) dYes (dOpN fDiv 4 (dPeek 8))) dNil)))))
 (dRet (dC (.bool false)))
 dNext)
 (dSeq (dIf (dTruth (dB1 fAny (dF (dComp [9] (dRange2 (dC (.int 1)) (dF (dB1 fLen (dPeek 7)))) (gSet 9) dYes (dOp fGt (dOpN fIx 7 (dPeek 9)) (dF (dOpN fIx 7 (dF (dOpN fSub 9 (dF (dC (.int 1))))))))))))
 (dRet (dC (.bool false)))
 dNext)
 (dSeq (dIf (dOr (toB (dOp fNe (dCall sp_law_told (dCons (dVar 4) (dCons (dC (.int 1)) (dCons (dVar 2) dNil)))) (dPeek 4))) (toB (dOp fNe (dCall sp_law_told (dCons (dVar 4) (dCons (dVar 4) (dCons (dVar 2) dNil)))) (dF (dC (.int 1))))))
 (dRet (dC (.bool false)))
 dNext)
 (dAsg (dNotV (dVar 2)) (gSet 2))))))))))
 (dRet (dCall sp_law_is (dCons (dLst (dCons (dCall sp_most_far (dCons (dC (.int 10)) (dCons (dC (.int 3)) dNil))) (dCons (dCall sp_most_far (dCons (dC (.int 9)) (dCons (dC (.int 3)) dNil))) (dCons (dCallK sp_most_far [1, 0] dNil (dCons (dC (.int 4)) (dCons (dC (.int 11)) dNil))) (dCons (dCall sp_most_far (dCons (dC (.int 1)) (dCons (dC (.int 1)) dNil))) dNil))))) (dCons (dLst (dCons (dC (.int 3)) (dCons (dC (.int 3)) (dCons (dC (.int 2)) (dCons (dC (.int 1)) dNil))))) dNil))))))))
theorem dv_law (T : Txt K mg) (f : Addr) (cdv : Value) (A : Around) (outer : List PySem.Env) (s : Shared) (H : Hp) (E : XK) (hgu : A.guards = some []) (hr : Room 4 (A.deeper (envOfC "law" (defScope s_law) s.heap.objs.size f cdv))) :
    SDs (cxOf CX0 P w K mg base ["script", "bag", "is_named", "turn", "modulus", "far", "some", "told", "own", "k"] "law" (defScope s_law) f cdv A outer s H E).nox (defBody s_law) (td_law K) := by
  have hu := hr.units
  have hu65 := units65 hr
  have nd := sc_law.nd
  exact (sd_cons (sd_set (i := 1) nd rfl (Or.inl rfl) (pd_callC (cal_law_own_bag T) hgu (hr.mono (by decide)) (by rfl) (pl_cons (pd_var (pv 0)) pl_nil)))
 (sd_cons (sd_set (i := 2) nd rfl (Or.inr rfl) (pd_cmp (od_eq hu) (pd_callC (cal_law_draw T) hgu (hr.mono (by decide)) (by rfl) (pl_cons (pd_var (pv 1)) (pl_cons pd_int pl_nil))) (pf_pd pd_int) (nomark _)))
 (sd_cons (sd_for PassesOwn.never rfl (id_range1 (by rfl) T.b_range (pf_pd pd_int)) (gd_name (pg_name (i := 3) nd rfl (Or.inl rfl)))
 (sd_cons (sd_set (i := 4) nd rfl (Or.inr rfl) (pd_callC (cal_law_modulus T) hgu (hr.mono (by decide)) (by rfl) (pl_cons (pd_var (pv 1)) (pl_cons pd_int pl_nil))))
 (sd_cons (sd_if (pb_not (pb_truth (pd_callC (cal_law_is_small_right T) hgu (hr.mono (by decide)) (by rfl) (pl_cons (pd_var (pv 1)) (pl_cons (pd_var (pv 4)) (pl_cons (pd_callC (cal_law_far T) hgu (hr.mono (by decide)) (by rfl) (pl_cons (pd_var (pv 1)) (pl_cons (pd_var (pv 4)) pl_nil))) (pl_cons (pd_var (pv 2)) pl_nil)))))))
 (sd_one (sd_ret pd_bl))
 sd_nil)
 (sd_one (sd_set (i := 2) nd rfl (Or.inr rfl) (pd_not (pd_var (pv 2))))))))
 (sd_cons (sd_for PassesOwn.never rfl (id_range1 (by rfl) T.b_range (pf_pd pd_int)) (gd_name (pg_name (i := 3) nd rfl (Or.inl rfl)))
 (sd_cons (sd_set (i := 4) nd rfl (Or.inr rfl) (pd_callC (cal_law_modulus T) hgu (hr.mono (by decide)) (by rfl) (pl_cons (pd_var (pv 1)) (pl_cons (pd_op od_pow pd_int (pf_pd pd_int)) pl_nil))))
 (sd_cons (sd_set (i := 5) nd rfl (Or.inl rfl) (pd_callC (cal_law_far T) hgu (hr.mono (by decide)) (by rfl) (pl_cons (pd_var (pv 1)) (pl_cons (pd_var (pv 4)) pl_nil))))
 (sd_cons (sd_set (i := 6) nd rfl (Or.inl rfl) (pd_b1 cd_sortedA (pf_pd (pd_lst (pl_cons (pd_var (pv 5)) (pl_cons pd_int (pl_cons (pd_var (pv 4)) (pl_cons (pd_callC (cal_law_far T) hgu (hr.mono (by decide)) (by rfl) (pl_cons (pd_var (pv 1)) (pl_cons (pd_var (pv 4)) pl_nil))) (pl_cons (pd_b2 (cd_min rfl) (pd_var (pv 4)) (pf_pd (pd_opN od_add (pv 5) (pf_pd pd_int))) (by rfl) T.b_min (by decide +kernel)) (pl_cons (pd_b2 (cd_max rfl) pd_int (pf_pd (pd_opN od_sub (pv 5) (pf_pd pd_int))) (by rfl) T.b_max (by decide +kernel)) pl_nil)))))))) (by rfl) T.b_sorted (by decide +kernel)))
 (sd_cons (sd_set (i := 7) nd rfl (Or.inr rfl) (pd_frz (fs := [2, 4]) (pd_compN (own := [("own", 8)]) rfl nd (pv 6) (by decide) (show BlkOk ["script", "bag", "is_named", "turn", "modulus", "far", "some", "told", "own", "k"] (defScope s_law) _ [("own", 8)] from blkOk_by (by decide +kernel)) (fun _ _ _ _ _ => (pg_name (i := 8) nd rfl (Or.inl rfl))) (gok_name (by decide)) (fun _ _ _ _ _ => pts_no) (fun _ _ _ _ _ => (pd_callC (cal_law_told T) hgu (hr.mono (by decide)) (by rfl) (pl_cons (pd_var (pv 4)) (pl_cons (pd_var (pv 8)) (pl_cons (pd_var (pv 2)) pl_nil))))))))
 (sd_cons (sd_if (pb_not (pb_truth (pd_callC (cal_law_is T) hgu (hr.mono (by decide)) (by rfl) (pl_cons (pd_var (pv 7)) (pl_cons (pd_compN (own := [("own", 8)]) rfl nd (pv 6) (by decide) (show BlkOk ["script", "bag", "is_named", "turn", "modulus", "far", "some", "told", "own", "k"] (defScope s_law) _ [("own", 8)] from blkOk_by (by decide +kernel)) (fun _ _ _ _ _ => (pg_name (i := 8) nd rfl (Or.inl rfl))) (gok_name (by decide)) (fun _ _ _ _ _ => pts_no) (fun _ _ _ _ _ => (pd_opN od_div (pv 4) (pf_name (pv 8))))) pl_nil)))))
 (sd_one (sd_ret pd_bl))
 sd_nil)
 (sd_cons (sd_if (pb_truth (pd_b1 (cd_any rfl) (pf_pd (pd_comp (own := [("k", 9)]) rfl nd (id_range2 (by rfl) T.b_range pd_int (pf_pd (pd_b1 cd_len (pf_name (pv 7)) (by rfl) T.b_len (by decide +kernel)))) (show BlkOk ["script", "bag", "is_named", "turn", "modulus", "far", "some", "told", "own", "k"] (defScope s_law) _ [("k", 9)] from blkOk_by (by decide +kernel)) (fun _ _ _ _ _ => (pg_name (i := 9) nd rfl (Or.inl rfl))) (gok_name (by decide)) (fun _ _ _ _ _ => pts_no) (fun _ _ _ _ _ => (pd_cmp od_gt (pd_ixN (pv 7) (pf_name (pv 9))) (pf_pd (pd_ixN (pv 7) (pf_pd (pd_opN od_sub (pv 9) (pf_pd pd_int))))) (nomark _))))) (by rfl) T.b_any (by decide +kernel)))
 (sd_one (sd_ret pd_bl))
 sd_nil)
 (sd_cons (sd_if (pb_w (pb_or (pb_cmp (od_ne hu) (pd_callC (cal_law_told T) hgu (hr.mono (by decide)) (by rfl) (pl_cons (pd_var (pv 4)) (pl_cons pd_int (pl_cons (pd_var (pv 2)) pl_nil)))) (pf_name (pv 4)) (nomark _)) (pw_one_or (pb_cmp (od_ne hu) (pd_callC (cal_law_told T) hgu (hr.mono (by decide)) (by rfl) (pl_cons (pd_var (pv 4)) (pl_cons (pd_var (pv 4)) (pl_cons (pd_var (pv 2)) pl_nil)))) (pf_pd pd_int) (nomark _)))))
 (sd_one (sd_ret pd_bl))
 sd_nil)
 (sd_one (sd_set (i := 2) nd rfl (Or.inr rfl) (pd_not (pd_var (pv 2)))))))))))))
 (sd_one (sd_ret (pd_callC (cal_law_is T) hgu (hr.mono (by decide)) (by rfl) (pl_cons (pd_lst (pl_cons (pd_callC (cal_most_far T) hgu (hr.mono (by decide)) (by rfl) (pl_cons pd_int (pl_cons pd_int pl_nil))) (pl_cons (pd_callC (cal_most_far T) hgu (hr.mono (by decide)) (by rfl) (pl_cons pd_int (pl_cons pd_int pl_nil))) (pl_cons (pd_callKC0 (ks := ["far", "modulus"]) (idx := [1, 0]) (cal_most_far T) (fun f fd F => kb_mk (a := 0) (b := 2) F (by decide) fun _ _ _ _ _ _ us ws h1 h2 => match us, h1, ws, h2 with | [], _, [_, _], _ => rfl) hgu (hr.mono (by decide)) (by rfl) (pk_more pd_int (pk_more pd_int pk_no))) (pl_cons (pd_callC (cal_most_far T) hgu (hr.mono (by decide)) (by rfl) (pl_cons pd_int (pl_cons pd_int pl_nil))) pl_nil))))) (pl_cons (pd_lst (pl_cons pd_int (pl_cons pd_int (pl_cons pd_int (pl_cons pd_int pl_nil))))) pl_nil)))))))))
abbrev sp_law (K : PySem.W.Frag) : SpD := spLaw K
theorem len_law {K : PySem.W.Frag} : ∀ xs Q, sp_law K xs Q → xs.length = 1 := spLaw_len
theorem div_anti {m a b : Int} (ha : 0 < a) (hab : a ≤ b) (hm : 0 ≤ m) : m / b ≤ m / a := by
  rw [le_div ha]
  have h1 : m / b * b ≤ m := (le_div (by omega)).mp (Int.le_refl _)
  have h2 : 0 ≤ m / b := Int.ediv_nonneg hm (by omega)
  have h3 : m / b * a ≤ m / b * b := Int.mul_le_mul_of_nonneg_left hab h2
  omega
theorem pf_law {K : PySem.W.Frag} : ∀ xs Q, sp_law K xs Q → td_law K { nx := fun _ => Q (.d .none), rt := Q } (xs ++ List.replicate (10 - xs.length) .no) := by
  rintro xs Q ⟨ns, hl, rfl, h⟩
  show td_law K _ [.raw (isScr K ns), .no, .no, .no, .no, .no, .no, .no, .no, .no]
  refine ⟨ns, rfl, 2, rfl, by decide, by decide, fun r hr1 hr2 => ⟨⟨by decide, by decide⟩, ?_⟩⟩
  refine for_ints (n := 3) (rng0 3) (by decide) (fun η => ∃ (nm : Bool) (x3 x4 : DV), η = [.raw (isScr K ns), .bag, .d (.bool nm), x3, x4, .no, .no, .no, .no, .no]) ⟨_, _, _, rfl⟩ ?_ ?_
  · rintro k0 η hk0 ⟨nm, x3, x4, rfl⟩ Nx k
    refine ⟨30, rfl, by decide, by decide, fun m hm1 hm2 => ⟨m, rfl, by omega, by omega, fun f hf1 hf2 => ⟨m, f, nm, rfl, by omega, by omega, by omega, br_f ?_⟩⟩⟩
    exact k _ ⟨_, _, _, rfl⟩
  rintro η ⟨nm, x3, x4, rfl⟩
  refine ⟨⟨by decide, by decide⟩, for_ints (n := 3) (rng0 3) (by decide) (fun η => ∃ (nm : Bool) (x3 x4 x5 x6 x7 : DV), η = [.raw (isScr K ns), .bag, .d (.bool nm), x3, x4, x5, x6, x7, .no, .no]) ⟨_, _, _, _, _, _, rfl⟩ ?_ ?_⟩
  · rintro k0 η hk0 ⟨nm, x3, x4, x5, x6, x7, rfl⟩ Nx k
    refine ⟨⟨by decide, by decide, by decide⟩, 10 ^ (6 : Int).toNat, rfl, by decide, by decide, fun m hm1 hm2 => ?_⟩
    have hm2 : m ≤ 1000000 := hm2
    refine ⟨m, rfl, by omega, by omega, fun f hf1 hf2 => ⟨m, rfl, by omega, by omega, fun g hg1 hg2 => ?_⟩⟩
    refine ⟨[f, 1, m, g, (if f + 1 < m then f + 1 else m), (if f - 1 > 1 then f - 1 else 1)], rfl, fun so hp hs => ?_⟩
    have hin : ∀ x ∈ so, 1 ≤ x ∧ x ≤ m := fun x hx => by
      have hx := hp.mem_iff.mp hx
      simp only [List.mem_cons, List.not_mem_nil, or_false] at hx
      rcases hx with rfl | rfl | rfl | rfl | rfl | rfl <;> first | omega | (split <;> omega)
    have hsl : so.length = 6 := by rw [hp.length_eq]; rfl
    have em : (zints so).map (fun d => match d with | .int o => .int (m / o) | _ => .none) = zints (so.map fun o => m / o) := by
      unfold zints
      rw [List.map_map, List.map_map]
      rfl
    refine ⟨⟨by rw [z_len]; omega⟩, comp_map (fun d => match d with | .int o => .int (m / o) | _ => .none) ?_ ?_⟩
    · intro d hd C F g1
      obtain ⟨o, ho, rfl⟩ := mem_z hd
      have := hin o ho
      exact ⟨fun _ => ⟨m, o, nm, rfl, by omega, by omega, ⟨rfl⟩, g1⟩, fun q => nomatch q⟩
    rw [em]
    try dsimp only [put, nth, frz1, frzs, dropOwn, wipeD]
    refine ⟨⟨by rw [z_len]; omega⟩, comp_map (fun d => match d with | .int o => .int (m / o) | _ => .none) ?_ ?_⟩
    · intro d hd C F g1
      obtain ⟨o, ho, rfl⟩ := mem_z hd
      have := hin o ho
      exact ⟨fun _ => ⟨⟨by omega, by omega⟩, ⟨rfl⟩, g1⟩, fun q => nomatch q⟩
    rw [em]
    try dsimp only [put, nth, frz1, frzs, dropOwn, wipeD]
    have hq : ∀ x ∈ so.map (fun o => m / o), x.natAbs < 10 ^ 20 := fun x hx => by
      obtain ⟨o, ho, rfl⟩ := List.mem_map.mp hx
      have := hin o ho
      have h0 : 0 ≤ m / o := Int.ediv_nonneg (by omega) (by omega)
      have h1 : m / o ≤ m := Int.ediv_le_self _ (by omega)
      omega
    refine ⟨.list (zints (so.map fun o => m / o)), 1, 1000, rfl, (Fit.list (m := 6) (n := 30) (k := 0) (ints_fit hq) (by rw [z_len, List.length_map]; omega)).mono (by decide) (by decide), by decide, by decide, br_f ?_⟩
    try dsimp only [put, nth, frz1, frzs, dropOwn, wipeD]
    have htl : (zints (so.map fun o => m / o)).length = 6 := by rw [z_len, List.length_map, hsl]
    refine ⟨⟨by decide, by decide, by rw [htl]; decide, by rw [htl]; decide⟩, ⟨by rw [rng_len, htl]; decide⟩, comp_all (fun _ z => z = .bool false) ?_ ?_⟩
    · intro d hd C F g1
      obtain ⟨i, hi, rfl⟩ := mem_rng hd
      have hi6 : i + 1 < 6 := by rw [htl] at hi; omega
      have hi7 : i + 1 < (so.map fun o => m / o).length := by rw [List.length_map]; omega
      refine ⟨fun _ => ⟨_, atI_zi (i + 1) (by omega) hi7, _, atI_zi i (by omega) (by omega), ⟨rfl⟩, g1 _ ?_⟩, fun q => nomatch q⟩
      have hp2 : so[i]'(by omega) ≤ so[i + 1]'(by omega) := List.pairwise_iff_getElem.mp hs i (i + 1) (by omega) (by omega) (by omega)
      have h8 := hin (so[i]'(by omega)) (List.getElem_mem _)
      have h9 := div_anti (m := m) (a := so[i]'(by omega)) (b := so[i + 1]'(by omega)) (by omega) hp2 (by omega)
      have e1 : (so.map fun o => m / o).getD (i + 1) 0 = m / so[i + 1]'(by omega) := by
        rw [List.getD_eq_getElem?_getD, List.getElem?_eq_getElem hi7]
        simp
      have e2 : (so.map fun o => m / o).getD i 0 = m / so[i]'(by omega) := by
        rw [List.getD_eq_getElem?_getD, List.getElem?_eq_getElem (by omega)]
        simp
      rw [e1, e2]
      show PyData.bool (decide _) = _
      rw [decide_eq_false (by omega)]
    intro zs hzs
    try dsimp only [put, nth, frz1, frzs, dropOwn, wipeD]
    have ez := hzs.eq
    refine ⟨List.replicate zs.length false, ?_, ?_⟩
    · rw [ez, List.map_replicate, List.map_const', List.length_replicate]
    have ea : (List.replicate zs.length false).any id = false := by simp
    rw [ea]
    refine br_f ?_
    refine ⟨m, 1, nm, rfl, by decide, by decide, ⟨fun e => absurd e (by rw [Int.ediv_one]; simp), fun _ => ?_⟩⟩
    refine ⟨m, m, nm, rfl, by omega, by omega, ⟨fun e => absurd e (by rw [Int.ediv_self (by omega)]; simp), fun _ => ?_⟩⟩
    exact k _ ⟨_, _, _, _, _, _, rfl⟩
  rintro η ⟨nm, x3, x4, x5, x6, x7, rfl⟩
  refine ⟨10, 3, rfl, by decide, by decide, 9, 3, rfl, by decide, by decide, 11, 4, rfl, by decide, by decide, 1, 1, rfl, by decide, by decide, .list (zints [3, 3, 2, 1]), 1, 1000, rfl, ?_, by decide, by decide, h⟩
  exact (Fit.list (m := 4) (n := 30) (k := 0) (ints_fit (is := [3, 3, 2, 1]) (by decide)) (by decide)).mono (by decide) (by decide)
end
theorem all_mk {l : PySem.W.OpenLaw} {w : World} {K : PySem.W.Frag} {h : Heap} {mg : Str → Option Value} {fa : Addr} (X : K.In h) (G : h.Ns mainGlobals mg) (hfa : mg "law" = some (.ref fa))
    {f0 : Addr} {od0 an0 : Option Addr} {sl0 : Array (Option Value)} {oc0 kV0 dc0 pm0 cd0 ct0 : Value}
    (a0 : PySem.W.nsIn K mainGlobals "picks" = some (some (.ref f0))) (l0 : K.lookup f0 = some ⟨oc0, od0, .func (PySem.W.fnOf "picks" "picks" (defArgs s_picks) (defBody s_picks) (defScope s_picks) .none kV0 dc0 pm0 an0 cd0 ct0), sl0⟩) (c0 : PySem.W.codeIn K cd0 "picks" = true) (k0 : PySem.W.keepIn K (.ref f0) = true)
    {f1 : Addr} {od1 an1 : Option Addr} {sl1 : Array (Option Value)} {oc1 kV1 dc1 pm1 cd1 ct1 : Value}
    (a1 : PySem.W.nsIn K mainGlobals "far_lots_count" = some (some (.ref f1))) (l1 : K.lookup f1 = some ⟨oc1, od1, .func (PySem.W.fnOf "far_lots_count" "far_lots_count" (defArgs s_far_lots_count) (defBody s_far_lots_count) (defScope s_far_lots_count) .none kV1 dc1 pm1 an1 cd1 ct1), sl1⟩) (c1 : PySem.W.codeIn K cd1 "far_lots_count" = true) (k1 : PySem.W.keepIn K (.ref f1) = true)
    {f2 : Addr} {od2 an2 : Option Addr} {sl2 : Array (Option Value)} {oc2 kV2 dc2 pm2 cd2 ct2 : Value}
    (a2 : PySem.W.nsIn K mainGlobals "circle_gap" = some (some (.ref f2))) (l2 : K.lookup f2 = some ⟨oc2, od2, .func (PySem.W.fnOf "circle_gap" "circle_gap" (defArgs s_circle_gap) (defBody s_circle_gap) (defScope s_circle_gap) .none kV2 dc2 pm2 an2 cd2 ct2), sl2⟩) (c2 : PySem.W.codeIn K cd2 "circle_gap" = true) (k2 : PySem.W.keepIn K (.ref f2) = true)
    {f3 : Addr} {od3 an3 : Option Addr} {sl3 : Array (Option Value)} {oc3 kV3 dc3 pm3 cd3 ct3 : Value}
    (a3 : PySem.W.nsIn K mainGlobals "near_pair" = some (some (.ref f3))) (l3 : K.lookup f3 = some ⟨oc3, od3, .func (PySem.W.fnOf "near_pair" "near_pair" (defArgs s_near_pair) (defBody s_near_pair) (defScope s_near_pair) .none kV3 dc3 pm3 an3 cd3 ct3), sl3⟩) (c3 : PySem.W.codeIn K cd3 "near_pair" = true) (k3 : PySem.W.keepIn K (.ref f3) = true)
    {f4 : Addr} {od4 an4 : Option Addr} {sl4 : Array (Option Value)} {oc4 kV4 dc4 pm4 cd4 ct4 : Value}
    (a4 : PySem.W.nsIn K mainGlobals "are_far" = some (some (.ref f4))) (l4 : K.lookup f4 = some ⟨oc4, od4, .func (PySem.W.fnOf "are_far" "are_far" (defArgs s_are_far) (defBody s_are_far) (defScope s_are_far) .none kV4 dc4 pm4 an4 cd4 ct4), sl4⟩) (c4 : PySem.W.codeIn K cd4 "are_far" = true) (k4 : PySem.W.keepIn K (.ref f4) = true)
    {f5 : Addr} {od5 an5 : Option Addr} {sl5 : Array (Option Value)} {oc5 kV5 dc5 pm5 cd5 ct5 : Value}
    (a5 : PySem.W.nsIn K mainGlobals "most_far" = some (some (.ref f5))) (l5 : K.lookup f5 = some ⟨oc5, od5, .func (PySem.W.fnOf "most_far" "most_far" (defArgs s_most_far) (defBody s_most_far) (defScope s_most_far) .none kV5 dc5 pm5 an5 cd5 ct5), sl5⟩) (c5 : PySem.W.codeIn K cd5 "most_far" = true) (k5 : PySem.W.keepIn K (.ref f5) = true)
    {f6 : Addr} {od6 an6 : Option Addr} {sl6 : Array (Option Value)} {oc6 kV6 dc6 pm6 cd6 ct6 : Value}
    (a6 : PySem.W.nsIn K mainGlobals "few_far" = some (some (.ref f6))) (l6 : K.lookup f6 = some ⟨oc6, od6, .func (PySem.W.fnOf "few_far" "few_far" (defArgs s_few_far) (defBody s_few_far) (defScope s_few_far) .none kV6 dc6 pm6 an6 cd6 ct6), sl6⟩) (c6 : PySem.W.codeIn K cd6 "few_far" = true) (k6 : PySem.W.keepIn K (.ref f6) = true)
    {f7 : Addr} {od7 an7 : Option Addr} {sl7 : Array (Option Value)} {oc7 kV7 dc7 pm7 cd7 ct7 : Value}
    (a7 : PySem.W.nsIn K mainGlobals "spread_places" = some (some (.ref f7))) (l7 : K.lookup f7 = some ⟨oc7, od7, .func (PySem.W.fnOf "spread_places" "spread_places" (defArgs s_spread_places) (defBody s_spread_places) (defScope s_spread_places) .none kV7 dc7 pm7 an7 cd7 ct7), sl7⟩) (c7 : PySem.W.codeIn K cd7 "spread_places" = true) (k7 : PySem.W.keepIn K (.ref f7) = true)
    {f8 : Addr} {od8 an8 : Option Addr} {sl8 : Array (Option Value)} {oc8 kV8 dc8 pm8 cd8 ct8 : Value}
    (a8 : PySem.W.nsIn K mainGlobals "_law_own_bag" = some (some (.ref f8))) (l8 : K.lookup f8 = some ⟨oc8, od8, .func (PySem.W.fnOf "_law_own_bag" "_law_own_bag" (defArgs s_law_own_bag) (defBody s_law_own_bag) (defScope s_law_own_bag) .none kV8 dc8 pm8 an8 cd8 ct8), sl8⟩) (c8 : PySem.W.codeIn K cd8 "_law_own_bag" = true) (k8 : PySem.W.keepIn K (.ref f8) = true)
    {f9 : Addr} {od9 an9 : Option Addr} {sl9 : Array (Option Value)} {oc9 kV9 dc9 pm9 cd9 ct9 : Value}
    (a9 : PySem.W.nsIn K mainGlobals "_law_draw" = some (some (.ref f9))) (l9 : K.lookup f9 = some ⟨oc9, od9, .func (PySem.W.fnOf "_law_draw" "_law_draw" (defArgs s_law_draw) (defBody s_law_draw) (defScope s_law_draw) .none kV9 dc9 pm9 an9 cd9 ct9), sl9⟩) (c9 : PySem.W.codeIn K cd9 "_law_draw" = true) (k9 : PySem.W.keepIn K (.ref f9) = true)
    {f10 : Addr} {od10 an10 : Option Addr} {sl10 : Array (Option Value)} {oc10 kV10 dc10 pm10 cd10 ct10 : Value}
    (a10 : PySem.W.nsIn K mainGlobals "_law_pick" = some (some (.ref f10))) (l10 : K.lookup f10 = some ⟨oc10, od10, .func (PySem.W.fnOf "_law_pick" "_law_pick" (defArgs s_law_pick) (defBody s_law_pick) (defScope s_law_pick) .none kV10 dc10 pm10 an10 cd10 ct10), sl10⟩) (c10 : PySem.W.codeIn K cd10 "_law_pick" = true) (k10 : PySem.W.keepIn K (.ref f10) = true)
    {f11 : Addr} {od11 an11 : Option Addr} {sl11 : Array (Option Value)} {oc11 kV11 dc11 pm11 cd11 ct11 : Value}
    (a11 : PySem.W.nsIn K mainGlobals "_law_is" = some (some (.ref f11))) (l11 : K.lookup f11 = some ⟨oc11, od11, .func (PySem.W.fnOf "_law_is" "_law_is" (defArgs s_law_is) (defBody s_law_is) (defScope s_law_is) .none kV11 dc11 pm11 an11 cd11 ct11), sl11⟩) (c11 : PySem.W.codeIn K cd11 "_law_is" = true) (k11 : PySem.W.keepIn K (.ref f11) = true)
    {f12 : Addr} {od12 an12 : Option Addr} {sl12 : Array (Option Value)} {oc12 kV12 dc12 pm12 cd12 ct12 : Value}
    (a12 : PySem.W.nsIn K mainGlobals "_law_gcd" = some (some (.ref f12))) (l12 : K.lookup f12 = some ⟨oc12, od12, .func (PySem.W.fnOf "_law_gcd" "_law_gcd" (defArgs s_law_gcd) (defBody s_law_gcd) (defScope s_law_gcd) .none kV12 dc12 pm12 an12 cd12 ct12), sl12⟩) (c12 : PySem.W.codeIn K cd12 "_law_gcd" = true) (k12 : PySem.W.keepIn K (.ref f12) = true)
    {f13 : Addr} {od13 an13 : Option Addr} {sl13 : Array (Option Value)} {oc13 kV13 dc13 pm13 cd13 ct13 : Value}
    (a13 : PySem.W.nsIn K mainGlobals "_law_gap" = some (some (.ref f13))) (l13 : K.lookup f13 = some ⟨oc13, od13, .func (PySem.W.fnOf "_law_gap" "_law_gap" (defArgs s_law_gap) (defBody s_law_gap) (defScope s_law_gap) .none kV13 dc13 pm13 an13 cd13 ct13), sl13⟩) (c13 : PySem.W.codeIn K cd13 "_law_gap" = true) (k13 : PySem.W.keepIn K (.ref f13) = true)
    {f14 : Addr} {od14 an14 : Option Addr} {sl14 : Array (Option Value)} {oc14 kV14 dc14 pm14 cd14 ct14 : Value}
    (a14 : PySem.W.nsIn K mainGlobals "_law_modulus" = some (some (.ref f14))) (l14 : K.lookup f14 = some ⟨oc14, od14, .func (PySem.W.fnOf "_law_modulus" "_law_modulus" (defArgs s_law_modulus) (defBody s_law_modulus) (defScope s_law_modulus) .none kV14 dc14 pm14 an14 cd14 ct14), sl14⟩) (c14 : PySem.W.codeIn K cd14 "_law_modulus" = true) (k14 : PySem.W.keepIn K (.ref f14) = true)
    {f15 : Addr} {od15 an15 : Option Addr} {sl15 : Array (Option Value)} {oc15 kV15 dc15 pm15 cd15 ct15 : Value}
    (a15 : PySem.W.nsIn K mainGlobals "_law_far" = some (some (.ref f15))) (l15 : K.lookup f15 = some ⟨oc15, od15, .func (PySem.W.fnOf "_law_far" "_law_far" (defArgs s_law_far) (defBody s_law_far) (defScope s_law_far) .none kV15 dc15 pm15 an15 cd15 ct15), sl15⟩) (c15 : PySem.W.codeIn K cd15 "_law_far" = true) (k15 : PySem.W.keepIn K (.ref f15) = true)
    {f16 : Addr} {od16 an16 : Option Addr} {sl16 : Array (Option Value)} {oc16 kV16 dc16 pm16 cd16 ct16 : Value}
    (a16 : PySem.W.nsIn K mainGlobals "_law_near" = some (some (.ref f16))) (l16 : K.lookup f16 = some ⟨oc16, od16, .func (PySem.W.fnOf "_law_near" "_law_near" (defArgs s_law_near) (defBody s_law_near) (defScope s_law_near) .none kV16 dc16 pm16 an16 cd16 ct16), sl16⟩) (c16 : PySem.W.codeIn K cd16 "_law_near" = true) (k16 : PySem.W.keepIn K (.ref f16) = true)
    {f17 : Addr} {od17 an17 : Option Addr} {sl17 : Array (Option Value)} {oc17 kV17 dc17 pm17 cd17 ct17 : Value}
    (a17 : PySem.W.nsIn K mainGlobals "_law_turned" = some (some (.ref f17))) (l17 : K.lookup f17 = some ⟨oc17, od17, .func (PySem.W.fnOf "_law_turned" "_law_turned" (defArgs s_law_turned) (defBody s_law_turned) (defScope s_law_turned) .none kV17 dc17 pm17 an17 cd17 ct17), sl17⟩) (c17 : PySem.W.codeIn K cd17 "_law_turned" = true) (k17 : PySem.W.keepIn K (.ref f17) = true)
    {f18 : Addr} {od18 an18 : Option Addr} {sl18 : Array (Option Value)} {oc18 kV18 dc18 pm18 cd18 ct18 : Value}
    (a18 : PySem.W.nsIn K mainGlobals "_law_told" = some (some (.ref f18))) (l18 : K.lookup f18 = some ⟨oc18, od18, .func (PySem.W.fnOf "_law_told" "_law_told" (defArgs s_law_told) (defBody s_law_told) (defScope s_law_told) .none kV18 dc18 pm18 an18 cd18 ct18), sl18⟩) (c18 : PySem.W.codeIn K cd18 "_law_told" = true) (k18 : PySem.W.keepIn K (.ref f18) = true)
    {f19 : Addr} {od19 an19 : Option Addr} {sl19 : Array (Option Value)} {oc19 kV19 dc19 pm19 cd19 ct19 : Value}
    (a19 : PySem.W.nsIn K mainGlobals "_law_grown" = some (some (.ref f19))) (l19 : K.lookup f19 = some ⟨oc19, od19, .func (PySem.W.fnOf "_law_grown" "_law_grown" (defArgs s_law_grown) (defBody s_law_grown) (defScope s_law_grown) .none kV19 dc19 pm19 an19 cd19 ct19), sl19⟩) (c19 : PySem.W.codeIn K cd19 "_law_grown" = true) (k19 : PySem.W.keepIn K (.ref f19) = true)
    {f20 : Addr} {od20 an20 : Option Addr} {sl20 : Array (Option Value)} {oc20 kV20 dc20 pm20 cd20 ct20 : Value}
    (a20 : PySem.W.nsIn K mainGlobals "_law_is_small_right" = some (some (.ref f20))) (l20 : K.lookup f20 = some ⟨oc20, od20, .func (PySem.W.fnOf "_law_is_small_right" "_law_is_small_right" (defArgs s_law_is_small_right) (defBody s_law_is_small_right) (defScope s_law_is_small_right) .none kV20 dc20 pm20 an20 cd20 ct20), sl20⟩) (c20 : PySem.W.codeIn K cd20 "_law_is_small_right" = true) (k20 : PySem.W.keepIn K (.ref f20) = true)
    {f21 : Addr} {od21 an21 : Option Addr} {sl21 : Array (Option Value)} {oc21 kV21 dc21 pm21 cd21 ct21 : Value}
    (a21 : PySem.W.nsIn K mainGlobals "law" = some (some (.ref f21))) (l21 : K.lookup f21 = some ⟨oc21, od21, .func (PySem.W.fnOf "law" "law" (defArgs s_law) (defBody s_law) (defScope s_law) .none kV21 dc21 pm21 an21 cd21 ct21), sl21⟩) (c21 : PySem.W.codeIn K cd21 "law" = true) (k21 : PySem.W.keepIn K (.ref f21) = true)
    (z_abs : PySem.W.nsIn K mainGlobals "abs" = some none)
    (z_all : PySem.W.nsIn K mainGlobals "all" = some none)
    (z_any : PySem.W.nsIn K mainGlobals "any" = some none)
    (z_enumerate : PySem.W.nsIn K mainGlobals "enumerate" = some none)
    (z_int : PySem.W.nsIn K mainGlobals "int" = some none)
    (z_len : PySem.W.nsIn K mainGlobals "len" = some none)
    (z_list : PySem.W.nsIn K mainGlobals "list" = some none)
    (z_max : PySem.W.nsIn K mainGlobals "max" = some none)
    (z_min : PySem.W.nsIn K mainGlobals "min" = some none)
    (z_range : PySem.W.nsIn K mainGlobals "range" = some none)
    (z_repr : PySem.W.nsIn K mainGlobals "repr" = some none)
    (z_reversed : PySem.W.nsIn K mainGlobals "reversed" = some none)
    (z_sorted : PySem.W.nsIn K mainGlobals "sorted" = some none)
    (z_tuple : PySem.W.nsIn K mainGlobals "tuple" = some none)
    {t_MAX_LISTED : Tok} (g_MAX_LISTED : PySem.W.nsIn K mainGlobals "MAX_LISTED" = some (some (.int 500 t_MAX_LISTED)))
    : ∃ fd : FuncData, (∀ (s : Shared) (v : Value), BindsTo s fd ⟨[v], []⟩ [("script", v)]) ∧ ∀ base : Heap, K.In base → base.Ns mainGlobals mg → FnG l.prog w K mg base CX0 5 fa fd ["script"] (lSp (sp_law K)) := by
  have e := hfa.symm.trans (PySem.W.mg_of X G a21)
  cases e
  have T : Txt K mg := by
    refine ⟨?_, ?_, ?_, ?_, ?_, ?_, ?_, ?_, ?_, ?_, ?_, ?_, ?_, ?_, ?_, ?_, ?_, ?_, ?_, ?_, ?_, ?_, ?_, ?_, ?_, ?_, ?_, ?_, ?_, ?_, ?_, ?_, ?_, ?_, ?_, ?_, ?_⟩
    · exact ⟨_, _, fun_mk (st := s_picks) l0 c0 k0, PySem.W.mg_of X G a0, (fun_mk (st := s_picks) l0 c0 k0).binds (ps := ["many", "few"]) fun _ _ _ _ _ _ us hl => match us, hl with | [_, _], _ => rfl⟩
    · exact ⟨_, _, fun_mk (st := s_far_lots_count) l1 c1 k1, PySem.W.mg_of X G a1, (fun_mk (st := s_far_lots_count) l1 c1 k1).binds (ps := ["modulus", "far", "many"]) fun _ _ _ _ _ _ us hl => match us, hl with | [_, _, _], _ => rfl⟩
    · exact ⟨_, _, fun_mk (st := s_circle_gap) l2 c2 k2, PySem.W.mg_of X G a2, (fun_mk (st := s_circle_gap) l2 c2 k2).binds (ps := ["modulus", "a", "b"]) fun _ _ _ _ _ _ us hl => match us, hl with | [_, _, _], _ => rfl⟩
    · exact ⟨_, _, fun_mk (st := s_near_pair) l3 c3 k3, PySem.W.mg_of X G a3, (fun_mk (st := s_near_pair) l3 c3 k3).binds (ps := ["modulus", "far", "places"]) fun _ _ _ _ _ _ us hl => match us, hl with | [_, _, _], _ => rfl⟩
    · exact ⟨_, _, fun_mk (st := s_are_far) l4 c4 k4, PySem.W.mg_of X G a4, (fun_mk (st := s_are_far) l4 c4 k4).binds (ps := ["modulus", "far", "places"]) fun _ _ _ _ _ _ us hl => match us, hl with | [_, _, _], _ => rfl⟩
    · exact ⟨_, _, fun_mk (st := s_most_far) l5 c5 k5, PySem.W.mg_of X G a5, (fun_mk (st := s_most_far) l5 c5 k5).binds (ps := ["modulus", "far"]) fun _ _ _ _ _ _ us hl => match us, hl with | [_, _], _ => rfl⟩
    · exact ⟨_, _, fun_mk (st := s_few_far) l6 c6 k6, PySem.W.mg_of X G a6, (fun_mk (st := s_few_far) l6 c6 k6).binds (ps := ["modulus", "far"]) fun _ _ _ _ _ _ us hl => match us, hl with | [_, _], _ => rfl⟩
    · exact ⟨_, _, fun_mk (st := s_spread_places) l7 c7 k7, PySem.W.mg_of X G a7, (fun_mk (st := s_spread_places) l7 c7 k7).binds (ps := ["modulus", "far"]) fun _ _ _ _ _ _ us hl => match us, hl with | [_, _], _ => rfl⟩
    · exact ⟨_, _, fun_mk (st := s_law_own_bag) l8 c8 k8, PySem.W.mg_of X G a8, (fun_mk (st := s_law_own_bag) l8 c8 k8).binds (ps := ["script"]) fun _ _ _ _ _ _ us hl => match us, hl with | [_], _ => rfl⟩
    · exact ⟨_, _, fun_mk (st := s_law_draw) l9 c9 k9, PySem.W.mg_of X G a9, (fun_mk (st := s_law_draw) l9 c9 k9).binds (ps := ["bag", "below"]) fun _ _ _ _ _ _ us hl => match us, hl with | [_, _], _ => rfl⟩
    · exact ⟨_, _, fun_mk (st := s_law_pick) l10 c10 k10, PySem.W.mg_of X G a10, (fun_mk (st := s_law_pick) l10 c10 k10).binds (ps := ["bag", "some"]) fun _ _ _ _ _ _ us hl => match us, hl with | [_, _], _ => rfl⟩
    · exact ⟨_, _, fun_mk (st := s_law_is) l11 c11 k11, PySem.W.mg_of X G a11, (fun_mk (st := s_law_is) l11 c11 k11).binds (ps := ["told", "due"]) fun _ _ _ _ _ _ us hl => match us, hl with | [_, _], _ => rfl⟩
    · exact ⟨_, _, fun_mk (st := s_law_gcd) l12 c12 k12, PySem.W.mg_of X G a12, (fun_mk (st := s_law_gcd) l12 c12 k12).binds (ps := ["a", "b"]) fun _ _ _ _ _ _ us hl => match us, hl with | [_, _], _ => rfl⟩
    · exact ⟨_, _, fun_mk (st := s_law_gap) l13 c13 k13, PySem.W.mg_of X G a13, (fun_mk (st := s_law_gap) l13 c13 k13).binds (ps := ["modulus", "a", "b"]) fun _ _ _ _ _ _ us hl => match us, hl with | [_, _, _], _ => rfl⟩
    · exact ⟨_, _, fun_mk (st := s_law_modulus) l14 c14 k14, PySem.W.mg_of X G a14, (fun_mk (st := s_law_modulus) l14 c14 k14).binds (ps := ["bag", "most"]) fun _ _ _ _ _ _ us hl => match us, hl with | [_, _], _ => rfl⟩
    · exact ⟨_, _, fun_mk (st := s_law_far) l15 c15 k15, PySem.W.mg_of X G a15, (fun_mk (st := s_law_far) l15 c15 k15).binds (ps := ["bag", "modulus"]) fun _ _ _ _ _ _ us hl => match us, hl with | [_, _], _ => rfl⟩
    · exact ⟨_, _, fun_mk (st := s_law_near) l16 c16 k16, PySem.W.mg_of X G a16, (fun_mk (st := s_law_near) l16 c16 k16).binds (ps := ["modulus", "far", "places"]) fun _ _ _ _ _ _ us hl => match us, hl with | [_, _, _], _ => rfl⟩
    · exact ⟨_, _, fun_mk (st := s_law_turned) l17 c17 k17, PySem.W.mg_of X G a17, (fun_mk (st := s_law_turned) l17 c17 k17).binds (ps := ["modulus", "places", "by"]) fun _ _ _ _ _ _ us hl => match us, hl with | [_, _, _], _ => rfl⟩
    · exact ⟨_, _, fun_mk (st := s_law_told) l18 c18 k18, PySem.W.mg_of X G a18, (fun_mk (st := s_law_told) l18 c18 k18).binds (ps := ["modulus", "far", "is_named"]) fun _ _ _ _ _ _ us hl => match us, hl with | [_, _, _], _ => rfl⟩
    · exact ⟨_, _, fun_mk (st := s_law_grown) l19 c19 k19, PySem.W.mg_of X G a19, (fun_mk (st := s_law_grown) l19 c19 k19).binds (ps := ["bag", "modulus", "far", "first"]) fun _ _ _ _ _ _ us hl => match us, hl with | [_, _, _, _], _ => rfl⟩
    · exact ⟨_, _, fun_mk (st := s_law_is_small_right) l20 c20 k20, PySem.W.mg_of X G a20, (fun_mk (st := s_law_is_small_right) l20 c20 k20).binds (ps := ["bag", "modulus", "far", "is_named"]) fun _ _ _ _ _ _ us hl => match us, hl with | [_, _, _, _], _ => rfl⟩
    · exact ⟨_, _, fun_mk (st := s_law) l21 c21 k21, PySem.W.mg_of X G a21, (fun_mk (st := s_law) l21 c21 k21).binds (ps := ["script"]) fun _ _ _ _ _ _ us hl => match us, hl with | [_], _ => rfl⟩
    · exact PySem.W.mg_none_of X G z_abs
    · exact PySem.W.mg_none_of X G z_all
    · exact PySem.W.mg_none_of X G z_any
    · exact PySem.W.mg_none_of X G z_enumerate
    · exact PySem.W.mg_none_of X G z_int
    · exact PySem.W.mg_none_of X G z_len
    · exact PySem.W.mg_none_of X G z_list
    · exact PySem.W.mg_none_of X G z_max
    · exact PySem.W.mg_none_of X G z_min
    · exact PySem.W.mg_none_of X G z_range
    · exact PySem.W.mg_none_of X G z_repr
    · exact PySem.W.mg_none_of X G z_reversed
    · exact PySem.W.mg_none_of X G z_sorted
    · exact PySem.W.mg_none_of X G z_tuple
    · exact ⟨_, PySem.W.mg_of X G g_MAX_LISTED⟩
  refine ⟨PySem.W.fnOf "law" "law" (defArgs s_law) (defBody s_law) (defScope s_law) .none kV21 dc21 pm21 an21 cd21 ct21, fun s v => .of_eq rfl, fun base _ _ => ?_⟩
  exact fn_body (fun_mk (st := s_law) l21 c21 k21) sc_law len_law (fun cdv A outer s H E hgu hr => dv_law T _ cdv A outer s H E hgu hr) pf_law
theorem walk {l : PySem.W.OpenLaw} {q : Program} {loose : List Str} {XP : (Str → Option Value) → Heap → Prop} {YP : World → Heap → Prop} {d : DefRec} {K : Params → PySem.W.Frag} (hn : l.most = some 63) (hdf : d.params.defaults = [])
    (hY : ∀ (w : World) (h : Heap), YP w h → (K w.params).In h)
    (F : ∀ (w : World) (mg : Str → Option Value) (fa : Addr) (h : Heap), (K w.params).In h → h.Ns mainGlobals mg → mg d.name = some (.ref fa) →
      ∃ fd : FuncData, (∀ (s : Shared) (u : Value), BindsTo s fd ⟨[u], []⟩ [("script", u)]) ∧ ∀ base : Heap, (K w.params).In base → base.Ns mainGlobals mg → FnG l.prog w (K w.params) mg base CX0 5 fa fd ["script"] (lSp (sp_law (K w.params)))) :
    PySem.W.WalkO q loose XP YP l.row.toRowW d [] (fun f vs => PySem.call f vs) :=
  L2.Gd.walk_ofG (n := 63) (k := 5) (x := "script") (CX := fun _ => CX0) (sp := fun w => lSp (sp_law (K w.params))) hn (by decide) hdf ⟨rfl, by decide, by decide⟩ hY F (fun w H a ns hl ho hS => law_start hl hS) fun _ _ _ _ _ z => z
end L2.Gd.k03
open PySem PySem.W PyProof.Rows
set_option maxRecDepth 100000 in
set_option maxHeartbeats 0 in
theorem PySem.Challenge.cw_typedtokens_k03_whole_main_how_many_far_holds : PySem.Challenge.rw_typedtokens_k03_whole_main_how_many_far.Holds := by
  w_on; o_law; k_head; (case hw => w_witness2)
  k_fill
  refine L2.Gd.k03.walk (l := PySem.Challenge.rw_typedtokens_k03_whole_main_how_many_far) rfl rfl (fun w h Y => PySem.W.kIn_of Y) ?F
  case F =>
    intro w mg fa h KX G hmg
    refine' L2.Gd.k03.all_mk KX G hmg ?a0 ?l0 ?c0 ?k0 ?a1 ?l1 ?c1 ?k1 ?a2 ?l2 ?c2 ?k2 ?a3 ?l3 ?c3 ?k3 ?a4 ?l4 ?c4 ?k4 ?a5 ?l5 ?c5 ?k5 ?a6 ?l6 ?c6 ?k6 ?a7 ?l7 ?c7 ?k7 ?a8 ?l8 ?c8 ?k8 ?a9 ?l9 ?c9 ?k9 ?a10 ?l10 ?c10 ?k10 ?a11 ?l11 ?c11 ?k11 ?a12 ?l12 ?c12 ?k12 ?a13 ?l13 ?c13 ?k13 ?a14 ?l14 ?c14 ?k14 ?a15 ?l15 ?c15 ?k15 ?a16 ?l16 ?c16 ?k16 ?a17 ?l17 ?c17 ?k17 ?a18 ?l18 ?c18 ?k18 ?a19 ?l19 ?c19 ?k19 ?a20 ?l20 ?c20 ?k20 ?a21 ?l21 ?c21 ?k21 ?z_abs ?z_all ?z_any ?z_enumerate ?z_int ?z_len ?z_list ?z_max ?z_min ?z_range ?z_repr ?z_reversed ?z_sorted ?z_tuple ?g_MAX_LISTED
    (case a0 => k_is); (case l0 => k_is); (case c0 => k_is); (case k0 => k_is)
    (case a1 => k_is); (case l1 => k_is); (case c1 => k_is); (case k1 => k_is)
    (case a2 => k_is); (case l2 => k_is); (case c2 => k_is); (case k2 => k_is)
    (case a3 => k_is); (case l3 => k_is); (case c3 => k_is); (case k3 => k_is)
    (case a4 => k_is); (case l4 => k_is); (case c4 => k_is); (case k4 => k_is)
    (case a5 => k_is); (case l5 => k_is); (case c5 => k_is); (case k5 => k_is)
    (case a6 => k_is); (case l6 => k_is); (case c6 => k_is); (case k6 => k_is)
    (case a7 => k_is); (case l7 => k_is); (case c7 => k_is); (case k7 => k_is)
    (case a8 => k_is); (case l8 => k_is); (case c8 => k_is); (case k8 => k_is)
    (case a9 => k_is); (case l9 => k_is); (case c9 => k_is); (case k9 => k_is)
    (case a10 => k_is); (case l10 => k_is); (case c10 => k_is); (case k10 => k_is)
    (case a11 => k_is); (case l11 => k_is); (case c11 => k_is); (case k11 => k_is)
    (case a12 => k_is); (case l12 => k_is); (case c12 => k_is); (case k12 => k_is)
    (case a13 => k_is); (case l13 => k_is); (case c13 => k_is); (case k13 => k_is)
    (case a14 => k_is); (case l14 => k_is); (case c14 => k_is); (case k14 => k_is)
    (case a15 => k_is); (case l15 => k_is); (case c15 => k_is); (case k15 => k_is)
    (case a16 => k_is); (case l16 => k_is); (case c16 => k_is); (case k16 => k_is)
    (case a17 => k_is); (case l17 => k_is); (case c17 => k_is); (case k17 => k_is)
    (case a18 => k_is); (case l18 => k_is); (case c18 => k_is); (case k18 => k_is)
    (case a19 => k_is); (case l19 => k_is); (case c19 => k_is); (case k19 => k_is)
    (case a20 => k_is); (case l20 => k_is); (case c20 => k_is); (case k20 => k_is)
    (case a21 => k_is); (case l21 => k_is); (case c21 => k_is); (case k21 => k_is)
    (case z_abs => k_is)
    (case z_all => k_is)
    (case z_any => k_is)
    (case z_enumerate => k_is)
    (case z_int => k_is)
    (case z_len => k_is)
    (case z_list => k_is)
    (case z_max => k_is)
    (case z_min => k_is)
    (case z_range => k_is)
    (case z_repr => k_is)
    (case z_reversed => k_is)
    (case z_sorted => k_is)
    (case z_tuple => k_is)
    (case g_MAX_LISTED => k_is)
